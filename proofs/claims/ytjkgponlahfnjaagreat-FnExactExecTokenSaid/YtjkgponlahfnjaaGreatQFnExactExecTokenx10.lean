/- Walks of functions of the program, made out of the translation by a program of this session: each answers what its plain function tells, for every input at which that is told. -/
import Derived.Test.YtjkgponlahfnjaaGreatQFnExactExecTokenx0
namespace Go.Proofs.YtjkgponlahfnjaaGreat.QFnExactExecToken
open Go.RowKit Go.Proofs.YtjkgponlahfnjaaGreatW.PrintWords Go.Proofs.YtjkgponlahfnjaaGreatW.PrintLast Go.Proofs.YtjkgponlahfnjaaGreatW.PrintMore
attribute [local go_sem] max2_int min2_int max_two min_two max_three min_three max_four min_four   -- for this text's walks alone
set_option linter.unusedVariables false
set_option linter.unusedSimpArgs false
set_option maxHeartbeats 8000000
set_option maxRecDepth 100000
/-! ### laws_toIntS: function 76 -/
def laws_toIntS.l0 : Nat → List Int → List Int → Int → Option (List Int)
 | 0, _, _, _ => none
 | k + 1, x0, x3, x4 => if x4 < (x0.length : Int) then (if 0 ≤ x4 then (if x4 < (x3.length : Int) then (laws_toIntS.l0 k x0 (x3.set (x4 : Int).toNat (rd x0 x4)) (wrap64 (x4 + 1))) else (none)) else (none)) else (some x3)
def laws_toIntS.f (k : Nat) (l0 : List Int) : Option (List Int) := if 0 ≤ (l0.length : Int) then (if ((l0.length : Int) : Int).toNat ≤ 35184372088832 then (laws_toIntS.l0 k l0 (List.replicate ((l0.length : Int) : Int).toNat 0) 0) else (none)) else (none)
theorem laws_toIntS.calls (k : Nat) (A0 : Option Addr) (c0 : Nat) (l0 : List Int) (r : List Int) (w : World) (hr0 : Kd.C (Kd.int .i64) w A0 l0.length l0) (d4 : l0.length ≤ c0) (h : laws_toIntS.f k l0 = some r) :
  Calls Tryz.prog 76 #[.slice A0 l0.length c0] w fun e w' => ∃ v0_ : Value, e = .returned (v0_) ∧ Kd.R (Kd.int .i64) 3 w' w.heap.size (fun _ => True) v0_ r ∧ Below w.heap.size w w' := by
 have e3 := aM hr0
 have e7 := aM d4
 clear hr0 d4
 have HB := aM (Below.refl w.heap.size w)
 have H := h
 clear h
 unfold laws_toIntS.f at H
 by_cases c2 : 0 ≤ (l0.length : Int)
 ·rw [if_pos c2] at H
  have b6 := eq_true c2
  have b7 : decide (0 ≤ (l0.length : Int)) = true := decide_eq_true c2
  clear c2
  by_cases c3 : ((l0.length : Int) : Int).toNat ≤ 35184372088832
  ·rw [if_pos c3] at H
   have b8 := eq_true c3
   have b9 : decide (((l0.length : Int) : Int).toNat ≤ 35184372088832) = true := decide_eq_true c3
   clear c3
   obtain ⟨b0, hy_⟩ : ∃ y_ : List Int, y_ = (List.replicate ((l0.length : Int) : Int).toNat 0) := ⟨_, rfl⟩
   replace H : (laws_toIntS.l0 k l0 b0 0) = some r := yS
   have Ny553 := aM hy_
   clear hy_
   have H' := aM H
   clear H
   go_enter Tryz.func76, Tryz.ntmps76
   go_wp2_with (first | ((with_reducible refine gate_dst (N := 7) rfl ?_); refine Kd.R_make (Kd.int .i64) _ 3 rfl (N := 7) rfl 22 _ _ rfl (l0.length : Int) rfl rfl Tryz.underlying22 (.int .i64 0) 8 info3 rfl (by decide) (by omega) 0 (ok := fun _ => True) (okp := fun _ => True) rfl (fun _ hk => hk) trivial (dA) (Nat.le_trans (Nat.mul_le_mul_right _ (dA : (l0.length : Int).toNat ≤ 35184372088832)) (by omega)) (Below.refl _ _) (Nat.le_refl _) ?_; intro d0 w4 b1 hb hg_ hnew_; clear hg_ hnew_; (first | rw [← Ny553.out] at b1 | (simp only [Int.reduceToNat] at b1; rw [← Ny553.out] at b1)); have b2 := aM (Kd.R_lower b1 (below_size bS)); replace HB := hB hb; clear hb b1))
   go_loopg [4] k (fun kq v4 w' => ∃ (a5 : List Int) (a2 : Int), v4 = .int .i64 a2 ∧ Aside0 (laws_toIntS.l0 kq l0 a5 a2 = some r) ∧ Aside0 (kq ≤ k) ∧ Aside0 (Kd.R (Kd.int .i64) 3 w' w.heap.size (fun _ => True) d0 a5) ∧ Aside0 (Below w.heap.size w w'))
   case atStart => exact ⟨(b0), (0), fS, H', ⟨Nat.le_refl _⟩, ⟨rS b2⟩, ⟨bS⟩⟩
   case round =>
    clear H'
    try clear c2
    try clear b6
    try clear b7
    try clear p2
    try clear c3
    try clear b8
    try clear b9
    obtain ⟨a5, a2, rfl, HA, d5, a6, HB⟩ := hrel
    cases gk with
    | zero => exact absurd HA.out (by simp [laws_toIntS.l0])
    | succ k1 =>
     have H := HA.out
     clear HA
     simp only [laws_toIntS.l0] at H
     rcases iD H with ⟨d1, H⟩ | ⟨d1, H⟩
     ·obtain ⟨e4, H⟩ := iT H
      obtain ⟨e5, H⟩ := iT H
      obtain ⟨a7, hy_⟩ : ∃ y_ : List Int, y_ = (a5.set (a2 : Int).toNat (rd l0 a2)) := ⟨_, rfl⟩
      replace H : (laws_toIntS.l0 k1 l0 a7 (wrap64 (a2 + 1))) = some r := yS
      have Ny557 := aM hy_
      clear hy_
      have H' := aM H
      clear H
      have a8 : 0 ≤ (a2 : Int) := dA
      have a9 : a2 < (l0.length : Int) := dA
      obtain ⟨d6, d2, a3⟩ := Kd.at_int e3.out a2 a8 a9
      cases d2
      replace a3 := cB HB a3
      replace a8 := eq_true a8
      replace a9 := eq_true a9
      have p9 : 0 ≤ (a2 : Int) := dA
      have q9 : (a2 : Int) < ((a5.length : Int) : Int) := dA
      obtain ⟨go9, e6, e0, e1, gl9, cl9, HG9⟩ := Kd.R_form a6.out (by omega)
      (first | cases e0 | (injection e0 with ea_ en_ ec_; (first | subst ea_ | (injection ea_ with ea_; subst ea_)); subst ec_; clear en_))
      have GB9 := aM e1
      have GG9 := aM HG9
      clear e1 gl9 HG9
      obtain ⟨e2, hf9_0⟩ := Kd.R_celln 0 a6.out (a2 : Int) p9 q9
      replace p9 := eq_true p9
      replace q9 := eq_true q9
      have HP10 := Kd.R_putg a6.out (a2 : Int) (rd l0 a2)
      go_wp2_with (first | ((with_reducible refine gate_store (t := 3) (p := 20) rfl ?_); refine store_event (t := 3) (p := 20) (v := ?vo_w11) (w1 := (wr.setCell ⟨go9, (a2 : Int).toNat, none⟩ (.int .i64 (rd l0 a2)))) ?hg ?ho ?hn ?hr ?_; (case ho => rfl); (case hg => rfl); (case hn => rfl); (case hr => first | (go_simp; done) | (go_simp; rfl)); intro d3 hw; have hg : wr.grownBy d3 (some go9) := (by rw [hw]; exact HP10.2); have hp_ : Kd.R (Kd.int .i64) 3 d3 w.heap.size (fun _ => True) (.slice (some ⟨go9, 0, none⟩) a5.length e6) a7 := (by rw [hw, Ny557.out]; exact HP10.1); clear HP10; replace a6 := aM (hp_); replace HB := aM ((by rw [hw]; exact below_set (HB.out) GB9.out : Below w.heap.size w d3)); clear hg hw hp_))
      go_roundg k1
      case measure => have := d5.out; omega
      case rel => exact ⟨(a7), (wrap64 (a2 + 1)), fS, H', ⟨by have := d5.out; omega⟩, ⟨rS a6⟩, ⟨bS⟩⟩
     ·obtain rfl := Option.some.inj H
      go_wp2
      go_ret
      exact ⟨_, eS, rS a6, bS⟩
  ·rw [if_neg c3] at H
   exact absurd H (by simp)
 ·rw [if_neg c2] at H
  exact absurd H (by simp)
def laws_toTurn.f (a2 : Int) (a3 : Int) (a5 : Int) (a6 : Int) : Option (Int × Int × Int × Int) := some (a2, a3, a5, a6)
theorem laws_toTurn.calls (b2 : Int) (b6 : Int) (b7 : Int) (b8 : Int) (r1 : Int) (r2 : Int) (r3 : Int) (r4 : Int) (w : World) (h : laws_toTurn.f b2 b6 b7 b8 = some (r1, r2, r3, r4)) :
  Calls Tryz.prog 77 #[.agg #[.int .i64 b2, .int .i64 b6, .int .i64 b7, .int .i64 b8]] w fun e w' => e = .returned (.agg #[.int .i64 r1, .int .i64 r2, .int .i64 r3, .int .i64 r4]) ∧ Below w.heap.size w w' := by
 have hu24 := Tryz.underlying24
 have hu38 := Tryz.underlying38
 have HB := aM (Below.refl w.heap.size w)
 have H := h
 clear h
 unfold laws_toTurn.f at H
 obtain ⟨rfl, rfl, rfl, rfl⟩ := sI4 H
 go_enter Tryz.func77, Tryz.ntmps77
 go_wp2_with (first | ((with_reducible refine gD 1 ?_); refine bxE #[.int .i64 b2, .int .i64 b6, .int .i64 b7, .int .i64 b8] 24 ?_; intro a2 hg w2 b1 hb; have GE558 := gE hg; replace HB := hB hb; clear hb hg) | ((with_reducible refine gD 2 ?_); refine bxE #[.int .i64 0, .int .i64 0, .int .i64 0, .int .i64 0] 38 ?_; intro a3 hg w3 b9 hb; have GE559 := gE hg; have a5 := nL_ a2 hg; have a6 := nG_ a2 hg; replace b1 := kB_ a2 hb; replace HB := hB hb; clear hb hg) | ((with_reducible refine gD 3 ?_); refine bxE #[.int .i64 0, .int .i64 0, .int .i64 0, .int .i64 0] 38 ?_; intro d1 hg w4 d0 hb; have GE560 := gE hg; have a7 := nL_ a2 hg; have a8 := nG_ a2 hg; have a9 := nL_ a3 hg; have b0 := nG_ a3 hg; replace b1 := kB_ a2 hb; replace b9 := kB_ a3 hb; replace HB := hB hb; clear hb hg; have hnb5 := nP a5 a6; have hnb6 := nP a7 a8; have hz7 := cz4 b1; have hnb8 := nP b0 a9; have hz9 := cz4 d0; have hz10 := cz4 b9))
 refine bodyPost_ret (results_cell_row rfl _ _ a3 38 #[.int .i64 b2, .int .i64 b6, .int .i64 b7, .int .i64 b8] (0, 0) _ rfl kS Tryz.underlying38 rfl (by kernel_rfl)) rfl ?_
 exact ⟨eS, bS⟩
def laws_toPoint.f (a2 : Int) (a3 : Int) : Option (Int × Int) := some (a2, a3)
theorem laws_toPoint.calls (b2 : Int) (b6 : Int) (r1 : Int) (r2 : Int) (w : World) (h : laws_toPoint.f b2 b6 = some (r1, r2)) :
  Calls Tryz.prog 114 #[.agg #[.int .i64 b2, .int .i64 b6]] w fun e w' => e = .returned (.agg #[.int .i64 r1, .int .i64 r2]) ∧ Below w.heap.size w w' := by
 have hu142 := Tryz.underlying142
 have hu111 := Tryz.underlying111
 have HB := aM (Below.refl w.heap.size w)
 have H := h
 clear h
 unfold laws_toPoint.f at H
 obtain ⟨rfl, rfl⟩ := sI2 H
 go_enter Tryz.func114, Tryz.ntmps114
 go_wp2_with (first | ((with_reducible refine gD 1 ?_); refine bxE #[.int .i64 b2, .int .i64 b6] 142 ?_; intro a2 hg w2 b1 hb; have GE561 := gE hg; replace HB := hB hb; clear hb hg) | ((with_reducible refine gD 2 ?_); refine bxE #[.int .i64 0, .int .i64 0] 111 ?_; intro a3 hg w3 b7 hb; have GE562 := gE hg; have a5 := nL_ a2 hg; have a6 := nG_ a2 hg; replace b1 := kB_ a2 hb; replace HB := hB hb; clear hb hg) | ((with_reducible refine gD 3 ?_); refine bxE #[.int .i64 0, .int .i64 0] 111 ?_; intro b9 hg w4 b8 hb; have GE563 := gE hg; have a7 := nL_ a2 hg; have a8 := nG_ a2 hg; have a9 := nL_ a3 hg; have b0 := nG_ a3 hg; replace b1 := kB_ a2 hb; replace b7 := kB_ a3 hb; replace HB := hB hb; clear hb hg; have hnb5 := nP a5 a6; have hnb6 := nP a7 a8; have hz7 := cz2 b1; have hnb8 := nP b0 a9; have hz9 := cz2 b8; have hz10 := cz2 b7))
 refine bodyPost_ret (results_cell_row rfl _ _ a3 111 #[.int .i64 b2, .int .i64 b6] (0, 0) _ rfl kS Tryz.underlying111 rfl (by kernel_rfl)) rfl ?_
 exact ⟨eS, bS⟩
def laws_toPointS.l0 : Nat → List (S142) → List (S111) → Int → Option ((List (S111)))
 | 0, _, _, _ => none
 | k + 1, x0, x3, x4 => if x4 < (x0.length : Int) then (if 0 ≤ x4 then ((laws_toPoint.f ((rd_T142 x0 x4).f0) ((rd_T142 x0 x4).f1)).bind fun a2 => (if x4 < (x3.length : Int) then (laws_toPointS.l0 k x0 (x3.set (x4 : Int).toNat (⟨a2.1, a2.2⟩ : S111)) (wrap64 (x4 + 1))) else (none))) else (none)) else (some x3)
def laws_toPointS.f (k : Nat) (l0 : List (S142)) : Option ((List (S111))) := if 0 ≤ (l0.length : Int) then (if ((l0.length : Int) : Int).toNat ≤ 17592186044416 then (laws_toPointS.l0 k l0 (List.replicate ((l0.length : Int) : Int).toNat z111) 0) else (none)) else (none)
theorem laws_toPointS.calls (k : Nat) (A0 : Option Addr) (c0 : Nat) (l0 : List (S142)) (r : List (S111)) (w : World) (hr0 : Kd.C k142 w A0 l0.length l0) (e9 : l0.length ≤ c0) (h : laws_toPointS.f k l0 = some r) :
  Calls Tryz.prog 78 #[.slice A0 l0.length c0] w fun e w' => ∃ v0_ : Value, e = .returned (v0_) ∧ Kd.R k111 111 w' w.heap.size (fun _ => True) v0_ r ∧ Below w.heap.size w w' := by
 have hu142 := Tryz.underlying142
 have hu111 := Tryz.underlying111
 have f5 := aM hr0
 have f8 := aM e9
 clear hr0 e9
 have HB := aM (Below.refl w.heap.size w)
 have H := h
 clear h
 unfold laws_toPointS.f at H
 by_cases c2 : 0 ≤ (l0.length : Int)
 ·rw [if_pos c2] at H
  have d5 := eq_true c2
  have d6 : decide (0 ≤ (l0.length : Int)) = true := decide_eq_true c2
  clear c2
  by_cases c3 : ((l0.length : Int) : Int).toNat ≤ 17592186044416
  ·rw [if_pos c3] at H
   have e0 := eq_true c3
   have e1 : decide (((l0.length : Int) : Int).toNat ≤ 17592186044416) = true := decide_eq_true c3
   clear c3
   obtain ⟨b9, hy_⟩ : ∃ y_ : List (S111), y_ = (List.replicate ((l0.length : Int) : Int).toNat z111) := ⟨_, rfl⟩
   replace H : (laws_toPointS.l0 k l0 b9 0) = some r := yS
   have Ny564 := aM hy_
   clear hy_
   have H' := aM H
   clear H
   go_enter Tryz.func78, Tryz.ntmps78
   go_wp2_with (first | ((with_reducible refine gate_dst (N := 7) rfl ?_); refine Kd.R_make k111 _ 111 rfl (N := 7) rfl 39 _ _ rfl (l0.length : Int) rfl rfl Tryz.underlying39 (.agg #[(.int .i64 0), (.int .i64 0)]) 16 info111 rfl (by decide) (by omega) z111 (ok := fun _ => True) (okp := fun _ => True) (k111_mkM _ _ _ z111 ) (fun _ hk => hk) trivial (dA) (Nat.le_trans (Nat.mul_le_mul_right _ (dA : (l0.length : Int).toNat ≤ 17592186044416)) (by omega)) (Below.refl _ _) (Nat.le_refl _) ?_; intro e2 w4 d0 hb hg_ hnew_; clear hg_ hnew_; (first | rw [← Ny564.out] at d0 | (simp only [Int.reduceToNat] at d0; rw [← Ny564.out] at d0)); have d1 := aM (Kd.R_lower d0 (below_size bS)); replace HB := hB hb; clear hb d0))
   go_loopg [4] k (fun kq v4 w' => ∃ (a3 : List (S111)) (a2 : Int), v4 = .int .i64 a2 ∧ Aside0 (laws_toPointS.l0 kq l0 a3 a2 = some r) ∧ Aside0 (kq ≤ k) ∧ Aside0 (Kd.R k111 111 w' w.heap.size (fun _ => True) e2 a3) ∧ Aside0 (Below w.heap.size w w'))
   case atStart => exact ⟨(b9), (0), fS, H', ⟨Nat.le_refl _⟩, ⟨rS d1⟩, ⟨bS⟩⟩
   case round =>
    clear H'
    try clear c2
    try clear d5
    try clear d6
    try clear p2
    try clear c3
    try clear e0
    try clear e1
    obtain ⟨a3, a2, rfl, HA, f3, a5, HB⟩ := hrel
    cases gk with
    | zero => exact absurd HA.out (by simp [laws_toPointS.l0])
    | succ k1 =>
     have H := HA.out
     clear HA
     simp only [laws_toPointS.l0] at H
     rcases iD H with ⟨e3, H⟩ | ⟨e3, H⟩
     ·obtain ⟨f6, H⟩ := iT H
      replace H := bN H
      obtain ⟨⟨a8, a9⟩, A8, H⟩ := H
      obtain ⟨f7, H⟩ := iT H
      obtain ⟨b0, hy_⟩ : ∃ y_ : List (S111), y_ = (a3.set (a2 : Int).toNat (⟨a8, a9⟩ : S111)) := ⟨_, rfl⟩
      replace H : (laws_toPointS.l0 k1 l0 b0 (wrap64 (a2 + 1))) = some r := yS
      have Ny570 := aM hy_
      clear hy_
      have H' := aM H
      clear H
      have b1 : 0 ≤ (a2 : Int) := dA
      have b2 : a2 < (l0.length : Int) := dA
      obtain ⟨f4, e4, a6, a7⟩ := at_T142 f5.out a2 b1 b2
      cases e4
      replace a6 := cB HB a6
      replace a7 := cB HB a7
      replace b1 := eq_true b1
      replace b2 := eq_true b2
      go_wp2_with (first | ((with_reducible refine gC 114 ?_); refine cM (some 20) Tryz.func114 (laws_toPoint.calls ((rd_T142 l0 a2).f0) ((rd_T142 l0 a2).f1) a8 a9 _ A8.out) ?_; rintro e b6 ⟨rfl, hb⟩; refine ⟨_, rfl, ?_⟩; replace a5 := rB a5 hb; replace HB := hB hb; (try clear hb hk); have p10 : 0 ≤ (a2 : Int) := dA; have e5 : (a2 : Int) < ((a3.length : Int) : Int) := dA; obtain ⟨go10, d2, d3, d4, gl10, cl10, HG10⟩ := Kd.R_form a5.out (by omega); (first | cases d3 | (injection d3 with ea_ en_ ec_; (first | subst ea_ | (injection ea_ with ea_; subst ea_)); subst ec_; clear en_)); have GB10 := aM d4; have GG10 := aM HG10; clear d4 gl10 HG10; obtain ⟨ce10, hcl10, hM10, hcc10, hfr10⟩ := Kd.R_elem a5.out z111 (a2 : Int) p10 e5; obtain rfl := k111_openM hM10; have e6 : b6.cell? ⟨go10, (a2 : Int).toNat * 2, none⟩ = some (.int .i64 ((rd_T111 a3 a2).f0)) := hcc10 0 _ rfl; have e7 : b6.cell? ⟨go10, (a2 : Int).toNat * 2 + 1, none⟩ = some (.int .i64 ((rd_T111 a3 a2).f1)) := hcc10 1 _ rfl; have hf10_0 : b6.frozen? ⟨go10, (a2 : Int).toNat * 2, none⟩ = false := hfr10 0; have hf10_1 : b6.frozen? ⟨go10, (a2 : Int).toNat * 2 + 1, none⟩ = false := hfr10 1; (try clear hM10); clear hcl10 hcc10 hfr10; replace p10 := eq_true p10; replace e5 := eq_true e5; have HX12 := aM (show Kd.R k111 111 b6 w.heap.size (fun _ => True) (.slice (some ⟨go10, 0, none⟩) a3.length d2) a3 from (rS a5)); obtain ⟨ce12, hcl12, hM12, hcc12, hfr12⟩ := Kd.R_elem HX12.out z111 (a2 : Int) (dA) (by have h_ : (a2 : Int) < ((a3.length : Int) : Int) := dA; first | exact h_ | (have e_ := (Kd.R_reads' a5.out).1; omega) | simpa using h_); obtain rfl := k111_openM hM12; have HP12 := Kd.R_seg HX12.out (a2 : Int) (dA) (by have h_ : (a2 : Int) < ((a3.length : Int) : Int) := dA; first | exact h_ | (have e_ := (Kd.R_reads' a5.out).1; omega) | simpa using h_) (seg := [.int .i64 a8, .int .i64 a9]) (j := 0) hcl12 hcc12 (show 2 ≤ 2 from by decide) (x' := (⟨a8, a9⟩ : S111)) (k111_mkM _ _ _ (⟨a8, a9⟩ : S111) ) (fun _ hk => hk); have b7 := hcc12 0 _ rfl; (try simp only [show (k111).sz = 2 from rfl, Nat.mul_one, Nat.add_zero] at b7); have hf12_0 := hfr12 0; (try simp only [show (k111).sz = 2 from rfl, Nat.mul_one, Nat.add_zero] at hf12_0); have b8 := hcc12 1 _ rfl; (try simp only [show (k111).sz = 2 from rfl, Nat.mul_one, Nat.add_zero] at b8); have hf12_1 := hfr12 1; (try simp only [show (k111).sz = 2 from rfl, Nat.mul_one, Nat.add_zero] at hf12_1); (try clear hM12); clear hcl12 hcc12 hfr12) | ((with_reducible refine gate_store (t := 111) (p := 21) rfl ?_); refine store_event (t := 111) (p := 21) (v := ?vo_w13) (w1 := ((b6.setCell ⟨go10, (a2 : Int).toNat * 2, none⟩ (.int .i64 a8)).setCell ⟨go10, (a2 : Int).toNat * 2 + 1, none⟩ (.int .i64 a9))) ?hg ?ho ?hn ?hr ?_; (case ho => rfl); (case hg => rfl); (case hn => rfl); (case hr => first | (go_simp; done) | (go_simp; rfl)); intro e8 hw; have hg : b6.grownBy e8 (some go10) := (by rw [hw]; exact HP12.2); have hp_ : Kd.R k111 111 e8 w.heap.size (fun _ => True) (.slice (some ⟨go10, 0, none⟩) a3.length d2) b0 := (by rw [hw, Ny570.out]; exact HP12.1); clear HP12; replace a5 := aM (hp_); replace HB := aM ((by rw [hw]; exact below_set (below_set (HB.out) GB10.out) GB10.out : Below w.heap.size w e8)); clear hg hw hp_))
      go_roundg k1
      case measure => have := f3.out; omega
      case rel => exact ⟨(b0), (wrap64 (a2 + 1)), fS, H', ⟨by have := f3.out; omega⟩, ⟨rS a5⟩, ⟨bS⟩⟩
     ·obtain rfl := Option.some.inj H
      go_wp2
      go_ret
      exact ⟨_, eS, rS a5, bS⟩
  ·rw [if_neg c3] at H
   exact absurd H (by simp)
 ·rw [if_neg c2] at H
  exact absurd H (by simp)
def laws_toBox.f (a2 : Int) (a3 : Int) (a5 : Int) (a6 : Int) : Option (Int × Int × Int × Int) := some (a2, a3, a5, a6)
theorem laws_toBox.calls (b2 : Int) (b6 : Int) (b7 : Int) (b8 : Int) (r1 : Int) (r2 : Int) (r3 : Int) (r4 : Int) (w : World) (h : laws_toBox.f b2 b6 b7 b8 = some (r1, r2, r3, r4)) :
  Calls Tryz.prog 79 #[.agg #[.int .i64 b2, .int .i64 b6, .int .i64 b7, .int .i64 b8]] w fun e w' => e = .returned (.agg #[.int .i64 r1, .int .i64 r2, .int .i64 r3, .int .i64 r4]) ∧ Below w.heap.size w w' := by
 have hu27 := Tryz.underlying27
 have hu40 := Tryz.underlying40
 have HB := aM (Below.refl w.heap.size w)
 have H := h
 clear h
 unfold laws_toBox.f at H
 obtain ⟨rfl, rfl, rfl, rfl⟩ := sI4 H
 go_enter Tryz.func79, Tryz.ntmps79
 go_wp2_with (first | ((with_reducible refine gD 1 ?_); refine bxE #[.int .i64 b2, .int .i64 b6, .int .i64 b7, .int .i64 b8] 27 ?_; intro a2 hg w2 b1 hb; have GE571 := gE hg; replace HB := hB hb; clear hb hg) | ((with_reducible refine gD 2 ?_); refine bxE #[.int .i64 0, .int .i64 0, .int .i64 0, .int .i64 0] 40 ?_; intro a3 hg w3 b9 hb; have GE572 := gE hg; have a5 := nL_ a2 hg; have a6 := nG_ a2 hg; replace b1 := kB_ a2 hb; replace HB := hB hb; clear hb hg) | ((with_reducible refine gD 3 ?_); refine bxE #[.int .i64 0, .int .i64 0, .int .i64 0, .int .i64 0] 40 ?_; intro d1 hg w4 d0 hb; have GE573 := gE hg; have a7 := nL_ a2 hg; have a8 := nG_ a2 hg; have a9 := nL_ a3 hg; have b0 := nG_ a3 hg; replace b1 := kB_ a2 hb; replace b9 := kB_ a3 hb; replace HB := hB hb; clear hb hg; have hnb5 := nP a5 a6; have hnb6 := nP a7 a8; have hz7 := cz4 b1; have hnb8 := nP b0 a9; have hz9 := cz4 d0; have hz10 := cz4 b9))
 refine bodyPost_ret (results_cell_row rfl _ _ a3 40 #[.int .i64 b2, .int .i64 b6, .int .i64 b7, .int .i64 b8] (0, 0) _ rfl kS Tryz.underlying40 rfl (by kernel_rfl)) rfl ?_
 exact ⟨eS, bS⟩
def laws_toGraphics.f (k : Nat) (a6 : List Int) (a7 : Int) (a8 : Int) (a9 : Int) (b0 : Int) (b1 : List (S142)) (b2 : Int) (b6 : Int) (b7 : Int) (b8 : Int) (a5 : Int) : Option (List Int × Int × Int × Int × Int × (List (S111)) × Int × Int × Int × Int × Int) := (laws_toIntS.f k a6).bind fun b9 => ((laws_toTurn.f a7 a8 a9 b0).bind fun a2 => ((laws_toPointS.f k b1).bind fun d0 => ((laws_toBox.f b6 b7 b8 a5).bind fun a3 => (some (b9, a2.1, a2.2.1, a2.2.2.1, a2.2.2.2, d0, b2, a3.1, a3.2.1, a3.2.2.1, a3.2.2.2)))))
theorem laws_toGraphics.calls (k : Nat) (g4 : Option Addr) (g5 : Nat) (d3 : List Int) (f0 : Int) (f3 : Int) (f4 : Int) (f5 : Int) (g6 : Option Addr) (g7 : Nat) (d4 : List (S142)) (d1 : Int) (f6 : Int) (f7 : Int) (f8 : Int) (e1 : Int) (r1 : List Int) (r2 : Int) (r3 : Int) (r4 : Int) (r5 : Int) (r6 : List (S111)) (r7 : Int) (r8 : Int) (r9 : Int) (i8 : Int) (i9 : Int) (w : World) (g0 : Kd.C (Kd.int .i64) w g4 d3.length d3) (g1 : d3.length ≤ g5) (g2 : Kd.C k142 w g6 d4.length d4) (g3 : d4.length ≤ g7) (h : laws_toGraphics.f k d3 f0 f3 f4 f5 d4 d1 f6 f7 f8 e1 = some (r1, r2, r3, r4, r5, r6, r7, r8, r9, i8, i9)) :
  Calls Tryz.prog 33 #[.agg #[.slice g4 d3.length g5, .int .i64 f0, .int .i64 f3, .int .i64 f4, .int .i64 f5, .slice g6 d4.length g7, .int .i64 d1, .int .i64 f6, .int .i64 f7, .int .i64 f8, .int .i64 e1]] w fun e w' => ∃ v0_ v5_ : Value, e = .returned (.agg #[v0_, .int .i64 r2, .int .i64 r3, .int .i64 r4, .int .i64 r5, v5_, .int .i64 r7, .int .i64 r8, .int .i64 r9, .int .i64 i8, .int .i64 i9]) ∧ Kd.R (Kd.int .i64) 3 w' w.heap.size (fun _ => True) v0_ r1 ∧ Kd.R k111 111 w' w.heap.size (fun _ => True) v5_ r6 ∧ Below w.heap.size w w' := by
 have hu29 := Tryz.underlying29
 have hu42 := Tryz.underlying42
 have hu24 := Tryz.underlying24
 have hu38 := Tryz.underlying38
 have hu27 := Tryz.underlying27
 have hu40 := Tryz.underlying40
 have g8 := aM g0
 have g9 := aM g1
 clear g0 g1
 have h0 := aM g2
 have h1 := aM g3
 clear g2 g3
 have HB := aM (Below.refl w.heap.size w)
 have H := h
 clear h
 unfold laws_toGraphics.f at H
 replace H := bN H
 obtain ⟨a9, A2, H⟩ := H
 replace H := bN H
 obtain ⟨⟨b6, b8, b9, d0⟩, A3, H⟩ := H
 replace H := bN H
 obtain ⟨d2, A4, H⟩ := H
 replace H := bN H
 obtain ⟨⟨d5, e3, e9, f9⟩, A5, H⟩ := H
 simp only [Option.some.injEq, Prod.mk.injEq] at H
 obtain ⟨rfl, rfl, rfl, rfl, rfl, rfl, rfl, rfl, rfl, rfl, rfl⟩ := H
 go_enter Tryz.func33, Tryz.ntmps33
 go_wp2_with (first | ((with_reducible refine gD 1 ?_); refine bxE #[.slice g4 d3.length g5, .int .i64 f0, .int .i64 f3, .int .i64 f4, .int .i64 f5, .slice g6 d4.length g7, .int .i64 d1, .int .i64 f6, .int .i64 f7, .int .i64 f8, .int .i64 e1] 29 ?_; intro a7 hg w6 a2 hb; have GE574 := gE hg; replace HB := hB hb; clear hb hg) | ((with_reducible refine gD 2 ?_); refine bxE #[.slice none 0 0, .int .i64 0, .int .i64 0, .int .i64 0, .int .i64 0, .slice none 0 0, .int .i64 0, .int .i64 0, .int .i64 0, .int .i64 0, .int .i64 0] 42 ?_; intro a8 hg w7 b0 hb; have GE575 := gE hg; have e4 := nL_ a7 hg; have e5 := nG_ a7 hg; replace a2 := kB_ a7 hb; replace HB := hB hb; clear hb hg) | ((with_reducible refine gD 3 ?_); refine bxE #[.slice none 0 0, .int .i64 0, .int .i64 0, .int .i64 0, .int .i64 0, .slice none 0 0, .int .i64 0, .int .i64 0, .int .i64 0, .int .i64 0, .int .i64 0] 42 ?_; intro a6 hg w8 a3 hb; have GE576 := gE hg; have e6 := nL_ a7 hg; have e7 := nG_ a7 hg; have a5 := nL_ a8 hg; have e8 := nG_ a8 hg; replace a2 := kB_ a7 hb; replace b0 := kB_ a8 hb; replace HB := hB hb; clear hb hg; have hnb9 := nP e4 e5; have hnb10 := nP e6 e7; have hz11 := cz11 a2) | ((with_reducible refine gC 76 ?_); refine cM (some 6) Tryz.func76 (laws_toIntS.calls k _ _ d3 a9 _ (cC g8 HB) g9.out A2.out) ?_; rintro e j7 ⟨j5, rfl, h2, hb⟩; refine ⟨_, rfl, ?_⟩; have b7 := aM (Kd.R_lower h2 (below_size bS)); replace a2 := kB_ a7 hb; replace b0 := kB_ a8 hb; replace a3 := kB_ a6 hb; replace HB := hB hb; (try clear hb h2); obtain ⟨b1, b2, i6⟩ := Kd.R_slice b7.out; subst i6; have hnb14 := nP e8 a5; have hz15 := cz11 a3; have hz16 := cz11 a2) | ((with_reducible refine gC 77 ?_); refine cM (some 10) Tryz.func77 (laws_toTurn.calls f0 f3 f4 f5 b6 b8 b9 d0 _ A3.out) ?_; rintro e j8 ⟨rfl, hb⟩; refine ⟨_, rfl, ?_⟩; replace b7 := aM (Kd.R_below (by exact rG b7 a3) hb); replace a2 := kB_ a7 hb; replace b0 := kB_ a8 hb; replace a3 := kO a6 #[.slice b1 a9.length b2, .int .i64 0, .int .i64 0, .int .i64 0, .int .i64 0, .slice none 0 0, .int .i64 0, .int .i64 0, .int .i64 0, .int .i64 0, .int .i64 0] 42 hb; replace HB := hB hb; (try clear hb hk); have hz18 := cz11 a3; have h5 := cg5 a2; have h6 := cg6 a2; have h7 := cg7 a2; have h8 := cg8 a2; have h9 := cg9 a2; have h3 := cg10 a2) | ((with_reducible refine gC 78 ?_); refine cM (some 14) Tryz.func78 (laws_toPointS.calls k _ _ d4 d2 _ (Kd.C_below h0.out bS) h1.out A4.out) ?_; rintro e j9 ⟨j6, rfl, h2, hb⟩; refine ⟨_, rfl, ?_⟩; have e2 := aM (Kd.R_lower h2 (below_size bS)); replace b7 := aM (Kd.R_below (by exact rG b7 a3) hb); replace a2 := kB_ a7 hb; replace b0 := kB_ a8 hb; replace a3 := kO a6 #[.slice b1 a9.length b2, .int .i64 b6, .int .i64 b8, .int .i64 b9, .int .i64 d0, .slice none 0 0, .int .i64 0, .int .i64 0, .int .i64 0, .int .i64 0, .int .i64 0] 42 hb; replace HB := hB hb; (try clear hb hk h2); obtain ⟨d6, e0, i7⟩ := Kd.R_slice e2.out; subst i7; have hz22 := cz11 a3; have i1 := cg6 a2; have i3 := cg7 a2; have i4 := cg8 a2; have i5 := cg9 a2; have h4 := cg10 a2) | ((with_reducible refine gC 79 ?_); refine cM (some 21) Tryz.func79 (laws_toBox.calls f6 f7 f8 e1 d5 e3 e9 f9 _ A5.out) ?_; rintro e k0 ⟨rfl, hb⟩; refine ⟨_, rfl, ?_⟩; replace b7 := aM (Kd.R_below (by exact rG b7 a3) hb); replace e2 := aM (Kd.R_below (by exact rG e2 a3) hb); replace a2 := kB_ a7 hb; replace b0 := kB_ a8 hb; replace a3 := kO a6 #[.slice b1 a9.length b2, .int .i64 b6, .int .i64 b8, .int .i64 b9, .int .i64 d0, .slice d6 d2.length e0, .int .i64 d1, .int .i64 0, .int .i64 0, .int .i64 0, .int .i64 0] 42 hb; replace HB := hB hb; (try clear hb hk); have hz25 := cz11 a3; have hz26 := cz11 b0))
 refine bodyPost_ret (results_cell_row rfl _ _ a8 42 #[.slice b1 a9.length b2, .int .i64 b6, .int .i64 b8, .int .i64 b9, .int .i64 d0, .slice d6 d2.length e0, .int .i64 d1, .int .i64 d5, .int .i64 e3, .int .i64 e9, .int .i64 f9] (0, 0) _ rfl (by (with_reducible repeat (first | refine blk_drewN ?_ _ | refine blk_drew ?_ | refine blk_alloc ?_ _)); refine blk_put (cs := #[.slice b1 a9.length b2, .int .i64 b6, .int .i64 b8, .int .i64 b9, .int .i64 d0, .slice d6 d2.length e0, .int .i64 d1, .int .i64 d5, .int .i64 e3, .int .i64 e9, .int .i64 0]) ?_ 10 _ rfl; (with_reducible repeat (first | refine blk_drewN ?_ _ | refine blk_drew ?_ | refine blk_alloc ?_ _)); refine blk_put (cs := #[.slice b1 a9.length b2, .int .i64 b6, .int .i64 b8, .int .i64 b9, .int .i64 d0, .slice d6 d2.length e0, .int .i64 d1, .int .i64 d5, .int .i64 e3, .int .i64 0, .int .i64 0]) ?_ 9 _ rfl; (with_reducible repeat (first | refine blk_drewN ?_ _ | refine blk_drew ?_ | refine blk_alloc ?_ _)); refine blk_put (cs := #[.slice b1 a9.length b2, .int .i64 b6, .int .i64 b8, .int .i64 b9, .int .i64 d0, .slice d6 d2.length e0, .int .i64 d1, .int .i64 d5, .int .i64 0, .int .i64 0, .int .i64 0]) ?_ 8 _ rfl; (with_reducible repeat (first | refine blk_drewN ?_ _ | refine blk_drew ?_ | refine blk_alloc ?_ _)); refine blk_put (cs := #[.slice b1 a9.length b2, .int .i64 b6, .int .i64 b8, .int .i64 b9, .int .i64 d0, .slice d6 d2.length e0, .int .i64 d1, .int .i64 0, .int .i64 0, .int .i64 0, .int .i64 0]) ?_ 7 _ rfl; (with_reducible repeat (first | refine blk_drewN ?_ _ | refine blk_drew ?_ | refine blk_alloc ?_ _)); refine blk_put (cs := #[.slice b1 a9.length b2, .int .i64 b6, .int .i64 b8, .int .i64 b9, .int .i64 d0, .slice d6 d2.length e0, .int .i64 0, .int .i64 0, .int .i64 0, .int .i64 0, .int .i64 0]) ?_ 6 _ rfl; (with_reducible repeat (first | refine blk_drewN ?_ _ | refine blk_drew ?_ | refine blk_alloc ?_ _)); refine blk_put (cs := #[.slice b1 a9.length b2, .int .i64 b6, .int .i64 b8, .int .i64 b9, .int .i64 d0, .slice none 0 0, .int .i64 0, .int .i64 0, .int .i64 0, .int .i64 0, .int .i64 0]) ?_ 5 _ rfl; (with_reducible repeat (first | refine blk_drewN ?_ _ | refine blk_drew ?_ | refine blk_alloc ?_ _)); refine blk_put (cs := #[.slice b1 a9.length b2, .int .i64 b6, .int .i64 b8, .int .i64 b9, .int .i64 0, .slice none 0 0, .int .i64 0, .int .i64 0, .int .i64 0, .int .i64 0, .int .i64 0]) ?_ 4 _ rfl; (with_reducible repeat (first | refine blk_drewN ?_ _ | refine blk_drew ?_ | refine blk_alloc ?_ _)); refine blk_put (cs := #[.slice b1 a9.length b2, .int .i64 b6, .int .i64 b8, .int .i64 0, .int .i64 0, .slice none 0 0, .int .i64 0, .int .i64 0, .int .i64 0, .int .i64 0, .int .i64 0]) ?_ 3 _ rfl; (with_reducible repeat (first | refine blk_drewN ?_ _ | refine blk_drew ?_ | refine blk_alloc ?_ _)); refine blk_put (cs := #[.slice b1 a9.length b2, .int .i64 b6, .int .i64 0, .int .i64 0, .int .i64 0, .slice none 0 0, .int .i64 0, .int .i64 0, .int .i64 0, .int .i64 0, .int .i64 0]) ?_ 2 _ rfl; (with_reducible repeat (first | refine blk_drewN ?_ _ | refine blk_drew ?_ | refine blk_alloc ?_ _)); refine blk_put (cs := #[.slice b1 a9.length b2, .int .i64 0, .int .i64 0, .int .i64 0, .int .i64 0, .slice none 0 0, .int .i64 0, .int .i64 0, .int .i64 0, .int .i64 0, .int .i64 0]) ?_ 1 _ rfl; (with_reducible repeat (first | refine blk_drewN ?_ _ | refine blk_drew ?_ | refine blk_alloc ?_ _)); refine blk_put (cs := #[.slice none 0 0, .int .i64 0, .int .i64 0, .int .i64 0, .int .i64 0, .slice none 0 0, .int .i64 0, .int .i64 0, .int .i64 0, .int .i64 0, .int .i64 0]) ?_ 0 _ rfl; (with_reducible repeat (first | refine blk_drewN ?_ _ | refine blk_drew ?_ | refine blk_alloc ?_ _)); refine blk_far ?_ a5.out _; (with_reducible repeat (first | refine blk_drewN ?_ _ | refine blk_drew ?_ | refine blk_alloc ?_ _)); refine blk_far ?_ a5.out _; (with_reducible repeat (first | refine blk_drewN ?_ _ | refine blk_drew ?_ | refine blk_alloc ?_ _)); refine blk_far ?_ a5.out _; (with_reducible repeat (first | refine blk_drewN ?_ _ | refine blk_drew ?_ | refine blk_alloc ?_ _)); refine blk_far ?_ a5.out _; (with_reducible repeat (first | refine blk_drewN ?_ _ | refine blk_drew ?_ | refine blk_alloc ?_ _)); exact b0.out) Tryz.underlying42 rfl (by kernel_rfl)) rfl ?_
 exact ⟨_, _, eS, by exact Kd.R_mono (R_on (g := a8) (Kd.R_far (p := ⟨a6, 10, none⟩) (Kd.R_far (p := ⟨a6, 9, none⟩) (Kd.R_far (p := ⟨a6, 8, none⟩) (Kd.R_far (p := ⟨a6, 7, none⟩) (Kd.R_types (Kd.R_types b7.out a3.out (by decide)) b0.out (by decide)) (fun _ hk => hk.1.2) (.int .i64 d5)) (fun _ hk => hk.1.2) (.int .i64 e3)) (fun _ hk => hk.1.2) (.int .i64 e9)) (fun _ hk => hk.1.2) (.int .i64 f9)) (fun _ hk => hk.2)) (fun _ hk => trivial), by exact Kd.R_mono (R_on (g := a8) (Kd.R_far (p := ⟨a6, 10, none⟩) (Kd.R_far (p := ⟨a6, 9, none⟩) (Kd.R_far (p := ⟨a6, 8, none⟩) (Kd.R_far (p := ⟨a6, 7, none⟩) (Kd.R_types (Kd.R_types e2.out a3.out (by decide)) b0.out (by decide)) (fun _ hk => hk.1.2) (.int .i64 d5)) (fun _ hk => hk.1.2) (.int .i64 e3)) (fun _ hk => hk.1.2) (.int .i64 e9)) (fun _ hk => hk.1.2) (.int .i64 f9)) (fun _ hk => hk.2)) (fun _ hk => trivial), bS⟩
def laws_toGraphicsS.l0 : Nat → List (S29) → List (S42) → Int → Option ((List (S42)))
 | 0, _, _, _ => none
 | k + 1, x0, x3, x4 => if x4 < (x0.length : Int) then (if 0 ≤ x4 then ((laws_toGraphics.f k ((rd_T29 x0 x4).f0) ((rd_T29 x0 x4).f1.f0) ((rd_T29 x0 x4).f1.f1) ((rd_T29 x0 x4).f1.f2) ((rd_T29 x0 x4).f1.f3) ((rd_T29 x0 x4).f2) ((rd_T29 x0 x4).f3) ((rd_T29 x0 x4).f4.f0) ((rd_T29 x0 x4).f4.f1) ((rd_T29 x0 x4).f4.f2) ((rd_T29 x0 x4).f4.f3)).bind fun a2 => (if x4 < (x3.length : Int) then (laws_toGraphicsS.l0 k x0 (x3.set (x4 : Int).toNat (⟨a2.1, (⟨a2.2.1, a2.2.2.1, a2.2.2.2.1, a2.2.2.2.2.1⟩ : S38), a2.2.2.2.2.2.1, a2.2.2.2.2.2.2.1, (⟨a2.2.2.2.2.2.2.2.1, a2.2.2.2.2.2.2.2.2.1, a2.2.2.2.2.2.2.2.2.2.1, a2.2.2.2.2.2.2.2.2.2.2⟩ : S40)⟩ : S42)) (wrap64 (x4 + 1))) else (none))) else (none)) else (some x3)
def laws_toGraphicsS.f (k : Nat) (l0 : List (S29)) : Option ((List (S42))) := if 0 ≤ (l0.length : Int) then (if ((l0.length : Int) : Int).toNat ≤ 2345624805922 then (laws_toGraphicsS.l0 k l0 (List.replicate ((l0.length : Int) : Int).toNat z42) 0) else (none)) else (none)
theorem laws_toGraphicsS.calls (k : Nat) (A0 : Option Addr) (c0 : Nat) (l0 : List (S29)) (r : List (S42)) (w : World) (hr0 : Kd.C k29 w A0 l0.length l0) (m0 : l0.length ≤ c0) (h : laws_toGraphicsS.f k l0 = some r) :
  Calls Tryz.prog 34 #[.slice A0 l0.length c0] w fun e w' => ∃ v0_ : Value, e = .returned (v0_) ∧ Kd.S k42 42 w' w.heap.size (fun _ => True) v0_ r ∧ Below w.heap.size w w' := by
 have hu29 := Tryz.underlying29
 have hu42 := Tryz.underlying42
 have m3 := aM hr0
 have m8 := aM m0
 clear hr0 m0
 have HB := aM (Below.refl w.heap.size w)
 have H := h
 clear h
 unfold laws_toGraphicsS.f at H
 by_cases c2 : 0 ≤ (l0.length : Int)
 ·rw [if_pos c2] at H
  have i3 := eq_true c2
  have i4 : decide (0 ≤ (l0.length : Int)) = true := decide_eq_true c2
  clear c2
  by_cases c3 : ((l0.length : Int) : Int).toNat ≤ 2345624805922
  ·rw [if_pos c3] at H
   have i5 := eq_true c3
   have i6 : decide (((l0.length : Int) : Int).toNat ≤ 2345624805922) = true := decide_eq_true c3
   clear c3
   obtain ⟨h4, hy_⟩ : ∃ y_ : List (S42), y_ = (List.replicate ((l0.length : Int) : Int).toNat z42) := ⟨_, rfl⟩
   replace H : (laws_toGraphicsS.l0 k l0 h4 0) = some r := yS
   have Ny591 := aM hy_
   clear hy_
   have H' := aM H
   clear H
   go_enter Tryz.func34, Tryz.ntmps34
   go_wp2_with (first | ((with_reducible refine gate_dst (N := 7) rfl ?_); refine Kd.S_make k42 _ 42 rfl (N := 7) rfl 43 _ _ rfl (l0.length : Int) rfl rfl Tryz.underlying43 (.agg #[(.slice none 0 0), (.int .i64 0), (.int .i64 0), (.int .i64 0), (.int .i64 0), (.slice none 0 0), (.int .i64 0), (.int .i64 0), (.int .i64 0), (.int .i64 0), (.int .i64 0)]) 120 info42 rfl (by decide) (by omega) z42 (ok := fun _ => True) (okp := fun _ => True) (k42_mkM _ _ _ z42 (Kd.R_nil _ _ _ _ _) (Kd.R_nil _ _ _ _ _)) (fun _ hk => hk) trivial (dA) (Nat.le_trans (Nat.mul_le_mul_right _ (dA : (l0.length : Int).toNat ≤ 2345624805922)) (by omega)) (Below.refl _ _) (Nat.le_refl _) ?_; intro i7 w4 h5 hb hg_ hnew_; clear hg_ hnew_; (first | rw [← Ny591.out] at h5 | (simp only [Int.reduceToNat] at h5; rw [← Ny591.out] at h5)); have h6 := aM (Kd.S_lower h5 (below_size bS)); replace HB := hB hb; clear hb h5))
   go_loopg [4] k (fun kq v4 w' => ∃ (a3 : List (S42)) (a2 : Int), v4 = .int .i64 a2 ∧ Aside0 (laws_toGraphicsS.l0 kq l0 a3 a2 = some r) ∧ Aside0 (kq ≤ k) ∧ Aside0 (Kd.S k42 42 w' w.heap.size (fun _ => True) i7 a3) ∧ Aside0 (Below w.heap.size w w'))
   case atStart => exact ⟨(h4), (0), fS, H', ⟨Nat.le_refl _⟩, ⟨sS h6⟩, ⟨bS⟩⟩
   case round =>
    clear H'
    try clear c2
    try clear i3
    try clear i4
    try clear p2
    try clear c3
    try clear i5
    try clear i6
    obtain ⟨a3, a2, rfl, HA, m1, a5, HB⟩ := hrel
    cases gk with
    | zero => exact absurd HA.out (by simp [laws_toGraphicsS.l0])
    | succ k1 =>
     have H := HA.out
     clear HA
     simp only [laws_toGraphicsS.l0] at H
     rcases iD H with ⟨i8, H⟩ | ⟨i8, H⟩
     ·obtain ⟨m4, H⟩ := iT H
      replace H := bN H
      obtain ⟨⟨a7, d5, d6, e0, e1, a8, e2, e3, e4, e5, e6⟩, A8, H⟩ := H
      obtain ⟨m5, H⟩ := iT H
      obtain ⟨g1, hy_⟩ : ∃ y_ : List (S42), y_ = (a3.set (a2 : Int).toNat (⟨a7, (⟨d5, d6, e0, e1⟩ : S38), a8, e2, (⟨e3, e4, e5, e6⟩ : S40)⟩ : S42)) := ⟨_, rfl⟩
      replace H : (laws_toGraphicsS.l0 k1 l0 g1 (wrap64 (a2 + 1))) = some r := yS
      have Ny610 := aM hy_
      clear hy_
      have H' := aM H
      clear H
      have g2 : 0 ≤ (a2 : Int) := dA
      have g3 : a2 < (l0.length : Int) := dA
      obtain ⟨m2, i9, j5, j6, j7, j8, b0, b1, b2, b6, b7, b8, b9, d0, d1, d2, a9, hl594_0, hi594_0, hl594_5, hi594_5⟩ := at_T29 m3.out a2 g2 g3
      cases j8
      replace b0 := cB HB b0
      replace b1 := cB HB b1
      replace b2 := cB HB b2
      replace b6 := cB HB b6
      replace b7 := cB HB b7
      replace b8 := cB HB b8
      replace b9 := cB HB b9
      replace d0 := cB HB d0
      replace d1 := cB HB d1
      replace d2 := cB HB d2
      replace a9 := cB HB a9
      have e7 := aM hi594_0
      have e8 := aM hl594_0
      clear hi594_0 hl594_0
      have e9 := aM hi594_5
      have f5 := aM hl594_5
      clear hi594_5 hl594_5
      replace g2 := eq_true g2
      replace g3 := eq_true g3
      go_wp2_with (first | ((with_reducible refine gC 33 ?_); refine cM (some 20) Tryz.func33 (laws_toGraphics.calls k1 _ _ ((rd_T29 l0 a2).f0) ((rd_T29 l0 a2).f1.f0) ((rd_T29 l0 a2).f1.f1) ((rd_T29 l0 a2).f1.f2) ((rd_T29 l0 a2).f1.f3) _ _ ((rd_T29 l0 a2).f2) ((rd_T29 l0 a2).f3) ((rd_T29 l0 a2).f4.f0) ((rd_T29 l0 a2).f4.f1) ((rd_T29 l0 a2).f4.f2) ((rd_T29 l0 a2).f4.f3) a7 d5 d6 e0 e1 a8 e2 e3 e4 e5 e6 _ (cC e7 HB) e8.out (cC e9 HB) f5.out A8.out) ?_; rintro e a6 ⟨m6, m7, rfl, j9, k0, hb⟩; refine ⟨_, rfl, ?_⟩; have d3 := aM (Kd.R_lower j9 (below_size bS)); have d4 := aM (Kd.R_lower k0 (below_size bS)); replace a5 := aM (Kd.S_mono (Kd.S_told (Kd.S_told (Kd.S_old (sS a5) hb) (Kd.R_base j9)) (Kd.R_base k0)) (fun _ h_ => h_.1)); replace HB := hB hb; (try clear hb hk j9 k0); have p10 : 0 ≤ (a2 : Int) := dA; have k2 : (a2 : Int) < ((a3.length : Int) : Int) := dA; obtain ⟨go10, h7, h8, h9, gl10, cl10, HG10⟩ := Kd.S_form a5.out (by omega); (first | cases h8 | (injection h8 with ea_ en_ ec_; (first | subst ea_ | (injection ea_ with ea_; subst ea_)); subst ec_; clear en_)); have GB10 := aM h9; have GG10 := aM HG10; clear h9 gl10 HG10; obtain ⟨_, ce10, hcl10, hM10, hcc10, hfr10, _, _⟩ := Kd.S_elem a5.out z42 (a2 : Int) p10 k2; obtain ⟨ve10_0, ve10_5, rfl, ge10_0, ge10_5⟩ := k42_openM hM10; have k3 : a6.cell? ⟨go10, (a2 : Int).toNat * 11, none⟩ = some (ve10_0) := hcc10 0 _ rfl; have k4 : a6.cell? ⟨go10, (a2 : Int).toNat * 11 + 1, none⟩ = some (.int .i64 ((rd_T42 a3 a2).f1.f0)) := hcc10 1 _ rfl; have k5 : a6.cell? ⟨go10, (a2 : Int).toNat * 11 + 2, none⟩ = some (.int .i64 ((rd_T42 a3 a2).f1.f1)) := hcc10 2 _ rfl; have k6 : a6.cell? ⟨go10, (a2 : Int).toNat * 11 + 3, none⟩ = some (.int .i64 ((rd_T42 a3 a2).f1.f2)) := hcc10 3 _ rfl; have k7 : a6.cell? ⟨go10, (a2 : Int).toNat * 11 + 4, none⟩ = some (.int .i64 ((rd_T42 a3 a2).f1.f3)) := hcc10 4 _ rfl; have k9 : a6.cell? ⟨go10, (a2 : Int).toNat * 11 + 5, none⟩ = some (ve10_5) := hcc10 5 _ rfl; have l3 : a6.cell? ⟨go10, (a2 : Int).toNat * 11 + 6, none⟩ = some (.int .i64 ((rd_T42 a3 a2).f3)) := hcc10 6 _ rfl; have l4 : a6.cell? ⟨go10, (a2 : Int).toNat * 11 + 7, none⟩ = some (.int .i64 ((rd_T42 a3 a2).f4.f0)) := hcc10 7 _ rfl; have l5 : a6.cell? ⟨go10, (a2 : Int).toNat * 11 + 8, none⟩ = some (.int .i64 ((rd_T42 a3 a2).f4.f1)) := hcc10 8 _ rfl; have l6 : a6.cell? ⟨go10, (a2 : Int).toNat * 11 + 9, none⟩ = some (.int .i64 ((rd_T42 a3 a2).f4.f2)) := hcc10 9 _ rfl; have i1 : a6.cell? ⟨go10, (a2 : Int).toNat * 11 + 10, none⟩ = some (.int .i64 ((rd_T42 a3 a2).f4.f3)) := hcc10 10 _ rfl; have hf10_0 : a6.frozen? ⟨go10, (a2 : Int).toNat * 11, none⟩ = false := hfr10 0; have hf10_1 : a6.frozen? ⟨go10, (a2 : Int).toNat * 11 + 1, none⟩ = false := hfr10 1; have hf10_2 : a6.frozen? ⟨go10, (a2 : Int).toNat * 11 + 2, none⟩ = false := hfr10 2; have hf10_3 : a6.frozen? ⟨go10, (a2 : Int).toNat * 11 + 3, none⟩ = false := hfr10 3; have hf10_4 : a6.frozen? ⟨go10, (a2 : Int).toNat * 11 + 4, none⟩ = false := hfr10 4; have hf10_5 : a6.frozen? ⟨go10, (a2 : Int).toNat * 11 + 5, none⟩ = false := hfr10 5; have hf10_6 : a6.frozen? ⟨go10, (a2 : Int).toNat * 11 + 6, none⟩ = false := hfr10 6; have hf10_7 : a6.frozen? ⟨go10, (a2 : Int).toNat * 11 + 7, none⟩ = false := hfr10 7; have hf10_8 : a6.frozen? ⟨go10, (a2 : Int).toNat * 11 + 8, none⟩ = false := hfr10 8; have hf10_9 : a6.frozen? ⟨go10, (a2 : Int).toNat * 11 + 9, none⟩ = false := hfr10 9; have hf10_10 : a6.frozen? ⟨go10, (a2 : Int).toNat * 11 + 10, none⟩ = false := hfr10 10; (try clear hM10); clear hcl10 hcc10 hfr10; replace p10 := eq_true p10; replace k2 := eq_true k2; obtain ⟨f6, f7, l7⟩ := Kd.R_slice d3.out; subst l7; obtain ⟨f8, f9, l8⟩ := Kd.R_slice d4.out; subst l8; have n_ := aM (Kd.S_mono (ok' := (fun k_ => some k_ ≠ (.slice f6 a7.length f7 : Value).ownBlock ∧ some k_ ≠ (.slice f8 a8.length f9 : Value).ownBlock)) a5.out (fun k_ hk => ⟨hk.1.2, hk.2⟩)); clear a5; have a5 := n_; clear n_; have HX12 := aM (show Kd.S k42 42 a6 w.heap.size (fun k_ => ((fun _ => True)) k_ ∧ ¬ ((fun k_ => some k_ = (.slice f6 a7.length f7 : Value).ownBlock ∨ some k_ = (.slice f8 a8.length f9 : Value).ownBlock)) k_) (.slice (some ⟨go10, 0, none⟩) a3.length h7) a3 from (by exact sT (Kd.S_mono a5.out (fun k_ hk => ⟨trivial, fun e_ => e_.elim (fun h_ => hk.1 h_) (fun h_ => hk.2 h_)⟩)))); obtain ⟨oki12, ce12, hcl12, hM12, hcc12, hfr12, hoki12, hH12⟩ := Kd.S_elem HX12.out z42 (a2 : Int) (dA) (by have h_ : (a2 : Int) < ((a3.length : Int) : Int) := dA; first | exact h_ | (have e_ := (Kd.S_reads' a5.out).1; omega) | simpa using h_); obtain ⟨ve12_0, ve12_5, rfl, ge12_0, ge12_5⟩ := k42_openM hM12; have HP12 := Kd.S_seg hH12 (dA) (by have h_ : (a2 : Int) < ((a3.length : Int) : Int) := dA; first | exact h_ | (have e_ := (Kd.S_reads' a5.out).1; omega) | simpa using h_) (seg := [.slice f6 a7.length f7, .int .i64 d5, .int .i64 d6, .int .i64 e0, .int .i64 e1, .slice f8 a8.length f9, .int .i64 e2, .int .i64 e3, .int .i64 e4, .int .i64 e5, .int .i64 e6]) (j := 0) (show 11 ≤ 11 from by decide) (x' := (⟨a7, (⟨d5, d6, e0, e1⟩ : S38), a8, e2, (⟨e3, e4, e5, e6⟩ : S40)⟩ : S42)) (k42_mkM _ _ _ (⟨a7, (⟨d5, d6, e0, e1⟩ : S38), a8, e2, (⟨e3, e4, e5, e6⟩ : S40)⟩ : S42) (Kd.R_mono (Kd.R_tight rfl (Kd.R_mono (ok' := fun k_ => ((fun _ => True)) k_ ∧ k_ ≠ go10) (Kd.R_apart' (d3.out) (Kd.S_typed a5.out) (by decide)) (fun k_ hk => ⟨trivial, fun e_ => (hk.2) (by rw [e_]; rfl)⟩))) (fun _ h_ => Or.inr (Or.inl h_))) (Kd.R_mono (Kd.R_tight rfl (Kd.R_mono (ok' := fun k_ => ((fun _ => True)) k_ ∧ k_ ≠ go10) (Kd.R_apart' (d4.out) (Kd.S_typed a5.out) (by decide)) (fun k_ hk => ⟨trivial, fun e_ => (hk.2) (by rw [e_]; rfl)⟩))) (fun _ h_ => Or.inr (Or.inr (h_))))) (fun _ hk => hk) (fun k_ hk_ => hk_.elim (fun h_ => ((Kd.R_mono (ok' := fun k_ => ((fun _ => True)) k_ ∧ k_ ≠ go10) (Kd.R_apart' (d3.out) (Kd.S_typed a5.out) (by decide)) (fun k_ hk => ⟨trivial, fun e_ => (hk.2) (by rw [e_]; rfl)⟩))).1 k_ h_.symm) (fun h_ => ((Kd.R_mono (ok' := fun k_ => ((fun _ => True)) k_ ∧ k_ ≠ go10) (Kd.R_apart' (d4.out) (Kd.S_typed a5.out) (by decide)) (fun k_ hk => ⟨trivial, fun e_ => (hk.2) (by rw [e_]; rfl)⟩))).1 k_ h_.symm)); have g4 := hcc12 0 _ rfl; (try simp only [show (k42).sz = 11 from rfl, Nat.mul_one, Nat.add_zero] at g4); have hf12_0 := hfr12 0; (try simp only [show (k42).sz = 11 from rfl, Nat.mul_one, Nat.add_zero] at hf12_0); have g5 := hcc12 1 _ rfl; (try simp only [show (k42).sz = 11 from rfl, Nat.mul_one, Nat.add_zero] at g5); have hf12_1 := hfr12 1; (try simp only [show (k42).sz = 11 from rfl, Nat.mul_one, Nat.add_zero] at hf12_1); have g6 := hcc12 2 _ rfl; (try simp only [show (k42).sz = 11 from rfl, Nat.mul_one, Nat.add_zero] at g6); have hf12_2 := hfr12 2; (try simp only [show (k42).sz = 11 from rfl, Nat.mul_one, Nat.add_zero] at hf12_2); have g7 := hcc12 3 _ rfl; (try simp only [show (k42).sz = 11 from rfl, Nat.mul_one, Nat.add_zero] at g7); have hf12_3 := hfr12 3; (try simp only [show (k42).sz = 11 from rfl, Nat.mul_one, Nat.add_zero] at hf12_3); have g8 := hcc12 4 _ rfl; (try simp only [show (k42).sz = 11 from rfl, Nat.mul_one, Nat.add_zero] at g8); have hf12_4 := hfr12 4; (try simp only [show (k42).sz = 11 from rfl, Nat.mul_one, Nat.add_zero] at hf12_4); have g9 := hcc12 5 _ rfl; (try simp only [show (k42).sz = 11 from rfl, Nat.mul_one, Nat.add_zero] at g9); have hf12_5 := hfr12 5; (try simp only [show (k42).sz = 11 from rfl, Nat.mul_one, Nat.add_zero] at hf12_5); have h0 := hcc12 6 _ rfl; (try simp only [show (k42).sz = 11 from rfl, Nat.mul_one, Nat.add_zero] at h0); have hf12_6 := hfr12 6; (try simp only [show (k42).sz = 11 from rfl, Nat.mul_one, Nat.add_zero] at hf12_6); have h1 := hcc12 7 _ rfl; (try simp only [show (k42).sz = 11 from rfl, Nat.mul_one, Nat.add_zero] at h1); have hf12_7 := hfr12 7; (try simp only [show (k42).sz = 11 from rfl, Nat.mul_one, Nat.add_zero] at hf12_7); have h2 := hcc12 8 _ rfl; (try simp only [show (k42).sz = 11 from rfl, Nat.mul_one, Nat.add_zero] at h2); have hf12_8 := hfr12 8; (try simp only [show (k42).sz = 11 from rfl, Nat.mul_one, Nat.add_zero] at hf12_8); have h3 := hcc12 9 _ rfl; (try simp only [show (k42).sz = 11 from rfl, Nat.mul_one, Nat.add_zero] at h3); have hf12_9 := hfr12 9; (try simp only [show (k42).sz = 11 from rfl, Nat.mul_one, Nat.add_zero] at hf12_9); have g0 := hcc12 10 _ rfl; (try simp only [show (k42).sz = 11 from rfl, Nat.mul_one, Nat.add_zero] at g0); have hf12_10 := hfr12 10; (try simp only [show (k42).sz = 11 from rfl, Nat.mul_one, Nat.add_zero] at hf12_10); (try clear hM12); clear hcl12 hcc12 hfr12 hoki12 hH12) | ((with_reducible refine gate_store (t := 42) (p := 21) rfl ?_); refine store_event (t := 42) (p := 21) (v := ?vo_w13) (w1 := (((((((((((a6.setCell ⟨go10, (a2 : Int).toNat * 11, none⟩ (.slice f6 a7.length f7)).setCell ⟨go10, (a2 : Int).toNat * 11 + 1, none⟩ (.int .i64 d5)).setCell ⟨go10, (a2 : Int).toNat * 11 + 2, none⟩ (.int .i64 d6)).setCell ⟨go10, (a2 : Int).toNat * 11 + 3, none⟩ (.int .i64 e0)).setCell ⟨go10, (a2 : Int).toNat * 11 + 4, none⟩ (.int .i64 e1)).setCell ⟨go10, (a2 : Int).toNat * 11 + 5, none⟩ (.slice f8 a8.length f9)).setCell ⟨go10, (a2 : Int).toNat * 11 + 6, none⟩ (.int .i64 e2)).setCell ⟨go10, (a2 : Int).toNat * 11 + 7, none⟩ (.int .i64 e3)).setCell ⟨go10, (a2 : Int).toNat * 11 + 8, none⟩ (.int .i64 e4)).setCell ⟨go10, (a2 : Int).toNat * 11 + 9, none⟩ (.int .i64 e5)).setCell ⟨go10, (a2 : Int).toNat * 11 + 10, none⟩ (.int .i64 e6))) ?hg ?ho ?hn ?hr ?_; (case ho => rfl); (case hg => rfl); (case hn => rfl); (case hr => first | (go_simp; done) | (go_simp; rfl)); intro l9 hw; have hg : a6.grownBy l9 (some go10) := (by rw [hw]; exact HP12.2); have hp_ : Kd.S k42 42 l9 w.heap.size (fun _ => True) (.slice (some ⟨go10, 0, none⟩) a3.length h7) g1 := (by rw [hw, Ny610.out]; exact HP12.1); clear HP12; replace a5 := aM (hp_); replace HB := aM ((by rw [hw]; exact below_set (below_set (below_set (below_set (below_set (below_set (below_set (below_set (below_set (below_set (below_set (HB.out) GB10.out) GB10.out) GB10.out) GB10.out) GB10.out) GB10.out) GB10.out) GB10.out) GB10.out) GB10.out) GB10.out : Below w.heap.size w l9)); clear d3 d4; clear hg hw hp_))
      go_roundg k1
      case measure => have := m1.out; omega
      case rel => exact ⟨(g1), (wrap64 (a2 + 1)), fS, H', ⟨by have := m1.out; omega⟩, ⟨sS a5⟩, ⟨bS⟩⟩
     ·obtain rfl := Option.some.inj H
      go_wp2
      go_ret
      exact ⟨_, eS, sS a5, bS⟩
  ·rw [if_neg c3] at H
   exact absurd H (by simp)
 ·rw [if_neg c2] at H
  exact absurd H (by simp)
def laws_toObject.f (k : Nat) (a3 : List (S142)) (a5 : Int) (a6 : Int) (a7 : Int) (a8 : Int) (a9 : Int) : Option ((List (S111)) × Int × Int × Int × Int × Int) := (laws_toPointS.f k a3).bind fun b0 => ((laws_toBox.f a6 a7 a8 a9).bind fun a2 => (some (b0, a5, a2.1, a2.2.1, a2.2.2.1, a2.2.2.2)))
theorem laws_toObject.calls (k : Nat) (e0 : Option Addr) (e1 : Nat) (a9 : List (S142)) (d0 : Int) (d1 : Int) (d2 : Int) (d3 : Int) (d4 : Int) (r1 : List (S111)) (r2 : Int) (r3 : Int) (r4 : Int) (r5 : Int) (r6 : Int) (w : World) (d5 : Kd.C k142 w e0 a9.length a9) (d6 : a9.length ≤ e1) (h : laws_toObject.f k a9 d0 d1 d2 d3 d4 = some (r1, r2, r3, r4, r5, r6)) :
  Calls Tryz.prog 80 #[.agg #[.slice e0 a9.length e1, .int .i64 d0, .int .i64 d1, .int .i64 d2, .int .i64 d3, .int .i64 d4]] w fun e w' => ∃ v0_ : Value, e = .returned (.agg #[v0_, .int .i64 r2, .int .i64 r3, .int .i64 r4, .int .i64 r5, .int .i64 r6]) ∧ Kd.R k111 111 w' w.heap.size (fun _ => True) v0_ r1 ∧ Below w.heap.size w w' := by
 have hu99 := Tryz.underlying99
 have hu103 := Tryz.underlying103
 have hu27 := Tryz.underlying27
 have hu40 := Tryz.underlying40
 have e7 := aM d5
 have e8 := aM d6
 clear d5 d6
 have HB := aM (Below.refl w.heap.size w)
 have H := h
 clear h
 unfold laws_toObject.f at H
 replace H := bN H
 obtain ⟨e2, A2, H⟩ := H
 replace H := bN H
 obtain ⟨⟨e3, e4, e5, e6⟩, A3, H⟩ := H
 obtain ⟨rfl, rfl, rfl, rfl, rfl, rfl⟩ := sI6 H
 go_enter Tryz.func80, Tryz.ntmps80
 go_wp2_with (first | ((with_reducible refine gD 1 ?_); refine bxE #[.slice e0 a9.length e1, .int .i64 d0, .int .i64 d1, .int .i64 d2, .int .i64 d3, .int .i64 d4] 99 ?_; intro a3 hg w4 a2 hb; have GE611 := gE hg; replace HB := hB hb; clear hb hg) | ((with_reducible refine gD 2 ?_); refine bxE #[.slice none 0 0, .int .i64 0, .int .i64 0, .int .i64 0, .int .i64 0, .int .i64 0] 103 ?_; intro a5 hg w5 a8 hb; have GE612 := gE hg; have b1 := nL_ a3 hg; have b2 := nG_ a3 hg; replace a2 := kB_ a3 hb; replace HB := hB hb; clear hb hg) | ((with_reducible refine gD 3 ?_); refine bxE #[.slice none 0 0, .int .i64 0, .int .i64 0, .int .i64 0, .int .i64 0, .int .i64 0] 103 ?_; intro a6 hg w6 a7 hb; have GE613 := gE hg; have b6 := nL_ a3 hg; have b7 := nG_ a3 hg; have b8 := nL_ a5 hg; have b9 := nG_ a5 hg; replace a2 := kB_ a3 hb; replace a8 := kB_ a5 hb; replace HB := hB hb; clear hb hg; have hnb7 := nP b1 b2; have hnb8 := nP b6 b7; have f8 := cg0 a2; have f9 := cg1 a2; have g0 := cg2 a2; have g1 := cg3 a2; have g2 := cg4 a2; have g3 := cg5 a2) | ((with_reducible refine gC 78 ?_); refine cM (some 6) Tryz.func78 (laws_toPointS.calls k _ _ a9 e2 _ (cC e7 HB) e8.out A2.out) ?_; rintro e g7 ⟨g6, rfl, g5, hb⟩; refine ⟨_, rfl, ?_⟩; have b0 := aM (Kd.R_lower g5 (below_size bS)); replace a2 := kB_ a3 hb; replace a8 := kB_ a5 hb; replace a7 := kB_ a6 hb; replace HB := hB hb; (try clear hb g5); obtain ⟨e9, f0, g4⟩ := Kd.R_slice b0.out; subst g4; have hnb12 := nP b9 b8; have hz13 := cz6 a7; have f3 := cg1 a2; have f4 := cg2 a2; have f5 := cg3 a2; have f6 := cg4 a2; have f7 := cg5 a2) | ((with_reducible refine gC 79 ?_); refine cM (some 13) Tryz.func79 (laws_toBox.calls d1 d2 d3 d4 e3 e4 e5 e6 _ A3.out) ?_; rintro e g8 ⟨rfl, hb⟩; refine ⟨_, rfl, ?_⟩; replace b0 := aM (Kd.R_below (by exact rG b0 a7) hb); replace a2 := kB_ a3 hb; replace a8 := kB_ a5 hb; replace a7 := kO a6 #[.slice e9 e2.length f0, .int .i64 d0, .int .i64 0, .int .i64 0, .int .i64 0, .int .i64 0] 103 hb; replace HB := hB hb; (try clear hb hk); have hz16 := cz6 a7; have hz17 := cz6 a8))
 refine bodyPost_ret (results_cell_row rfl _ _ a5 103 #[.slice e9 e2.length f0, .int .i64 d0, .int .i64 e3, .int .i64 e4, .int .i64 e5, .int .i64 e6] (0, 0) _ rfl kS Tryz.underlying103 rfl (by kernel_rfl)) rfl ?_
 exact ⟨_, eS, by exact Kd.R_mono (R_on (g := a5) (Kd.R_far (p := ⟨a6, 5, none⟩) (Kd.R_far (p := ⟨a6, 4, none⟩) (Kd.R_far (p := ⟨a6, 3, none⟩) (Kd.R_far (p := ⟨a6, 2, none⟩) (Kd.R_types (Kd.R_types b0.out a7.out (by decide)) a8.out (by decide)) (fun _ hk => hk.1.2) (.int .i64 e3)) (fun _ hk => hk.1.2) (.int .i64 e4)) (fun _ hk => hk.1.2) (.int .i64 e5)) (fun _ hk => hk.1.2) (.int .i64 e6)) (fun _ hk => hk.2)) (fun _ hk => trivial), bS⟩
def laws_toObjectS.l0 : Nat → List (S99) → List (S103) → Int → Option ((List (S103)))
 | 0, _, _, _ => none
 | k + 1, x0, x3, x4 => if x4 < (x0.length : Int) then (if 0 ≤ x4 then ((laws_toObject.f k ((rd_T99 x0 x4).f0) ((rd_T99 x0 x4).f1) ((rd_T99 x0 x4).f2.f0) ((rd_T99 x0 x4).f2.f1) ((rd_T99 x0 x4).f2.f2) ((rd_T99 x0 x4).f2.f3)).bind fun a2 => (if x4 < (x3.length : Int) then (laws_toObjectS.l0 k x0 (x3.set (x4 : Int).toNat (⟨a2.1, a2.2.1, (⟨a2.2.2.1, a2.2.2.2.1, a2.2.2.2.2.1, a2.2.2.2.2.2⟩ : S40)⟩ : S103)) (wrap64 (x4 + 1))) else (none))) else (none)) else (some x3)
def laws_toObjectS.f (k : Nat) (l0 : List (S99)) : Option ((List (S103))) := if 0 ≤ (l0.length : Int) then (if ((l0.length : Int) : Int).toNat ≤ 4398046511104 then (laws_toObjectS.l0 k l0 (List.replicate ((l0.length : Int) : Int).toNat z103) 0) else (none)) else (none)
theorem laws_toObjectS.calls (k : Nat) (A0 : Option Addr) (c0 : Nat) (l0 : List (S99)) (r : List (S103)) (w : World) (hr0 : Kd.C k99 w A0 l0.length l0) (h8 : l0.length ≤ c0) (h : laws_toObjectS.f k l0 = some r) :
  Calls Tryz.prog 35 #[.slice A0 l0.length c0] w fun e w' => ∃ v0_ : Value, e = .returned (v0_) ∧ Kd.S k103 103 w' w.heap.size (fun _ => True) v0_ r ∧ Below w.heap.size w w' := by
 have hu99 := Tryz.underlying99
 have hu103 := Tryz.underlying103
 have i3 := aM hr0
 have i7 := aM h8
 clear hr0 h8
 have HB := aM (Below.refl w.heap.size w)
 have H := h
 clear h
 unfold laws_toObjectS.f at H
 by_cases c2 : 0 ≤ (l0.length : Int)
 ·rw [if_pos c2] at H
  have f9 := eq_true c2
  have g0 : decide (0 ≤ (l0.length : Int)) = true := decide_eq_true c2
  clear c2
  by_cases c3 : ((l0.length : Int) : Int).toNat ≤ 4398046511104
  ·rw [if_pos c3] at H
   have g1 := eq_true c3
   have g2 : decide (((l0.length : Int) : Int).toNat ≤ 4398046511104) = true := decide_eq_true c3
   clear c3
   obtain ⟨e9, hy_⟩ : ∃ y_ : List (S103), y_ = (List.replicate ((l0.length : Int) : Int).toNat z103) := ⟨_, rfl⟩
   replace H : (laws_toObjectS.l0 k l0 e9 0) = some r := yS
   have Ny621 := aM hy_
   clear hy_
   have H' := aM H
   clear H
   go_enter Tryz.func35, Tryz.ntmps35
   go_wp2_with (first | ((with_reducible refine gate_dst (N := 7) rfl ?_); refine Kd.S_make k103 _ 103 rfl (N := 7) rfl 44 _ _ rfl (l0.length : Int) rfl rfl Tryz.underlying44 (.agg #[(.slice none 0 0), (.int .i64 0), (.int .i64 0), (.int .i64 0), (.int .i64 0), (.int .i64 0)]) 64 info103 rfl (by decide) (by omega) z103 (ok := fun _ => True) (okp := fun _ => True) (k103_mkM _ _ _ z103 (Kd.R_nil _ _ _ _ _)) (fun _ hk => hk) trivial (dA) (Nat.le_trans (Nat.mul_le_mul_right _ (dA : (l0.length : Int).toNat ≤ 4398046511104)) (by omega)) (Below.refl _ _) (Nat.le_refl _) ?_; intro g3 w4 f4 hb hg_ hnew_; clear hg_ hnew_; (first | rw [← Ny621.out] at f4 | (simp only [Int.reduceToNat] at f4; rw [← Ny621.out] at f4)); have f5 := aM (Kd.S_lower f4 (below_size bS)); replace HB := hB hb; clear hb f4))
   go_loopg [4] k (fun kq v4 w' => ∃ (a3 : List (S103)) (a2 : Int), v4 = .int .i64 a2 ∧ Aside0 (laws_toObjectS.l0 kq l0 a3 a2 = some r) ∧ Aside0 (kq ≤ k) ∧ Aside0 (Kd.S k103 103 w' w.heap.size (fun _ => True) g3 a3) ∧ Aside0 (Below w.heap.size w w'))
   case atStart => exact ⟨(e9), (0), fS, H', ⟨Nat.le_refl _⟩, ⟨sS f5⟩, ⟨bS⟩⟩
   case round =>
    clear H'
    try clear c2
    try clear f9
    try clear g0
    try clear p2
    try clear c3
    try clear g1
    try clear g2
    obtain ⟨a3, a2, rfl, HA, h9, a5, HB⟩ := hrel
    cases gk with
    | zero => exact absurd HA.out (by simp [laws_toObjectS.l0])
    | succ k1 =>
     have H := HA.out
     clear HA
     simp only [laws_toObjectS.l0] at H
     rcases iD H with ⟨g4, H⟩ | ⟨g4, H⟩
     ·obtain ⟨i4, H⟩ := iT H
      replace H := bN H
      obtain ⟨⟨a6, b8, b9, d0, d1, d2⟩, A8, H⟩ := H
      obtain ⟨i5, H⟩ := iT H
      obtain ⟨e0, hy_⟩ : ∃ y_ : List (S103), y_ = (a3.set (a2 : Int).toNat (⟨a6, b8, (⟨b9, d0, d1, d2⟩ : S40)⟩ : S103)) := ⟨_, rfl⟩
      replace H : (laws_toObjectS.l0 k1 l0 e0 (wrap64 (a2 + 1))) = some r := yS
      have Ny633 := aM hy_
      clear hy_
      have H' := aM H
      clear H
      have e1 : 0 ≤ (a2 : Int) := dA
      have e2 : a2 < (l0.length : Int) := dA
      obtain ⟨i1, g5, g6, g7, a8, a9, b0, b1, b2, b6, hl624_0, hi624_0⟩ := at_T99 i3.out a2 e1 e2
      cases g7
      replace a8 := cB HB a8
      replace a9 := cB HB a9
      replace b0 := cB HB b0
      replace b1 := cB HB b1
      replace b2 := cB HB b2
      replace b6 := cB HB b6
      have d3 := aM hi624_0
      have d4 := aM hl624_0
      clear hi624_0 hl624_0
      replace e1 := eq_true e1
      replace e2 := eq_true e2
      go_wp2_with (first | ((with_reducible refine gC 80 ?_); refine cM (some 20) Tryz.func80 (laws_toObject.calls k1 _ _ ((rd_T99 l0 a2).f0) ((rd_T99 l0 a2).f1) ((rd_T99 l0 a2).f2.f0) ((rd_T99 l0 a2).f2.f1) ((rd_T99 l0 a2).f2.f2) ((rd_T99 l0 a2).f2.f3) a6 b8 b9 d0 d1 d2 _ (cC d3 HB) d4.out A8.out) ?_; rintro e a7 ⟨i6, rfl, g8, hb⟩; refine ⟨_, rfl, ?_⟩; have b7 := aM (Kd.R_lower g8 (below_size bS)); replace a5 := aM (Kd.S_elder' (sS a5) (Kd.R_base g8) hb); replace HB := hB hb; (try clear hb hk g8); have p10 : 0 ≤ (a2 : Int) := dA; have g9 : (a2 : Int) < ((a3.length : Int) : Int) := dA; obtain ⟨go10, f6, f7, f8, gl10, cl10, HG10⟩ := Kd.S_form a5.out (by omega); (first | cases f7 | (injection f7 with ea_ en_ ec_; (first | subst ea_ | (injection ea_ with ea_; subst ea_)); subst ec_; clear en_)); have GB10 := aM f8; have GG10 := aM HG10; clear f8 gl10 HG10; obtain ⟨_, ce10, hcl10, hM10, hcc10, hfr10, _, _⟩ := Kd.S_elem a5.out z103 (a2 : Int) p10 g9; obtain ⟨ve10_0, rfl, ge10_0⟩ := k103_openM hM10; have h0 : a7.cell? ⟨go10, (a2 : Int).toNat * 6, none⟩ = some (ve10_0) := hcc10 0 _ rfl; have h1 : a7.cell? ⟨go10, (a2 : Int).toNat * 6 + 1, none⟩ = some (.int .i64 ((rd_T103 a3 a2).f1)) := hcc10 1 _ rfl; have h2 : a7.cell? ⟨go10, (a2 : Int).toNat * 6 + 2, none⟩ = some (.int .i64 ((rd_T103 a3 a2).f2.f0)) := hcc10 2 _ rfl; have h3 : a7.cell? ⟨go10, (a2 : Int).toNat * 6 + 3, none⟩ = some (.int .i64 ((rd_T103 a3 a2).f2.f1)) := hcc10 3 _ rfl; have h4 : a7.cell? ⟨go10, (a2 : Int).toNat * 6 + 4, none⟩ = some (.int .i64 ((rd_T103 a3 a2).f2.f2)) := hcc10 4 _ rfl; have h5 : a7.cell? ⟨go10, (a2 : Int).toNat * 6 + 5, none⟩ = some (.int .i64 ((rd_T103 a3 a2).f2.f3)) := hcc10 5 _ rfl; have hf10_0 : a7.frozen? ⟨go10, (a2 : Int).toNat * 6, none⟩ = false := hfr10 0; have hf10_1 : a7.frozen? ⟨go10, (a2 : Int).toNat * 6 + 1, none⟩ = false := hfr10 1; have hf10_2 : a7.frozen? ⟨go10, (a2 : Int).toNat * 6 + 2, none⟩ = false := hfr10 2; have hf10_3 : a7.frozen? ⟨go10, (a2 : Int).toNat * 6 + 3, none⟩ = false := hfr10 3; have hf10_4 : a7.frozen? ⟨go10, (a2 : Int).toNat * 6 + 4, none⟩ = false := hfr10 4; have hf10_5 : a7.frozen? ⟨go10, (a2 : Int).toNat * 6 + 5, none⟩ = false := hfr10 5; (try clear hM10); clear hcl10 hcc10 hfr10; replace p10 := eq_true p10; replace g9 := eq_true g9; obtain ⟨d5, d6, h6⟩ := Kd.R_slice b7.out; subst h6; have n_ := aM (Kd.S_mono (ok' := (fun k_ => some k_ ≠ (.slice d5 a6.length d6 : Value).ownBlock)) a5.out (fun k_ hk => hk.2)); clear a5; have a5 := n_; clear n_; have HX12 := aM (show Kd.S k103 103 a7 w.heap.size (fun k_ => ((fun _ => True)) k_ ∧ ¬ ((fun k_ => some k_ = (.slice d5 a6.length d6 : Value).ownBlock)) k_) (.slice (some ⟨go10, 0, none⟩) a3.length f6) a3 from (by exact sT (Kd.S_mono a5.out (fun k_ hk => ⟨trivial, fun e_ => hk e_⟩)))); obtain ⟨oki12, ce12, hcl12, hM12, hcc12, hfr12, hoki12, hH12⟩ := Kd.S_elem HX12.out z103 (a2 : Int) (dA) (by have h_ : (a2 : Int) < ((a3.length : Int) : Int) := dA; first | exact h_ | (have e_ := (Kd.S_reads' a5.out).1; omega) | simpa using h_); obtain ⟨ve12_0, rfl, ge12_0⟩ := k103_openM hM12; have HP12 := Kd.S_seg hH12 (dA) (by have h_ : (a2 : Int) < ((a3.length : Int) : Int) := dA; first | exact h_ | (have e_ := (Kd.S_reads' a5.out).1; omega) | simpa using h_) (seg := [.slice d5 a6.length d6, .int .i64 b8, .int .i64 b9, .int .i64 d0, .int .i64 d1, .int .i64 d2]) (j := 0) (show 6 ≤ 6 from by decide) (x' := (⟨a6, b8, (⟨b9, d0, d1, d2⟩ : S40)⟩ : S103)) (k103_mkM _ _ _ (⟨a6, b8, (⟨b9, d0, d1, d2⟩ : S40)⟩ : S103) (Kd.R_mono (Kd.R_tight rfl (Kd.R_mono (ok' := fun k_ => ((fun _ => True)) k_ ∧ k_ ≠ go10) (Kd.R_apart' (b7.out) (Kd.S_typed a5.out) (by decide)) (fun k_ hk => ⟨trivial, fun e_ => (hk.2) (by rw [e_]; rfl)⟩))) (fun _ h_ => Or.inr (h_)))) (fun _ hk => hk) (fun k_ hk_ => ((Kd.R_mono (ok' := fun k_ => ((fun _ => True)) k_ ∧ k_ ≠ go10) (Kd.R_apart' (b7.out) (Kd.S_typed a5.out) (by decide)) (fun k_ hk => ⟨trivial, fun e_ => (hk.2) (by rw [e_]; rfl)⟩))).1 k_ hk_.symm); have e3 := hcc12 0 _ rfl; (try simp only [show (k103).sz = 6 from rfl, Nat.mul_one, Nat.add_zero] at e3); have hf12_0 := hfr12 0; (try simp only [show (k103).sz = 6 from rfl, Nat.mul_one, Nat.add_zero] at hf12_0); have e4 := hcc12 1 _ rfl; (try simp only [show (k103).sz = 6 from rfl, Nat.mul_one, Nat.add_zero] at e4); have hf12_1 := hfr12 1; (try simp only [show (k103).sz = 6 from rfl, Nat.mul_one, Nat.add_zero] at hf12_1); have e5 := hcc12 2 _ rfl; (try simp only [show (k103).sz = 6 from rfl, Nat.mul_one, Nat.add_zero] at e5); have hf12_2 := hfr12 2; (try simp only [show (k103).sz = 6 from rfl, Nat.mul_one, Nat.add_zero] at hf12_2); have e6 := hcc12 3 _ rfl; (try simp only [show (k103).sz = 6 from rfl, Nat.mul_one, Nat.add_zero] at e6); have hf12_3 := hfr12 3; (try simp only [show (k103).sz = 6 from rfl, Nat.mul_one, Nat.add_zero] at hf12_3); have e7 := hcc12 4 _ rfl; (try simp only [show (k103).sz = 6 from rfl, Nat.mul_one, Nat.add_zero] at e7); have hf12_4 := hfr12 4; (try simp only [show (k103).sz = 6 from rfl, Nat.mul_one, Nat.add_zero] at hf12_4); have e8 := hcc12 5 _ rfl; (try simp only [show (k103).sz = 6 from rfl, Nat.mul_one, Nat.add_zero] at e8); have hf12_5 := hfr12 5; (try simp only [show (k103).sz = 6 from rfl, Nat.mul_one, Nat.add_zero] at hf12_5); (try clear hM12); clear hcl12 hcc12 hfr12 hoki12 hH12) | ((with_reducible refine gate_store (t := 103) (p := 21) rfl ?_); refine store_event (t := 103) (p := 21) (v := ?vo_w13) (w1 := ((((((a7.setCell ⟨go10, (a2 : Int).toNat * 6, none⟩ (.slice d5 a6.length d6)).setCell ⟨go10, (a2 : Int).toNat * 6 + 1, none⟩ (.int .i64 b8)).setCell ⟨go10, (a2 : Int).toNat * 6 + 2, none⟩ (.int .i64 b9)).setCell ⟨go10, (a2 : Int).toNat * 6 + 3, none⟩ (.int .i64 d0)).setCell ⟨go10, (a2 : Int).toNat * 6 + 4, none⟩ (.int .i64 d1)).setCell ⟨go10, (a2 : Int).toNat * 6 + 5, none⟩ (.int .i64 d2))) ?hg ?ho ?hn ?hr ?_; (case ho => rfl); (case hg => rfl); (case hn => rfl); (case hr => first | (go_simp; done) | (go_simp; rfl)); intro h7 hw; have hg : a7.grownBy h7 (some go10) := (by rw [hw]; exact HP12.2); have hp_ : Kd.S k103 103 h7 w.heap.size (fun _ => True) (.slice (some ⟨go10, 0, none⟩) a3.length f6) e0 := (by rw [hw, Ny633.out]; exact HP12.1); clear HP12; replace a5 := aM (hp_); replace HB := aM ((by rw [hw]; exact below_set (below_set (below_set (below_set (below_set (below_set (HB.out) GB10.out) GB10.out) GB10.out) GB10.out) GB10.out) GB10.out : Below w.heap.size w h7)); clear b7; clear hg hw hp_))
      go_roundg k1
      case measure => have := h9.out; omega
      case rel => exact ⟨(e0), (wrap64 (a2 + 1)), fS, H', ⟨by have := h9.out; omega⟩, ⟨sS a5⟩, ⟨bS⟩⟩
     ·obtain rfl := Option.some.inj H
      go_wp2
      go_ret
      exact ⟨_, eS, sS a5, bS⟩
  ·rw [if_neg c3] at H
   exact absurd H (by simp)
 ·rw [if_neg c2] at H
  exact absurd H (by simp)
def laws_toToken.f (a2 : ByteArray) (a3 : Int) : Option (ByteArray × Int) := some (a2, a3)
theorem laws_toToken.calls (b2 : ByteArray) (b6 : Int) (r1 : ByteArray) (r2 : Int) (w : World) (h : laws_toToken.f b2 b6 = some (r1, r2)) :
  Calls Tryz.prog 9 #[.agg #[.string b2, .int .i64 b6]] w fun e w' => e = .returned (.agg #[.string r1, .int .i64 r2]) ∧ Below w.heap.size w w' := by
 have hu35 := Tryz.underlying35
 have hu50 := Tryz.underlying50
 have HB := aM (Below.refl w.heap.size w)
 have H := h
 clear h
 unfold laws_toToken.f at H
 obtain ⟨rfl, rfl⟩ := sI2 H
 go_enter Tryz.func9, Tryz.ntmps9
 go_wp2_with (first | ((with_reducible refine gD 1 ?_); refine bxE #[.string b2, .int .i64 b6] 35 ?_; intro a2 hg w2 b1 hb; have GE658 := gE hg; replace HB := hB hb; clear hb hg) | ((with_reducible refine gD 2 ?_); refine bxE #[.string (⟨#[]⟩ : ByteArray), .int .i64 0] 50 ?_; intro a3 hg w3 b7 hb; have GE659 := gE hg; have a5 := nL_ a2 hg; have a6 := nG_ a2 hg; replace b1 := kB_ a2 hb; replace HB := hB hb; clear hb hg) | ((with_reducible refine gD 3 ?_); refine bxE #[.string (⟨#[]⟩ : ByteArray), .int .i64 0] 50 ?_; intro b9 hg w4 b8 hb; have GE660 := gE hg; have a7 := nL_ a2 hg; have a8 := nG_ a2 hg; have a9 := nL_ a3 hg; have b0 := nG_ a3 hg; replace b1 := kB_ a2 hb; replace b7 := kB_ a3 hb; replace HB := hB hb; clear hb hg; have hnb5 := nP a5 a6; have hnb6 := nP a7 a8; have hz7 := cz2 b1; have hnb8 := nP b0 a9; have hz9 := cz2 b8; have hz10 := cz2 b7))
 refine bodyPost_ret (results_cell_row rfl _ _ a3 50 #[.string b2, .int .i64 b6] (0, 0) _ rfl kS Tryz.underlying50 rfl (by kernel_rfl)) rfl ?_
 exact ⟨eS, bS⟩
def impl_within.f (a0 : Int) (a1 : Int) (a2 : Int) : Option (Bool) := if a0 ≥ a1 then (some (decide (a0 ≤ a2))) else (some false)
theorem impl_within.calls (a0 : Int) (a1 : Int) (a2 : Int) (r : Bool) (w : World) (h : impl_within.f a0 a1 a2 = some r) :
  Calls Tryz.prog 83 #[.int .i64 a0, .int .i64 a1, .int .i64 a2] w fun e w' => e = .returned (.bool r) ∧ Drawn0 w w' := by
 have H := h
 clear h
 unfold impl_within.f at H
 by_cases c4 : a0 ≥ a1
 ·rw [if_pos c4] at H
  have a3 : decide (a1 ≤ a0) = true := decide_eq_true c4
  clear c4
  obtain rfl := Option.some.inj H
  go_enter Tryz.func83, Tryz.ntmps83
  go_wp2
  go_ret
  exact ⟨fS, dS⟩
 ·rw [if_neg c4] at H
  have a3 : decide (a1 ≤ a0) = false := decide_eq_false c4
  clear c4
  obtain rfl := Option.some.inj H
  go_enter Tryz.func83, Tryz.ntmps83
  go_wp2
  go_ret
  exact ⟨fS, dS⟩
def impl_StackOk.l0 : Nat → List Int → Int → Int → Option (Bool)
 | 0, _, _, _ => none
 | k + 1, x8, x9, x10 => if x10 < x9 then (if 0 ≤ x10 then (if x10 < (x8.length : Int) then ((impl_within.f (rd x8 x10) (-9999) 9999).bind fun a2 => (if a2 = true then (impl_StackOk.l0 k x8 x9 (wrap64 (x10 + 1))) else (some false))) else (none)) else (none)) else (some true)
def impl_StackOk.f (k : Nat) (l0 : List Int) : Option (Bool) := if (l0.length : Int) > 12 then (some false) else (impl_StackOk.l0 k l0 (l0.length : Int) 0)
theorem impl_StackOk.calls (k : Nat) (A0 : Option Addr) (c0 : Nat) (l0 : List Int) (r : Bool) (w : World) (hr0 : Kd.C (Kd.int .i64) w A0 l0.length l0) (b6 : l0.length ≤ c0) (h : impl_StackOk.f k l0 = some r) :
  Calls Tryz.prog 88 #[.slice A0 l0.length c0] w fun e w' => e = .returned (.bool r) ∧ Drawn0 w w' := by
 have b7 := aM hr0
 have d2 := aM b6
 clear hr0 b6
 have H := h
 clear h
 unfold impl_StackOk.f at H
 by_cases c2 : (l0.length : Int) > 12
 ·rw [if_pos c2] at H
  have a8 : decide (12 < (l0.length : Int)) = true := decide_eq_true c2
  have a9 : decide (12 < l0.length) = true := decide_eq_true (by omega)
  clear c2
  obtain rfl := Option.some.inj H
  go_enter Tryz.func88, Tryz.ntmps88
  go_wp2
  go_ret
  exact ⟨fS, dS⟩
 ·rw [if_neg c2] at H
  have a8 : decide (12 < (l0.length : Int)) = false := decide_eq_false c2
  have a9 : decide (12 < l0.length) = false := decide_eq_false (by omega)
  clear c2
  have H' := aM H
  clear H
  go_enter Tryz.func88, Tryz.ntmps88
  go_wp2
  go_loopg [10] k (fun kq b9 w' => ∃ (a2 : Int), b9 = .int .i64 a2 ∧ Aside0 (impl_StackOk.l0 kq l0 (l0.length : Int) a2 = some r) ∧ Aside0 (kq ≤ k) ∧ Drawn0 w w')
  case atStart => exact ⟨(0), fS, H', ⟨Nat.le_refl _⟩, dS⟩
  case round =>
   clear H'
   try clear c2
   try clear a8
   try clear a9
   try clear p2
   obtain ⟨a2, rfl, HA, b8, ⟨m1, rfl⟩⟩ := hrel
   cases gk with
   | zero => exact absurd HA.out (by simp [impl_StackOk.l0])
   | succ k1 =>
    have H := HA.out
    clear HA
    simp only [impl_StackOk.l0] at H
    rcases iD H with ⟨b1, H⟩ | ⟨b1, H⟩
    ·obtain ⟨d0, H⟩ := iT H
     obtain ⟨d1, H⟩ := iT H
     replace H := bN H
     obtain ⟨b2, A6, H⟩ := H
     by_cases c7 : b2 = true
     ·subst c7
      rw [if_pos rfl] at H
      have H' := aM H
      clear H
      have a3 : 0 ≤ (a2 : Int) := dA
      have a5 : a2 < (l0.length : Int) := dA
      obtain ⟨b0, a7, a6⟩ := Kd.at_int b7.out a2 a3 a5
      cases a7
      replace a3 := eq_true a3
      replace a5 := eq_true a5
      go_wp2_with (first | ((with_reducible refine gC 83 ?_); refine cM (some 15) Tryz.func83 (impl_within.calls (rd l0 a2) (-9999) 9999 _ _ A6.out) ?_; rintro e w' ⟨rfl, ⟨nd, rfl⟩⟩; refine ⟨_, rfl, ?_⟩))
      go_roundg k1
      case measure => have := b8.out; omega
      case rel => exact ⟨(wrap64 (a2 + 1)), fS, H', ⟨by have := b8.out; omega⟩, dS⟩
     ·obtain rfl := Bool.eq_false_iff.mpr c7
      rw [if_neg nF] at H
      obtain rfl := Option.some.inj H
      have a3 : 0 ≤ (a2 : Int) := dA
      have a5 : a2 < (l0.length : Int) := dA
      obtain ⟨b0, a7, a6⟩ := Kd.at_int b7.out a2 a3 a5
      cases a7
      replace a3 := eq_true a3
      replace a5 := eq_true a5
      go_wp2_with (first | ((with_reducible refine gC 83 ?_); refine cM (some 15) Tryz.func83 (impl_within.calls (rd l0 a2) (-9999) 9999 _ _ A6.out) ?_; rintro e w' ⟨rfl, ⟨nd, rfl⟩⟩; refine ⟨_, rfl, ?_⟩))
      go_ret
      exact ⟨fS, dS⟩
    ·obtain rfl := Option.some.inj H
     go_wp2
     go_ret
     exact ⟨fS, dS⟩
def impl_coordOk.f (a0 : Int) : Option (Bool) := (impl_within.f a0 (-200) 200).bind fun a2 => (some a2)
theorem impl_coordOk.calls (a0 : Int) (r : Bool) (w : World) (h : impl_coordOk.f a0 = some r) :
  Calls Tryz.prog 126 #[.int .i64 a0] w fun e w' => e = .returned (.bool r) ∧ Drawn0 w w' := by
 have H := h
 clear h
 unfold impl_coordOk.f at H
 replace H := bN H
 obtain ⟨a2, A2, H⟩ := H
 obtain rfl := Option.some.inj H
 go_enter Tryz.func126, Tryz.ntmps126
 go_wp2_with (first | ((with_reducible refine gC 83 ?_); refine cM (some 4) Tryz.func83 (impl_within.calls a0 (-200) 200 a2 _ A2.out) ?_; rintro e w' ⟨rfl, ⟨nd, rfl⟩⟩; refine ⟨_, rfl, ?_⟩))
 go_ret
 exact ⟨fS, dS⟩
def impl_TurnOk.f (a2 : Int) (a3 : Int) (a5 : Int) (a6 : Int) : Option (Bool) := (impl_within.f a2 0 3).bind fun a7 => (if a7 = true then ((impl_within.f a3 1 4).bind fun a8 => (if a8 = true then ((impl_coordOk.f a5).bind fun a9 => (if a9 = true then ((impl_coordOk.f a6).bind fun b0 => (some b0)) else (some false))) else (some false))) else (some false))
theorem impl_TurnOk.lf0 {p : Prop} (h : p := by
 go_enter Tryz.func115, Tryz.ntmps115
 go_wp2_with (first | ((with_reducible refine gD 1 ?_); refine bxE #[.int .i64 a2, .int .i64 a3, .int .i64 a5, .int .i64 a6] 38 ?_; intro b2 hg w9 a7 hb; have GE664 := gE hg; replace HB := hB hb; clear hb hg; have hz10 := cz4 a7) | ((with_reducible refine gC 83 ?_); refine cM (some 5) Tryz.func83 (impl_within.calls a2 0 3 _ _ A2.out) ?_; rintro e w' ⟨rfl, ⟨nd, rfl⟩⟩; refine ⟨_, rfl, ?_⟩) | (go_at_call 83; (with_reducible refine (impl_within.calls a3 1 4 _ _ A4.out).mono ?_); rintro e w' ⟨rfl, ⟨nd, rfl⟩⟩) | (go_at_call 126; (with_reducible refine (impl_coordOk.calls a5 _ _ A6.out).mono ?_); rintro e w' ⟨rfl, ⟨nd, rfl⟩⟩) | (go_at_call 126; (with_reducible refine (impl_coordOk.calls a6 a8 _ A8.out).mono ?_); rintro e w' ⟨rfl, ⟨nd, rfl⟩⟩))
 go_ret
 exact ⟨eS, bS⟩) : p := h
theorem impl_TurnOk.calls (a2 : Int) (a3 : Int) (a5 : Int) (a6 : Int) (r : Bool) (w : World) (h : impl_TurnOk.f a2 a3 a5 a6 = some r) :
  Calls Tryz.prog 115 #[.agg #[.int .i64 a2, .int .i64 a3, .int .i64 a5, .int .i64 a6]] w fun e w' => e = .returned (.bool r) ∧ Below w.heap.size w w' := by
 have hu38 := Tryz.underlying38
 have HB := aM (Below.refl w.heap.size w)
 have H := h
 clear h
 unfold impl_TurnOk.f at H
 replace H := bN H
 obtain ⟨a9, A2, H⟩ := H
 by_cases c3 : a9 = true
 ·subst c3
  rw [if_pos rfl] at H
  replace H := bN H
  obtain ⟨b0, A4, H⟩ := H
  by_cases c5 : b0 = true
  ·subst c5
   rw [if_pos rfl] at H
   replace H := bN H
   obtain ⟨b1, A6, H⟩ := H
   by_cases c7 : b1 = true
   ·subst c7
    rw [if_pos rfl] at H
    replace H := bN H
    obtain ⟨a8, A8, H⟩ := H
    obtain rfl := Option.some.inj H
    exact impl_TurnOk.lf0
   ·obtain rfl := Bool.eq_false_iff.mpr c7
    rw [if_neg nF] at H
    obtain rfl := Option.some.inj H
    exact impl_TurnOk.lf0
  ·obtain rfl := Bool.eq_false_iff.mpr c5
   rw [if_neg nF] at H
   obtain rfl := Option.some.inj H
   exact impl_TurnOk.lf0
 ·obtain rfl := Bool.eq_false_iff.mpr c3
  rw [if_neg nF] at H
  obtain rfl := Option.some.inj H
  exact impl_TurnOk.lf0
end Go.Proofs.YtjkgponlahfnjaaGreat.QFnExactExecToken
