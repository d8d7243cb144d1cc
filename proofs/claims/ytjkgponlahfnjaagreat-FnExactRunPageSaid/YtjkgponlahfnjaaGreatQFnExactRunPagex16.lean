/- Walks of functions of the program: each answers what its plain function tells, for every input at which that is told. -/
import Derived.Test.YtjkgponlahfnjaaGreatQFnExactRunPagex0
namespace Go.Proofs.YtjkgponlahfnjaaGreat.QFnExactRunPage
open Go.RowKit Go.Proofs.YtjkgponlahfnjaaGreatW.PrintWords Go.Proofs.YtjkgponlahfnjaaGreatW.PrintLast Go.Proofs.YtjkgponlahfnjaaGreatW.PrintMore
attribute [local go_sem] max2_int min2_int max_two min_two max_three min_three max_four min_four   -- for this text's walks alone
set_option linter.unusedVariables false
set_option linter.unusedSimpArgs false
set_option maxHeartbeats 8000000
set_option maxRecDepth 100000
/-! ### laws_toToken: function 9 -/
def laws_toToken.f (a2 : ByteArray) (a3 : Int) : Option (ByteArray × Int) := some (a2, a3)
theorem laws_toToken.calls (b2 : ByteArray) (b6 : Int) (r1 : ByteArray) (r2 : Int) (w : World) (h : laws_toToken.f b2 b6 = some (r1, r2)) :
  Calls Tryz.prog 9 #[.agg #[.string b2, .int .i64 b6]] w fun e w' => e = .returned (.agg #[.string r1, .int .i64 r2]) ∧ Below w.heap.size w w' := by
 have hu35 := Tryz.underlying35
 have hu50 := Tryz.underlying50
 have HB := aM (Below.refl w.heap.size w)
 have H := h
 clear h
 unfold laws_toToken.f at H
 obtain ⟨rfl, rfl⟩ := sI2 H
 go_enter Tryz.func9, Tryz.ntmps9
 go_wp2_with (first | ((with_reducible refine gD 1 ?_); refine bxE #[.string b2, .int .i64 b6] 35 ?_; intro a2 hg w2 b1 hb; have GE717 := gE hg; replace HB := hB hb; clear hb hg) | ((with_reducible refine gD 2 ?_); refine bxE #[.string (⟨#[]⟩ : ByteArray), .int .i64 0] 50 ?_; intro a3 hg w3 b7 hb; have GE718 := gE hg; have a5 := nL_ a2 hg; have a6 := nG_ a2 hg; replace b1 := kB_ a2 hb; replace HB := hB hb; clear hb hg) | ((with_reducible refine gD 3 ?_); refine bxE #[.string (⟨#[]⟩ : ByteArray), .int .i64 0] 50 ?_; intro b9 hg w4 b8 hb; have GE719 := gE hg; have a7 := nL_ a2 hg; have a8 := nG_ a2 hg; have a9 := nL_ a3 hg; have b0 := nG_ a3 hg; replace b1 := kB_ a2 hb; replace b7 := kB_ a3 hb; replace HB := hB hb; clear hb hg; have hnb5 := nP a5 a6; have hnb6 := nP a7 a8; have hz7 := cz2 b1; have hnb8 := nP b0 a9; have hz9 := cz2 b8; have hz10 := cz2 b7))
 refine bodyPost_ret (results_cell_row rfl _ _ a3 50 #[.string b2, .int .i64 b6] (0, 0) _ rfl kS Tryz.underlying50 rfl (by kernel_rfl)) rfl ?_
 exact ⟨eS, bS⟩
def laws_toTokenS.l0 : Nat → List (S35) → List (S50) → Int → Option ((List (S50)))
 | 0, _, _, _ => none
 | k + 1, x0, x3, x4 => if x4 < (x0.length : Int) then (if 0 ≤ x4 then ((laws_toToken.f ((rd_T35 x0 x4).f0) ((rd_T35 x0 x4).f1)).bind fun a2 => (if x4 < (x3.length : Int) then (laws_toTokenS.l0 k x0 (x3.set (x4 : Int).toNat (⟨a2.1, a2.2⟩ : S50)) (wrap64 (x4 + 1))) else (none))) else (none)) else (some x3)
def laws_toTokenS.f (k : Nat) (l0 : List (S35)) : Option ((List (S50))) := if 0 ≤ (l0.length : Int) then (if ((l0.length : Int) : Int).toNat ≤ 11728124029610 then (laws_toTokenS.l0 k l0 (List.replicate ((l0.length : Int) : Int).toNat z50) 0) else (none)) else (none)
theorem laws_toTokenS.calls (k : Nat) (A0 : Option Addr) (c0 : Nat) (l0 : List (S35)) (r : List (S50)) (w : World) (hr0 : Kd.C k35 w A0 l0.length l0) (e9 : l0.length ≤ c0) (h : laws_toTokenS.f k l0 = some r) :
  Calls Tryz.prog 16 #[.slice A0 l0.length c0] w fun e w' => ∃ v0_ : Value, e = .returned (v0_) ∧ Kd.R k50 50 w' w.heap.size (fun _ => True) v0_ r ∧ Below w.heap.size w w' := by
 have hu35 := Tryz.underlying35
 have hu50 := Tryz.underlying50
 have f5 := aM hr0
 have f8 := aM e9
 clear hr0 e9
 have HB := aM (Below.refl w.heap.size w)
 have H := h
 clear h
 unfold laws_toTokenS.f at H
 by_cases c2 : 0 ≤ (l0.length : Int)
 ·rw [if_pos c2] at H
  have d5 := eq_true c2
  have d6 : decide (0 ≤ (l0.length : Int)) = true := decide_eq_true c2
  clear c2
  by_cases c3 : ((l0.length : Int) : Int).toNat ≤ 11728124029610
  ·rw [if_pos c3] at H
   have e0 := eq_true c3
   have e1 : decide (((l0.length : Int) : Int).toNat ≤ 11728124029610) = true := decide_eq_true c3
   clear c3
   obtain ⟨b9, hy_⟩ : ∃ y_ : List (S50), y_ = (List.replicate ((l0.length : Int) : Int).toNat z50) := ⟨_, rfl⟩
   replace H : (laws_toTokenS.l0 k l0 b9 0) = some r := yS
   have Ny720 := aM hy_
   clear hy_
   have H' := aM H
   clear H
   go_enter Tryz.func16, Tryz.ntmps16
   go_wp2_with (first | ((with_reducible refine gate_dst (N := 7) rfl ?_); refine Kd.R_make k50 _ 50 rfl (N := 7) rfl 59 _ _ rfl (l0.length : Int) rfl rfl Tryz.underlying59 (.agg #[(.string ⟨#[]⟩), (.int .i64 0)]) 24 info50 rfl (by decide) (by omega) z50 (ok := fun _ => True) (okp := fun _ => True) (k50_mkM _ _ _ z50 ) (fun _ hk => hk) trivial (dA) (Nat.le_trans (Nat.mul_le_mul_right _ (dA : (l0.length : Int).toNat ≤ 11728124029610)) (by omega)) (Below.refl _ _) (Nat.le_refl _) ?_; intro e2 w4 d0 hb hg_ hnew_; clear hg_ hnew_; (first | rw [← Ny720.out] at d0 | (simp only [Int.reduceToNat] at d0; rw [← Ny720.out] at d0)); have d1 := aM (Kd.R_lower d0 (below_size bS)); replace HB := hB hb; clear hb d0))
   go_loopg [4] k (fun kq v4 w' => ∃ (a3 : List (S50)) (a2 : Int), v4 = .int .i64 a2 ∧ Aside0 (laws_toTokenS.l0 kq l0 a3 a2 = some r) ∧ Aside0 (kq ≤ k) ∧ Aside0 (Kd.R k50 50 w' w.heap.size (fun _ => True) e2 a3) ∧ Aside0 (Below w.heap.size w w'))
   case atStart => exact ⟨(b9), (0), fS, H', ⟨Nat.le_refl _⟩, ⟨rS d1⟩, ⟨bS⟩⟩
   case round =>
    clear H'
    try clear c1
    try clear c2
    try clear d5
    try clear d6
    try clear p2
    try clear c3
    try clear e0
    try clear e1
    obtain ⟨a3, a2, rfl, HA, f3, a5, HB⟩ := hrel
    cases gk with
    | zero => exact absurd HA.out (by simp [laws_toTokenS.l0])
    | succ k1 =>
     have H := HA.out
     clear HA
     simp only [laws_toTokenS.l0] at H
     rcases iD H with ⟨e3, H⟩ | ⟨e3, H⟩
     ·obtain ⟨f6, H⟩ := iT H
      replace H := bN H
      obtain ⟨⟨a8, a9⟩, A8, H⟩ := H
      obtain ⟨f7, H⟩ := iT H
      obtain ⟨b0, hy_⟩ : ∃ y_ : List (S50), y_ = (a3.set (a2 : Int).toNat (⟨a8, a9⟩ : S50)) := ⟨_, rfl⟩
      replace H : (laws_toTokenS.l0 k1 l0 b0 (wrap64 (a2 + 1))) = some r := yS
      have Ny726 := aM hy_
      clear hy_
      have H' := aM H
      clear H
      have b1 : 0 ≤ (a2 : Int) := dA
      have b2 : a2 < (l0.length : Int) := dA
      obtain ⟨f4, e4, a6, a7⟩ := at_T35 f5.out a2 b1 b2
      cases e4
      replace a6 := cB HB a6
      replace a7 := cB HB a7
      replace b1 := eq_true b1
      replace b2 := eq_true b2
      go_wp2_with (first | ((with_reducible refine gC 9 ?_); refine cM (some 20) Tryz.func9 (laws_toToken.calls ((rd_T35 l0 a2).f0) ((rd_T35 l0 a2).f1) a8 a9 _ A8.out) ?_; rintro e b6 ⟨rfl, hb⟩; refine ⟨_, rfl, ?_⟩; replace a5 := rB a5 hb; replace HB := hB hb; (try clear hb hk); have p10 : 0 ≤ (a2 : Int) := dA; have e5 : (a2 : Int) < ((a3.length : Int) : Int) := dA; obtain ⟨go10, d2, d3, d4, gl10, cl10, HG10⟩ := Kd.R_form a5.out (by omega); (first | cases d3 | (injection d3 with ea_ en_ ec_; (first | subst ea_ | (injection ea_ with ea_; subst ea_)); subst ec_; clear en_)); have GB10 := aM d4; have GG10 := aM HG10; clear d4 gl10 HG10; obtain ⟨ce10, hcl10, hM10, hcc10, hfr10⟩ := Kd.R_elem a5.out z50 (a2 : Int) p10 e5; obtain rfl := k50_openM hM10; have e6 : b6.cell? ⟨go10, (a2 : Int).toNat * 2, none⟩ = some (.string ((rd_T50 a3 a2).f0)) := hcc10 0 _ rfl; have e7 : b6.cell? ⟨go10, (a2 : Int).toNat * 2 + 1, none⟩ = some (.int .i64 ((rd_T50 a3 a2).f1)) := hcc10 1 _ rfl; have hf10_0 : b6.frozen? ⟨go10, (a2 : Int).toNat * 2, none⟩ = false := hfr10 0; have hf10_1 : b6.frozen? ⟨go10, (a2 : Int).toNat * 2 + 1, none⟩ = false := hfr10 1; (try clear hM10); clear hcl10 hcc10 hfr10; replace p10 := eq_true p10; replace e5 := eq_true e5; have HX12 := aM (show Kd.R k50 50 b6 w.heap.size (fun _ => True) (.slice (some ⟨go10, 0, none⟩) a3.length d2) a3 from (rS a5)); obtain ⟨ce12, hcl12, hM12, hcc12, hfr12⟩ := Kd.R_elem HX12.out z50 (a2 : Int) (dA) (by have h_ : (a2 : Int) < ((a3.length : Int) : Int) := dA; first | exact h_ | (have e_ := (Kd.R_reads' a5.out).1; omega) | simpa using h_); obtain rfl := k50_openM hM12; have HP12 := Kd.R_seg HX12.out (a2 : Int) (dA) (by have h_ : (a2 : Int) < ((a3.length : Int) : Int) := dA; first | exact h_ | (have e_ := (Kd.R_reads' a5.out).1; omega) | simpa using h_) (seg := [.string a8, .int .i64 a9]) (j := 0) hcl12 hcc12 (show 2 ≤ 2 from by decide) (x' := (⟨a8, a9⟩ : S50)) (k50_mkM _ _ _ (⟨a8, a9⟩ : S50) ) (fun _ hk => hk); have b7 := hcc12 0 _ rfl; (try simp only [show (k50).sz = 2 from rfl, Nat.mul_one, Nat.add_zero] at b7); have hf12_0 := hfr12 0; (try simp only [show (k50).sz = 2 from rfl, Nat.mul_one, Nat.add_zero] at hf12_0); have b8 := hcc12 1 _ rfl; (try simp only [show (k50).sz = 2 from rfl, Nat.mul_one, Nat.add_zero] at b8); have hf12_1 := hfr12 1; (try simp only [show (k50).sz = 2 from rfl, Nat.mul_one, Nat.add_zero] at hf12_1); (try clear hM12); clear hcl12 hcc12 hfr12) | ((with_reducible refine gate_store (t := 50) (p := 21) rfl ?_); refine store_event (t := 50) (p := 21) (v := ?vo_w13) (w1 := ((b6.setCell ⟨go10, (a2 : Int).toNat * 2, none⟩ (.string a8)).setCell ⟨go10, (a2 : Int).toNat * 2 + 1, none⟩ (.int .i64 a9))) ?hg ?ho ?hn ?hr ?_; (case ho => rfl); (case hg => rfl); (case hn => rfl); (case hr => first | (go_simp; done) | (go_simp; rfl)); intro e8 hw; have hg : b6.grownBy e8 (some go10) := (by rw [hw]; exact HP12.2); have hp_ : Kd.R k50 50 e8 w.heap.size (fun _ => True) (.slice (some ⟨go10, 0, none⟩) a3.length d2) b0 := (by rw [hw, Ny726.out]; exact HP12.1); clear HP12; replace a5 := aM (hp_); replace HB := aM ((by rw [hw]; exact below_set (below_set (HB.out) GB10.out) GB10.out : Below w.heap.size w e8)); clear hg hw hp_))
      go_roundg k1
      case measure => have := f3.out; omega
      case rel => exact ⟨(b0), (wrap64 (a2 + 1)), fS, H', ⟨by have := f3.out; omega⟩, ⟨rS a5⟩, ⟨bS⟩⟩
     ·obtain rfl := Option.some.inj H
      go_wp2
      go_ret
      exact ⟨_, eS, rS a5, bS⟩
  ·rw [if_neg c3] at H
   exact absurd H (by simp)
 ·rw [if_neg c2] at H
  exact absurd H (by simp)
def impl_within.f (a0 : Int) (a1 : Int) (a2 : Int) : Option (Bool) := if a0 ≥ a1 then (some (decide (a0 ≤ a2))) else (some false)
theorem impl_within.calls (a0 : Int) (a1 : Int) (a2 : Int) (r : Bool) (w : World) (h : impl_within.f a0 a1 a2 = some r) :
  Calls Tryz.prog 83 #[.int .i64 a0, .int .i64 a1, .int .i64 a2] w fun e w' => e = .returned (.bool r) ∧ Drawn0 w w' := by
 have H := h
 clear h
 unfold impl_within.f at H
 by_cases c4 : a0 ≥ a1
 ·rw [if_pos c4] at H
  have a3 : decide (a1 ≤ a0) = true := decide_eq_true c4
  clear c4
  obtain rfl := Option.some.inj H
  go_enter Tryz.func83, Tryz.ntmps83
  go_wp2
  go_ret
  exact ⟨fS, dS⟩
 ·rw [if_neg c4] at H
  have a3 : decide (a1 ≤ a0) = false := decide_eq_false c4
  clear c4
  obtain rfl := Option.some.inj H
  go_enter Tryz.func83, Tryz.ntmps83
  go_wp2
  go_ret
  exact ⟨fS, dS⟩
def impl_StackOk.l0 : Nat → List Int → Int → Int → Option (Bool)
 | 0, _, _, _ => none
 | k + 1, x8, x9, x10 => if x10 < x9 then (if 0 ≤ x10 then (if x10 < (x8.length : Int) then ((impl_within.f (rd x8 x10) (-9999) 9999).bind fun a2 => (if a2 = true then (impl_StackOk.l0 k x8 x9 (wrap64 (x10 + 1))) else (some false))) else (none)) else (none)) else (some true)
def impl_StackOk.f (k : Nat) (l0 : List Int) : Option (Bool) := if (l0.length : Int) > 12 then (some false) else (impl_StackOk.l0 k l0 (l0.length : Int) 0)
theorem impl_StackOk.calls (k : Nat) (A0 : Option Addr) (c0 : Nat) (l0 : List Int) (r : Bool) (w : World) (hr0 : Kd.C (Kd.int .i64) w A0 l0.length l0) (b6 : l0.length ≤ c0) (h : impl_StackOk.f k l0 = some r) :
  Calls Tryz.prog 88 #[.slice A0 l0.length c0] w fun e w' => e = .returned (.bool r) ∧ Drawn0 w w' := by
 have b7 := aM hr0
 have d2 := aM b6
 clear hr0 b6
 have H := h
 clear h
 unfold impl_StackOk.f at H
 by_cases c2 : (l0.length : Int) > 12
 ·rw [if_pos c2] at H
  have a8 : decide (12 < (l0.length : Int)) = true := decide_eq_true c2
  have a9 : decide (12 < l0.length) = true := decide_eq_true (by omega)
  clear c2
  obtain rfl := Option.some.inj H
  go_enter Tryz.func88, Tryz.ntmps88
  go_wp2
  go_ret
  exact ⟨fS, dS⟩
 ·rw [if_neg c2] at H
  have a8 : decide (12 < (l0.length : Int)) = false := decide_eq_false c2
  have a9 : decide (12 < l0.length) = false := decide_eq_false (by omega)
  clear c2
  have H' := aM H
  clear H
  go_enter Tryz.func88, Tryz.ntmps88
  go_wp2
  go_loopg [10] k (fun kq b9 w' => ∃ (a2 : Int), b9 = .int .i64 a2 ∧ Aside0 (impl_StackOk.l0 kq l0 (l0.length : Int) a2 = some r) ∧ Aside0 (kq ≤ k) ∧ Drawn0 w w')
  case atStart => exact ⟨(0), fS, H', ⟨Nat.le_refl _⟩, dS⟩
  case round =>
   clear H'
   try clear c2
   try clear a8
   try clear a9
   try clear p2
   obtain ⟨a2, rfl, HA, b8, ⟨m1, rfl⟩⟩ := hrel
   cases gk with
   | zero => exact absurd HA.out (by simp [impl_StackOk.l0])
   | succ k1 =>
    have H := HA.out
    clear HA
    simp only [impl_StackOk.l0] at H
    rcases iD H with ⟨b1, H⟩ | ⟨b1, H⟩
    ·obtain ⟨d0, H⟩ := iT H
     obtain ⟨d1, H⟩ := iT H
     replace H := bN H
     obtain ⟨b2, A6, H⟩ := H
     by_cases c7 : b2 = true
     ·subst c7
      rw [if_pos rfl] at H
      have H' := aM H
      clear H
      have a3 : 0 ≤ (a2 : Int) := dA
      have a5 : a2 < (l0.length : Int) := dA
      obtain ⟨b0, a7, a6⟩ := Kd.at_int b7.out a2 a3 a5
      cases a7
      replace a3 := eq_true a3
      replace a5 := eq_true a5
      go_wp2_with (first | ((with_reducible refine gC 83 ?_); refine cM (some 15) Tryz.func83 (impl_within.calls (rd l0 a2) (-9999) 9999 _ _ A6.out) ?_; rintro e w' ⟨rfl, ⟨nd, rfl⟩⟩; refine ⟨_, rfl, ?_⟩))
      go_roundg k1
      case measure => have := b8.out; omega
      case rel => exact ⟨(wrap64 (a2 + 1)), fS, H', ⟨by have := b8.out; omega⟩, dS⟩
     ·obtain rfl := Bool.eq_false_iff.mpr c7
      rw [if_neg nF] at H
      obtain rfl := Option.some.inj H
      have a3 : 0 ≤ (a2 : Int) := dA
      have a5 : a2 < (l0.length : Int) := dA
      obtain ⟨b0, a7, a6⟩ := Kd.at_int b7.out a2 a3 a5
      cases a7
      replace a3 := eq_true a3
      replace a5 := eq_true a5
      go_wp2_with (first | ((with_reducible refine gC 83 ?_); refine cM (some 15) Tryz.func83 (impl_within.calls (rd l0 a2) (-9999) 9999 _ _ A6.out) ?_; rintro e w' ⟨rfl, ⟨nd, rfl⟩⟩; refine ⟨_, rfl, ?_⟩))
      go_ret
      exact ⟨fS, dS⟩
    ·obtain rfl := Option.some.inj H
     go_wp2
     go_ret
     exact ⟨fS, dS⟩
def impl_coordOk.f (a0 : Int) : Option (Bool) := (impl_within.f a0 (-200) 200).bind fun a2 => (some a2)
theorem impl_coordOk.calls (a0 : Int) (r : Bool) (w : World) (h : impl_coordOk.f a0 = some r) :
  Calls Tryz.prog 126 #[.int .i64 a0] w fun e w' => e = .returned (.bool r) ∧ Drawn0 w w' := by
 have H := h
 clear h
 unfold impl_coordOk.f at H
 replace H := bN H
 obtain ⟨a2, A2, H⟩ := H
 obtain rfl := Option.some.inj H
 go_enter Tryz.func126, Tryz.ntmps126
 go_wp2_with (first | ((with_reducible refine gC 83 ?_); refine cM (some 4) Tryz.func83 (impl_within.calls a0 (-200) 200 a2 _ A2.out) ?_; rintro e w' ⟨rfl, ⟨nd, rfl⟩⟩; refine ⟨_, rfl, ?_⟩))
 go_ret
 exact ⟨fS, dS⟩
def impl_TurnOk.f (a2 : Int) (a3 : Int) (a5 : Int) (a6 : Int) : Option (Bool) := (impl_within.f a2 0 3).bind fun a7 => (if a7 = true then ((impl_within.f a3 1 4).bind fun a8 => (if a8 = true then ((impl_coordOk.f a5).bind fun a9 => (if a9 = true then ((impl_coordOk.f a6).bind fun b0 => (some b0)) else (some false))) else (some false))) else (some false))
theorem impl_TurnOk.lf0 {p : Prop} (h : p := by
 go_enter Tryz.func115, Tryz.ntmps115
 go_wp2_with (first | ((with_reducible refine gD 1 ?_); refine bxE #[.int .i64 a2, .int .i64 a3, .int .i64 a5, .int .i64 a6] 38 ?_; intro b2 hg w9 a7 hb; have GE730 := gE hg; replace HB := hB hb; clear hb hg; have hz10 := cz4 a7) | ((with_reducible refine gC 83 ?_); refine cM (some 5) Tryz.func83 (impl_within.calls a2 0 3 _ _ A2.out) ?_; rintro e w' ⟨rfl, ⟨nd, rfl⟩⟩; refine ⟨_, rfl, ?_⟩) | (go_at_call 83; (with_reducible refine (impl_within.calls a3 1 4 _ _ A4.out).mono ?_); rintro e w' ⟨rfl, ⟨nd, rfl⟩⟩) | (go_at_call 126; (with_reducible refine (impl_coordOk.calls a5 _ _ A6.out).mono ?_); rintro e w' ⟨rfl, ⟨nd, rfl⟩⟩) | (go_at_call 126; (with_reducible refine (impl_coordOk.calls a6 a8 _ A8.out).mono ?_); rintro e w' ⟨rfl, ⟨nd, rfl⟩⟩))
 go_ret
 exact ⟨eS, bS⟩) : p := h
theorem impl_TurnOk.calls (a2 : Int) (a3 : Int) (a5 : Int) (a6 : Int) (r : Bool) (w : World) (h : impl_TurnOk.f a2 a3 a5 a6 = some r) :
  Calls Tryz.prog 115 #[.agg #[.int .i64 a2, .int .i64 a3, .int .i64 a5, .int .i64 a6]] w fun e w' => e = .returned (.bool r) ∧ Below w.heap.size w w' := by
 have hu38 := Tryz.underlying38
 have HB := aM (Below.refl w.heap.size w)
 have H := h
 clear h
 unfold impl_TurnOk.f at H
 replace H := bN H
 obtain ⟨a9, A2, H⟩ := H
 by_cases c3 : a9 = true
 ·subst c3
  rw [if_pos rfl] at H
  replace H := bN H
  obtain ⟨b0, A4, H⟩ := H
  by_cases c5 : b0 = true
  ·subst c5
   rw [if_pos rfl] at H
   replace H := bN H
   obtain ⟨b1, A6, H⟩ := H
   by_cases c7 : b1 = true
   ·subst c7
    rw [if_pos rfl] at H
    replace H := bN H
    obtain ⟨a8, A8, H⟩ := H
    obtain rfl := Option.some.inj H
    exact impl_TurnOk.lf0
   ·obtain rfl := Bool.eq_false_iff.mpr c7
    rw [if_neg nF] at H
    obtain rfl := Option.some.inj H
    exact impl_TurnOk.lf0
  ·obtain rfl := Bool.eq_false_iff.mpr c5
   rw [if_neg nF] at H
   obtain rfl := Option.some.inj H
   exact impl_TurnOk.lf0
 ·obtain rfl := Bool.eq_false_iff.mpr c3
  rw [if_neg nF] at H
  obtain rfl := Option.some.inj H
  exact impl_TurnOk.lf0
def impl_BoxOk.f (a2 : Int) (a3 : Int) (a5 : Int) (a6 : Int) : Option (Bool) := (impl_coordOk.f a2).bind fun a7 => (if a7 = true then ((impl_coordOk.f a3).bind fun a8 => (if a8 = true then ((impl_coordOk.f a5).bind fun a9 => (if a9 = true then ((impl_coordOk.f a6).bind fun b0 => (if b0 = true then (if a2 ≤ a5 then (some (decide (a3 ≤ a6))) else (some false)) else (some false))) else (some false))) else (some false))) else (some false))
theorem impl_BoxOk.lf0 {p : Prop} (h : p := by
 go_enter Tryz.func116, Tryz.ntmps116
 go_wp2_with (first | ((with_reducible refine gD 1 ?_); refine bxE #[.int .i64 a2, .int .i64 a3, .int .i64 a5, .int .i64 a6] 40 ?_; intro b6 hg b7 a7 hb; have GE735 := gE hg; replace HB := hB hb; clear hb hg; have hz12 := cz4 a7) | ((with_reducible refine gC 126 ?_); refine cM (some 5) Tryz.func126 (impl_coordOk.calls a2 _ _ A2.out) ?_; rintro e w' ⟨rfl, ⟨nd, rfl⟩⟩; refine ⟨_, rfl, ?_⟩) | (go_at_call 126; (with_reducible refine (impl_coordOk.calls a3 _ _ A4.out).mono ?_); rintro e w' ⟨rfl, ⟨nd, rfl⟩⟩) | (go_at_call 126; (with_reducible refine (impl_coordOk.calls a5 _ _ A6.out).mono ?_); rintro e w' ⟨rfl, ⟨nd, rfl⟩⟩) | (go_at_call 126; (with_reducible refine (impl_coordOk.calls a6 _ _ A8.out).mono ?_); rintro e w' ⟨rfl, ⟨nd, rfl⟩⟩))
 go_ret
 exact ⟨eS, bS⟩) : p := h
theorem impl_BoxOk.calls (a2 : Int) (a3 : Int) (a5 : Int) (a6 : Int) (r : Bool) (w : World) (h : impl_BoxOk.f a2 a3 a5 a6 = some r) :
  Calls Tryz.prog 116 #[.agg #[.int .i64 a2, .int .i64 a3, .int .i64 a5, .int .i64 a6]] w fun e w' => e = .returned (.bool r) ∧ Below w.heap.size w w' := by
 have hu40 := Tryz.underlying40
 have HB := aM (Below.refl w.heap.size w)
 have H := h
 clear h
 unfold impl_BoxOk.f at H
 replace H := bN H
 obtain ⟨a9, A2, H⟩ := H
 by_cases c3 : a9 = true
 ·subst c3
  rw [if_pos rfl] at H
  replace H := bN H
  obtain ⟨b0, A4, H⟩ := H
  by_cases c5 : b0 = true
  ·subst c5
   rw [if_pos rfl] at H
   replace H := bN H
   obtain ⟨b1, A6, H⟩ := H
   by_cases c7 : b1 = true
   ·subst c7
    rw [if_pos rfl] at H
    replace H := bN H
    obtain ⟨b2, A8, H⟩ := H
    by_cases c9 : b2 = true
    ·subst c9
     rw [if_pos rfl] at H
     rcases iD H with ⟨a8, H⟩ | ⟨a8, H⟩
     ·obtain rfl := Option.some.inj H
      exact impl_BoxOk.lf0
     ·obtain rfl := Option.some.inj H
      exact impl_BoxOk.lf0
    ·obtain rfl := Bool.eq_false_iff.mpr c9
     rw [if_neg nF] at H
     obtain rfl := Option.some.inj H
     exact impl_BoxOk.lf0
   ·obtain rfl := Bool.eq_false_iff.mpr c7
    rw [if_neg nF] at H
    obtain rfl := Option.some.inj H
    exact impl_BoxOk.lf0
  ·obtain rfl := Bool.eq_false_iff.mpr c5
   rw [if_neg nF] at H
   obtain rfl := Option.some.inj H
   exact impl_BoxOk.lf0
 ·obtain rfl := Bool.eq_false_iff.mpr c3
  rw [if_neg nF] at H
  obtain rfl := Option.some.inj H
  exact impl_BoxOk.lf0
def impl_PointOk.f (a2 : Int) (a3 : Int) : Option (Bool) := (impl_coordOk.f a2).bind fun a5 => (if a5 = true then ((impl_coordOk.f a3).bind fun a6 => (some a6)) else (some false))
theorem impl_PointOk.lf0 {p : Prop} (h : p := by
 go_enter Tryz.func127, Tryz.ntmps127
 go_wp2_with (first | ((with_reducible refine gD 1 ?_); refine bxE #[.int .i64 a2, .int .i64 a3] 111 ?_; intro a8 hg w5 a5 hb; have GE740 := gE hg; replace HB := hB hb; clear hb hg; have hz6 := cz2 a5) | ((with_reducible refine gC 126 ?_); refine cM (some 5) Tryz.func126 (impl_coordOk.calls a2 _ _ A2.out) ?_; rintro e w' ⟨rfl, ⟨nd, rfl⟩⟩; refine ⟨_, rfl, ?_⟩) | (go_at_call 126; (with_reducible refine (impl_coordOk.calls a3 a6 _ A4.out).mono ?_); rintro e w' ⟨rfl, ⟨nd, rfl⟩⟩))
 go_ret
 exact ⟨eS, bS⟩) : p := h
theorem impl_PointOk.calls (a2 : Int) (a3 : Int) (r : Bool) (w : World) (h : impl_PointOk.f a2 a3 = some r) :
  Calls Tryz.prog 127 #[.agg #[.int .i64 a2, .int .i64 a3]] w fun e w' => e = .returned (.bool r) ∧ Below w.heap.size w w' := by
 have hu111 := Tryz.underlying111
 have HB := aM (Below.refl w.heap.size w)
 have H := h
 clear h
 unfold impl_PointOk.f at H
 replace H := bN H
 obtain ⟨a7, A2, H⟩ := H
 by_cases c3 : a7 = true
 ·subst c3
  rw [if_pos rfl] at H
  replace H := bN H
  obtain ⟨a6, A4, H⟩ := H
  obtain rfl := Option.some.inj H
  exact impl_PointOk.lf0
 ·obtain rfl := Bool.eq_false_iff.mpr c3
  rw [if_neg nF] at H
  obtain rfl := Option.some.inj H
  exact impl_PointOk.lf0
def impl_pointsOk.l0 : Nat → List (S111) → Int → Int → Option (Bool)
 | 0, _, _, _ => none
 | k + 1, x5, x6, x7 => if x7 < x6 then (if 0 ≤ x7 then (if x7 < (x5.length : Int) then ((impl_PointOk.f ((rd_T111 x5 x7).f0) ((rd_T111 x5 x7).f1)).bind fun a2 => (if a2 = true then (impl_pointsOk.l0 k x5 x6 (wrap64 (x7 + 1))) else (some false))) else (none)) else (none)) else (some true)
def impl_pointsOk.f (k : Nat) (l0 : List (S111)) : Option (Bool) := impl_pointsOk.l0 k l0 (l0.length : Int) 0
theorem impl_pointsOk.calls (k : Nat) (A0 : Option Addr) (c0 : Nat) (l0 : List (S111)) (r : Bool) (w : World) (hr0 : Kd.C k111 w A0 l0.length l0) (b7 : l0.length ≤ c0) (h : impl_pointsOk.f k l0 = some r) :
  Calls Tryz.prog 117 #[.slice A0 l0.length c0] w fun e w' => e = .returned (.bool r) ∧ Below w.heap.size w w' := by
 have hu111 := Tryz.underlying111
 have b8 := aM hr0
 have d2 := aM b7
 clear hr0 b7
 have HB := aM (Below.refl w.heap.size w)
 have H := h
 clear h
 unfold impl_pointsOk.f at H
 have H' := aM H
 clear H
 go_enter Tryz.func117, Tryz.ntmps117
 go_wp2
 go_loopg [7] k (fun kq v7 w' => ∃ (a2 : Int), v7 = .int .i64 a2 ∧ Aside0 (impl_pointsOk.l0 kq l0 (l0.length : Int) a2 = some r) ∧ Aside0 (kq ≤ k) ∧ Aside0 (Below w.heap.size w w'))
 case atStart => exact ⟨(0), fS, H', ⟨Nat.le_refl _⟩, ⟨bS⟩⟩
 case round =>
  clear H'
  try clear c1
  obtain ⟨a2, rfl, HA, b9, HB⟩ := hrel
  cases gk with
  | zero => exact absurd HA.out (by simp [impl_pointsOk.l0])
  | succ k1 =>
   have H := HA.out
   clear HA
   simp only [impl_pointsOk.l0] at H
   rcases iD H with ⟨b2, H⟩ | ⟨b2, H⟩
   ·obtain ⟨d0, H⟩ := iT H
    obtain ⟨d1, H⟩ := iT H
    replace H := bN H
    obtain ⟨b6, A5, H⟩ := H
    by_cases c6 : b6 = true
    ·subst c6
     rw [if_pos rfl] at H
     have H' := aM H
     clear H
     have a7 : 0 ≤ (a2 : Int) := dA
     have a8 : a2 < (l0.length : Int) := dA
     obtain ⟨b1, b0, a3, a5⟩ := at_T111 b8.out a2 a7 a8
     cases b0
     replace a3 := cB HB a3
     replace a5 := cB HB a5
     replace a7 := eq_true a7
     replace a8 := eq_true a8
     go_wp2_with (first | ((with_reducible refine gD 4 ?_); refine bxE #[.int .i64 0, .int .i64 0] 111 ?_; intro a9 hg w7 a6 hb; have GE744 := gE hg; replace HB := hB hb; clear hb hg; have hz8 := cz2 a6) | ((with_reducible refine gC 127 ?_); refine cM (some 12) Tryz.func127 (impl_PointOk.calls ((rd_T111 l0 a2).f0) ((rd_T111 l0 a2).f1) _ _ A5.out) ?_; rintro e w9 ⟨rfl, hb⟩; refine ⟨_, rfl, ?_⟩; replace a6 := kO a9 #[.int .i64 ((rd_T111 l0 a2).f0), .int .i64 ((rd_T111 l0 a2).f1)] 111 hb; replace HB := hB hb; (try clear hb)))
     go_roundg k1
     case measure => have := b9.out; omega
     case rel => exact ⟨(wrap64 (a2 + 1)), fS, H', ⟨by have := b9.out; omega⟩, ⟨bS⟩⟩
    ·obtain rfl := Bool.eq_false_iff.mpr c6
     rw [if_neg nF] at H
     obtain rfl := Option.some.inj H
     have a7 : 0 ≤ (a2 : Int) := dA
     have a8 : a2 < (l0.length : Int) := dA
     obtain ⟨b1, b0, a3, a5⟩ := at_T111 b8.out a2 a7 a8
     cases b0
     replace a3 := cB HB a3
     replace a5 := cB HB a5
     replace a7 := eq_true a7
     replace a8 := eq_true a8
     go_wp2_with (first | ((with_reducible refine gD 4 ?_); refine bxE #[.int .i64 0, .int .i64 0] 111 ?_; intro a9 hg d3 a6 hb; have GE744 := gE hg; replace HB := hB hb; clear hb hg; have hz11 := cz2 a6) | ((with_reducible refine gC 127 ?_); refine cM (some 12) Tryz.func127 (impl_PointOk.calls ((rd_T111 l0 a2).f0) ((rd_T111 l0 a2).f1) _ _ A5.out) ?_; rintro e d4 ⟨rfl, hb⟩; refine ⟨_, rfl, ?_⟩; replace a6 := kO a9 #[.int .i64 ((rd_T111 l0 a2).f0), .int .i64 ((rd_T111 l0 a2).f1)] 111 hb; replace HB := hB hb; (try clear hb)))
     go_ret
     exact ⟨eS, bS⟩
   ·obtain rfl := Option.some.inj H
    go_wp2
    go_ret
    exact ⟨eS, bS⟩
def impl_GraphicsOk.f (k : Nat) (a5 : List Int) (a6 : Int) (a7 : Int) (a8 : Int) (a9 : Int) (a2 : List (S111)) (b0 : Int) (b1 : Int) (b2 : Int) (b6 : Int) (a3 : Int) : Option (Bool) := (impl_StackOk.f k a5).bind fun b7 => (if b7 = true then ((impl_TurnOk.f a6 a7 a8 a9).bind fun b8 => (if b8 = true then ((impl_BoxOk.f b1 b2 b6 a3).bind fun b9 => (if b9 = true then (if (a2.length : Int) ≤ 8 then ((impl_pointsOk.f k a2).bind fun d0 => (if d0 = true then ((impl_within.f b0 0 255).bind fun d1 => (some d1)) else (some false))) else (some false)) else (some false))) else (some false))) else (some false))
theorem impl_GraphicsOk.calls (k : Nat) (d1 : Option Addr) (d2 : Nat) (a7 : List Int) (a8 : Int) (a9 : Int) (b0 : Int) (b1 : Int) (d3 : Option Addr) (d4 : Nat) (a6 : List (S111)) (d0 : Int) (b2 : Int) (b6 : Int) (b7 : Int) (a5 : Int) (r : Bool) (w : World) (d5 : Kd.C (Kd.int .i64) w d1 a7.length a7) (d6 : a7.length ≤ d2) (e0 : Kd.C k111 w d3 a6.length a6) (e1 : a6.length ≤ d4) (h : impl_GraphicsOk.f k a7 a8 a9 b0 b1 a6 d0 b2 b6 b7 a5 = some r) :
  Calls Tryz.prog 81 #[.agg #[.slice d1 a7.length d2, .int .i64 a8, .int .i64 a9, .int .i64 b0, .int .i64 b1, .slice d3 a6.length d4, .int .i64 d0, .int .i64 b2, .int .i64 b6, .int .i64 b7, .int .i64 a5]] w fun e w' => e = .returned (.bool r) ∧ Below w.heap.size w w' := by
 have hu42 := Tryz.underlying42
 have hu38 := Tryz.underlying38
 have hu40 := Tryz.underlying40
 have b8 := aM d5
 have b9 := aM d6
 clear d5 d6
 have e2 := aM e0
 have e3 := aM e1
 clear e0 e1
 have HB := aM (Below.refl w.heap.size w)
 have H := h
 clear h
 unfold impl_GraphicsOk.f at H
 replace H := bN H
 obtain ⟨h7, A2, H⟩ := H
 by_cases c3 : h7 = true
 ·subst c3
  rw [if_pos rfl] at H
  replace H := bN H
  obtain ⟨h8, A4, H⟩ := H
  by_cases c5 : h8 = true
  ·subst c5
   rw [if_pos rfl] at H
   replace H := bN H
   obtain ⟨h9, A6, H⟩ := H
   by_cases c7 : h9 = true
   ·subst c7
    rw [if_pos rfl] at H
    by_cases c8 : (a6.length : Int) ≤ 8
    ·rw [if_pos c8] at H
     have i1 : decide ((a6.length : Int) ≤ 8) = true := decide_eq_true c8
     have i3 : decide (a6.length ≤ 8) = true := decide_eq_true (by omega)
     clear c8
     replace H := bN H
     obtain ⟨i4, A9, H⟩ := H
     by_cases c10 : i4 = true
     ·subst c10
      rw [if_pos rfl] at H
      replace H := bN H
      obtain ⟨i5, i6, H⟩ := H
      obtain rfl := Option.some.inj H
      go_enter Tryz.func81, Tryz.ntmps81
      go_wp2_with (first | ((with_reducible refine gD 1 ?_); refine bxE #[.slice d1 a7.length d2, .int .i64 a8, .int .i64 a9, .int .i64 b0, .int .i64 b1, .slice d3 a6.length d4, .int .i64 d0, .int .i64 b2, .int .i64 b6, .int .i64 b7, .int .i64 a5] 42 ?_; intro a3 hg i7 a2 hb; have GE746 := gE hg; replace HB := hB hb; clear hb hg; have hz13 := cz11 a2) | ((with_reducible refine gC 88 ?_); refine cM (some 5) Tryz.func88 (impl_StackOk.calls k _ _ a7 _ _ (cC b8 HB) b9.out A2.out) ?_; rintro e w' ⟨rfl, ⟨nd, rfl⟩⟩; refine ⟨_, rfl, ?_⟩) | (go_at_call 115; (with_reducible refine (impl_TurnOk.calls a8 a9 b0 b1 _ _ A4.out).mono ?_); rintro e i8 ⟨rfl, hb⟩; replace a2 := kB_ a3 hb; replace HB := hB hb; (try clear hb); have e8 := cg5 a2; have e9 := cg6 a2; have f0 := cg7 a2; have f3 := cg8 a2; have f4 := cg9 a2; have e4 := cg10 a2) | (go_at_call 116; (with_reducible refine (impl_BoxOk.calls b2 b6 b7 a5 _ _ A6.out).mono ?_); rintro e i9 ⟨rfl, hb⟩; replace a2 := kB_ a3 hb; replace HB := hB hb; (try clear hb); have f5 := cg5 a2; have f6 := cg6 a2) | (go_at_call 117; (with_reducible refine (impl_pointsOk.calls k _ _ a6 _ _ (cC e2 HB) e3.out A9.out).mono ?_); rintro e j4 ⟨rfl, hb⟩; replace a2 := kB_ a3 hb; replace HB := hB hb; (try clear hb); have f7 := cg6 a2) | (go_at_call 83; (with_reducible refine (impl_within.calls d0 0 255 i5 _ i6.out).mono ?_); rintro e w' ⟨rfl, ⟨nd, rfl⟩⟩))
      go_ret
      exact ⟨eS, bS⟩
     ·obtain rfl := Bool.eq_false_iff.mpr c10
      rw [if_neg nF] at H
      obtain rfl := Option.some.inj H
      go_enter Tryz.func81, Tryz.ntmps81
      go_wp2_with (first | ((with_reducible refine gD 1 ?_); refine bxE #[.slice d1 a7.length d2, .int .i64 a8, .int .i64 a9, .int .i64 b0, .int .i64 b1, .slice d3 a6.length d4, .int .i64 d0, .int .i64 b2, .int .i64 b6, .int .i64 b7, .int .i64 a5] 42 ?_; intro a3 hg j5 a2 hb; have GE746 := gE hg; replace HB := hB hb; clear hb hg; have hz21 := cz11 a2) | ((with_reducible refine gC 88 ?_); refine cM (some 5) Tryz.func88 (impl_StackOk.calls k _ _ a7 _ _ (cC b8 HB) b9.out A2.out) ?_; rintro e w' ⟨rfl, ⟨nd, rfl⟩⟩; refine ⟨_, rfl, ?_⟩) | (go_at_call 115; (with_reducible refine (impl_TurnOk.calls a8 a9 b0 b1 _ _ A4.out).mono ?_); rintro e j6 ⟨rfl, hb⟩; replace a2 := kB_ a3 hb; replace HB := hB hb; (try clear hb); have f8 := cg5 a2; have f9 := cg7 a2; have g0 := cg8 a2; have g1 := cg9 a2; have e5 := cg10 a2) | (go_at_call 116; (with_reducible refine (impl_BoxOk.calls b2 b6 b7 a5 _ _ A6.out).mono ?_); rintro e j7 ⟨rfl, hb⟩; replace a2 := kB_ a3 hb; replace HB := hB hb; (try clear hb); have g2 := cg5 a2) | (go_at_call 117; (with_reducible refine (impl_pointsOk.calls k _ _ a6 _ _ (cC e2 HB) e3.out A9.out).mono ?_); rintro e j8 ⟨rfl, hb⟩; replace a2 := kB_ a3 hb; replace HB := hB hb; (try clear hb)))
      go_ret
      exact ⟨eS, bS⟩
    ·rw [if_neg c8] at H
     have i1 : decide ((a6.length : Int) ≤ 8) = false := decide_eq_false c8
     have i3 : decide (a6.length ≤ 8) = false := decide_eq_false (by omega)
     clear c8
     obtain rfl := Option.some.inj H
     go_enter Tryz.func81, Tryz.ntmps81
     go_wp2_with (first | ((with_reducible refine gD 1 ?_); refine bxE #[.slice d1 a7.length d2, .int .i64 a8, .int .i64 a9, .int .i64 b0, .int .i64 b1, .slice d3 a6.length d4, .int .i64 d0, .int .i64 b2, .int .i64 b6, .int .i64 b7, .int .i64 a5] 42 ?_; intro a3 hg j9 a2 hb; have GE746 := gE hg; replace HB := hB hb; clear hb hg; have hz28 := cz11 a2) | ((with_reducible refine gC 88 ?_); refine cM (some 5) Tryz.func88 (impl_StackOk.calls k _ _ a7 _ _ (cC b8 HB) b9.out A2.out) ?_; rintro e w' ⟨rfl, ⟨nd, rfl⟩⟩; refine ⟨_, rfl, ?_⟩) | (go_at_call 115; (with_reducible refine (impl_TurnOk.calls a8 a9 b0 b1 _ _ A4.out).mono ?_); rintro e k0 ⟨rfl, hb⟩; replace a2 := kB_ a3 hb; replace HB := hB hb; (try clear hb); have g3 := cg5 a2; have g4 := cg7 a2; have g5 := cg8 a2; have g6 := cg9 a2; have e6 := cg10 a2) | (go_at_call 116; (with_reducible refine (impl_BoxOk.calls b2 b6 b7 a5 _ _ A6.out).mono ?_); rintro e k1 ⟨rfl, hb⟩; replace a2 := kB_ a3 hb; replace HB := hB hb; (try clear hb); have g7 := cg5 a2))
     go_ret
     exact ⟨eS, bS⟩
   ·obtain rfl := Bool.eq_false_iff.mpr c7
    rw [if_neg nF] at H
    obtain rfl := Option.some.inj H
    go_enter Tryz.func81, Tryz.ntmps81
    go_wp2_with (first | ((with_reducible refine gD 1 ?_); refine bxE #[.slice d1 a7.length d2, .int .i64 a8, .int .i64 a9, .int .i64 b0, .int .i64 b1, .slice d3 a6.length d4, .int .i64 d0, .int .i64 b2, .int .i64 b6, .int .i64 b7, .int .i64 a5] 42 ?_; intro a3 hg k2 a2 hb; have GE746 := gE hg; replace HB := hB hb; clear hb hg; have hz34 := cz11 a2) | ((with_reducible refine gC 88 ?_); refine cM (some 5) Tryz.func88 (impl_StackOk.calls k _ _ a7 _ _ (cC b8 HB) b9.out A2.out) ?_; rintro e w' ⟨rfl, ⟨nd, rfl⟩⟩; refine ⟨_, rfl, ?_⟩) | (go_at_call 115; (with_reducible refine (impl_TurnOk.calls a8 a9 b0 b1 _ _ A4.out).mono ?_); rintro e k3 ⟨rfl, hb⟩; replace a2 := kB_ a3 hb; replace HB := hB hb; (try clear hb); have g8 := cg7 a2; have g9 := cg8 a2; have h0 := cg9 a2; have e7 := cg10 a2) | (go_at_call 116; (with_reducible refine (impl_BoxOk.calls b2 b6 b7 a5 _ _ A6.out).mono ?_); rintro e k4 ⟨rfl, hb⟩; replace a2 := kB_ a3 hb; replace HB := hB hb; (try clear hb)))
    go_ret
    exact ⟨eS, bS⟩
  ·obtain rfl := Bool.eq_false_iff.mpr c5
   rw [if_neg nF] at H
   obtain rfl := Option.some.inj H
   go_enter Tryz.func81, Tryz.ntmps81
   go_wp2_with (first | ((with_reducible refine gD 1 ?_); refine bxE #[.slice d1 a7.length d2, .int .i64 a8, .int .i64 a9, .int .i64 b0, .int .i64 b1, .slice d3 a6.length d4, .int .i64 d0, .int .i64 b2, .int .i64 b6, .int .i64 b7, .int .i64 a5] 42 ?_; intro a3 hg k5 a2 hb; have GE746 := gE hg; replace HB := hB hb; clear hb hg; have h1 := cg0 a2; have h2 := cg1 a2; have h3 := cg2 a2; have h4 := cg3 a2; have h5 := cg4 a2) | ((with_reducible refine gC 88 ?_); refine cM (some 5) Tryz.func88 (impl_StackOk.calls k _ _ a7 _ _ (cC b8 HB) b9.out A2.out) ?_; rintro e w' ⟨rfl, ⟨nd, rfl⟩⟩; refine ⟨_, rfl, ?_⟩) | (go_at_call 115; (with_reducible refine (impl_TurnOk.calls a8 a9 b0 b1 _ _ A4.out).mono ?_); rintro e k6 ⟨rfl, hb⟩; replace a2 := kB_ a3 hb; replace HB := hB hb; (try clear hb)))
   go_ret
   exact ⟨eS, bS⟩
 ·obtain rfl := Bool.eq_false_iff.mpr c3
  rw [if_neg nF] at H
  obtain rfl := Option.some.inj H
  go_enter Tryz.func81, Tryz.ntmps81
  go_wp2_with (first | ((with_reducible refine gD 1 ?_); refine bxE #[.slice d1 a7.length d2, .int .i64 a8, .int .i64 a9, .int .i64 b0, .int .i64 b1, .slice d3 a6.length d4, .int .i64 d0, .int .i64 b2, .int .i64 b6, .int .i64 b7, .int .i64 a5] 42 ?_; intro a3 hg k7 a2 hb; have GE746 := gE hg; replace HB := hB hb; clear hb hg; have h6 := cg0 a2) | ((with_reducible refine gC 88 ?_); refine cM (some 5) Tryz.func88 (impl_StackOk.calls k _ _ a7 _ _ (cC b8 HB) b9.out A2.out) ?_; rintro e w' ⟨rfl, ⟨nd, rfl⟩⟩; refine ⟨_, rfl, ?_⟩))
  go_ret
  exact ⟨eS, bS⟩
def impl_ObjectOk.f (k : Nat) (a2 : List (S111)) (a3 : Int) (a5 : Int) (a6 : Int) (a7 : Int) (a8 : Int) : Option (Bool) := (impl_within.f (a2.length : Int) 3 8).bind fun a9 => (if a9 = true then ((impl_pointsOk.f k a2).bind fun b0 => (if b0 = true then ((impl_within.f a3 0 255).bind fun b1 => (if b1 = true then ((impl_BoxOk.f a5 a6 a7 a8).bind fun b2 => (some b2)) else (some false))) else (some false))) else (some false))
theorem impl_ObjectOk.calls (k : Nat) (b1 : Option Addr) (b2 : Nat) (a3 : List (S111)) (a6 : Int) (a7 : Int) (a8 : Int) (a9 : Int) (b0 : Int) (r : Bool) (w : World) (b8 : Kd.C k111 w b1 a3.length a3) (b9 : a3.length ≤ b2) (h : impl_ObjectOk.f k a3 a6 a7 a8 a9 b0 = some r) :
  Calls Tryz.prog 82 #[.agg #[.slice b1 a3.length b2, .int .i64 a6, .int .i64 a7, .int .i64 a8, .int .i64 a9, .int .i64 b0]] w fun e w' => e = .returned (.bool r) ∧ Below w.heap.size w w' := by
 have hu103 := Tryz.underlying103
 have hu40 := Tryz.underlying40
 have b6 := aM b8
 have b7 := aM b9
 clear b8 b9
 have HB := aM (Below.refl w.heap.size w)
 have H := h
 clear h
 unfold impl_ObjectOk.f at H
 replace H := bN H
 obtain ⟨e9, A2, H⟩ := H
 by_cases c3 : e9 = true
 ·subst c3
  rw [if_pos rfl] at H
  replace H := bN H
  obtain ⟨f0, A4, H⟩ := H
  by_cases c5 : f0 = true
  ·subst c5
   rw [if_pos rfl] at H
   replace H := bN H
   obtain ⟨f3, A6, H⟩ := H
   by_cases c7 : f3 = true
   ·subst c7
    rw [if_pos rfl] at H
    replace H := bN H
    obtain ⟨f4, A8, H⟩ := H
    obtain rfl := Option.some.inj H
    go_enter Tryz.func82, Tryz.ntmps82
    go_wp2_with (first | ((with_reducible refine gD 1 ?_); refine bxE #[.slice b1 a3.length b2, .int .i64 a6, .int .i64 a7, .int .i64 a8, .int .i64 a9, .int .i64 b0] 103 ?_; intro a5 hg w9 a2 hb; have GE752 := gE hg; replace HB := hB hb; clear hb hg; have d0 := cg0 a2; have d1 := cg1 a2; have d2 := cg2 a2; have d3 := cg3 a2; have d4 := cg4 a2; have d5 := cg5 a2) | ((with_reducible refine gC 83 ?_); refine cM (some 6) Tryz.func83 (impl_within.calls (a3.length : Int) 3 8 _ _ A2.out) ?_; rintro e w' ⟨rfl, ⟨nd, rfl⟩⟩; refine ⟨_, rfl, ?_⟩) | (go_at_call 117; (with_reducible refine (impl_pointsOk.calls k _ _ a3 _ _ (cS (Kd.C_below b6.out bS)) b7.out A4.out).mono ?_); rintro e f5 ⟨rfl, hb⟩; replace a2 := kB_ a5 hb; replace HB := hB hb; (try clear hb); have d6 := cg1 a2; have e0 := cg2 a2; have e1 := cg3 a2; have e2 := cg4 a2; have e3 := cg5 a2) | (go_at_call 83; (with_reducible refine (impl_within.calls a6 0 255 _ _ A6.out).mono ?_); rintro e w' ⟨rfl, ⟨nd, rfl⟩⟩) | (go_at_call 116; (with_reducible refine (impl_BoxOk.calls a7 a8 a9 b0 f4 _ A8.out).mono ?_); rintro e f6 ⟨rfl, hb⟩; replace a2 := kB_ a5 hb; replace HB := hB hb; (try clear hb)))
    go_ret
    exact ⟨eS, bS⟩
   ·obtain rfl := Bool.eq_false_iff.mpr c7
    rw [if_neg nF] at H
    obtain rfl := Option.some.inj H
    go_enter Tryz.func82, Tryz.ntmps82
    go_wp2_with (first | ((with_reducible refine gD 1 ?_); refine bxE #[.slice b1 a3.length b2, .int .i64 a6, .int .i64 a7, .int .i64 a8, .int .i64 a9, .int .i64 b0] 103 ?_; intro a5 hg f7 a2 hb; have GE752 := gE hg; replace HB := hB hb; clear hb hg; have e4 := cg0 a2; have e5 := cg1 a2) | ((with_reducible refine gC 83 ?_); refine cM (some 6) Tryz.func83 (impl_within.calls (a3.length : Int) 3 8 _ _ A2.out) ?_; rintro e w' ⟨rfl, ⟨nd, rfl⟩⟩; refine ⟨_, rfl, ?_⟩) | (go_at_call 117; (with_reducible refine (impl_pointsOk.calls k _ _ a3 _ _ (cS (Kd.C_below b6.out bS)) b7.out A4.out).mono ?_); rintro e f8 ⟨rfl, hb⟩; replace a2 := kB_ a5 hb; replace HB := hB hb; (try clear hb); have e6 := cg1 a2) | (go_at_call 83; (with_reducible refine (impl_within.calls a6 0 255 _ _ A6.out).mono ?_); rintro e w' ⟨rfl, ⟨nd, rfl⟩⟩))
    go_ret
    exact ⟨eS, bS⟩
  ·obtain rfl := Bool.eq_false_iff.mpr c5
   rw [if_neg nF] at H
   obtain rfl := Option.some.inj H
   go_enter Tryz.func82, Tryz.ntmps82
   go_wp2_with (first | ((with_reducible refine gD 1 ?_); refine bxE #[.slice b1 a3.length b2, .int .i64 a6, .int .i64 a7, .int .i64 a8, .int .i64 a9, .int .i64 b0] 103 ?_; intro a5 hg f9 a2 hb; have GE752 := gE hg; replace HB := hB hb; clear hb hg; have e7 := cg0 a2) | ((with_reducible refine gC 83 ?_); refine cM (some 6) Tryz.func83 (impl_within.calls (a3.length : Int) 3 8 _ _ A2.out) ?_; rintro e w' ⟨rfl, ⟨nd, rfl⟩⟩; refine ⟨_, rfl, ?_⟩) | (go_at_call 117; (with_reducible refine (impl_pointsOk.calls k _ _ a3 _ _ (cS (Kd.C_below b6.out bS)) b7.out A4.out).mono ?_); rintro e g0 ⟨rfl, hb⟩; replace a2 := kB_ a5 hb; replace HB := hB hb; (try clear hb)))
   go_ret
   exact ⟨eS, bS⟩
 ·obtain rfl := Bool.eq_false_iff.mpr c3
  rw [if_neg nF] at H
  obtain rfl := Option.some.inj H
  go_enter Tryz.func82, Tryz.ntmps82
  go_wp2_with (first | ((with_reducible refine gD 1 ?_); refine bxE #[.slice b1 a3.length b2, .int .i64 a6, .int .i64 a7, .int .i64 a8, .int .i64 a9, .int .i64 b0] 103 ?_; intro a5 hg g1 a2 hb; have GE752 := gE hg; replace HB := hB hb; clear hb hg; have e8 := cg0 a2) | ((with_reducible refine gC 83 ?_); refine cM (some 6) Tryz.func83 (impl_within.calls (a3.length : Int) 3 8 _ _ A2.out) ?_; rintro e w' ⟨rfl, ⟨nd, rfl⟩⟩; refine ⟨_, rfl, ?_⟩))
  go_ret
  exact ⟨eS, bS⟩
end Go.Proofs.YtjkgponlahfnjaaGreat.QFnExactRunPage
