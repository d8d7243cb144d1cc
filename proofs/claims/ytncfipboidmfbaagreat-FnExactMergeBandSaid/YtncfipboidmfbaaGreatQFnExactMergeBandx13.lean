-- Made out of the translation by a program of this session (a changed copy of the print). Not trusted: Lean checks it.
import Derived.Test.YtncfipboidmfbaaGreatQFnExactMergeBandx0
import Derived.Test.YtncfipboidmfbaaGreatQFnExactMergeBandx12
namespace Go.Proofs.YtncfipboidmfbaaGreat.QFnExactMergeBand
open Go.RowKit Go.Proofs.YtncfipboidmfbaaGreatW.PrintWords Go.Proofs.YtncfipboidmfbaaGreatW.PrintLast Go.Proofs.YtncfipboidmfbaaGreatW.PrintMore
attribute [local go_sem] max2_int min2_int max_two min_two max_three min_three max_four min_four   -- for this text's walks alone
set_option linter.unusedVariables false
set_option linter.unusedSimpArgs false
set_option maxHeartbeats 8000000
set_option maxRecDepth 100000

/-! ### impl_NewBand: function 110 -/
def impl_NewBand.f (k : Nat) (a0 : Int) (a1 : Int) : Option (Int × Int × (List (List Int)) × (List (S49)) × Bool) := (impl_IsHeight.f a0).bind fun t407 => (if t407 = true then ((impl_CountBands.f a0).bind fun t408 => ((impl_within.f a1 0 (wrap64 (t408 - 1))).bind fun t409 => (if t409 = true then ((impl_WhiteRows.f k a0).bind fun t410 => (some (a0, a1, t410, ([] : List (S49)), true))) else (some (0, 0, ([] : List (List Int)), ([] : List (S49)), false))))) else (some (0, 0, ([] : List (List Int)), ([] : List (S49)), false)))
theorem impl_NewBand.calls (k : Nat) (a0 : Int) (a1 : Int) (r1 : Int) (r2 : Int) (r3 : List (List Int)) (r4 : List (S49)) (r5 : Bool) (w : World) (h : impl_NewBand.f k a0 a1 = some (r1, r2, r3, r4, r5)) :
  Calls Tryz.prog 110 #[.int .i64 a0, .int .i64 a1] w fun e w' => ∃ v2_ v3_ : Value, e = .returned (.tuple #[.agg #[.int .i64 r1, .int .i64 r2, v2_, v3_], .bool r5]) ∧ Kd.S (Kd.slice 3 (Kd.int .i64)) 54 w' w.heap.size (fun _ => True) v2_ r3 ∧ Kd.S k49 49 w' w.heap.size (fun _ => True) v3_ r4 ∧ Below w.heap.size w w' := by
 have hu30 := Tryz.underlying30
 have HB := Aside0.mk (Below.refl w.heap.size w)
 have H : ((impl_IsHeight.f a0).bind fun t407 => (if t407 = true then ((impl_CountBands.f a0).bind fun t408 => ((impl_within.f a1 0 (wrap64 (t408 - 1))).bind fun t409 => (if t409 = true then ((impl_WhiteRows.f k a0).bind fun t410 => (some (a0, a1, t410, ([] : List (S49)), true))) else (some (0, 0, ([] : List (List Int)), ([] : List (S49)), false))))) else (some (0, 0, ([] : List (List Int)), ([] : List (S49)), false)))) = some (r1, r2, r3, r4, r5) := h
 clear h
 replace H := bN H
 obtain ⟨t407, A3, H⟩ := H
 by_cases c4 : t407 = true
 ·subst c4
  rw [if_pos rfl] at H
  replace H := bN H
  obtain ⟨t408, A5, H⟩ := H
  replace H := bN H
  obtain ⟨t409, A6, H⟩ := H
  by_cases c7 : t409 = true
  ·subst c7
   rw [if_pos rfl] at H
   replace H := bN H
   obtain ⟨t410, A8, H⟩ := H
   obtain ⟨rfl, rfl, rfl, rfl, rfl⟩ := sI5 H
   go_enter Tryz.func110, Tryz.ntmps110
   go_wp2_with (first | ((with_reducible refine gD 4 ?_); refine bxE #[.int .i64 0, .int .i64 0, .slice none 0 0, .slice none 0 0] 30 ?_; intro gb406 hg w9 BK406 hb; have GW406 := gE hg; have GE406 := gE hg; replace HB := hB hb; clear hb hg) | ((with_reducible refine gC 127 ?_); refine cL (some 7) Tryz.func127 #[.int .i64 a0] ?_; (with_reducible refine (impl_IsHeight.calls a0 _ _ A3.out).mono ?_); rintro e w' ⟨rfl, ⟨nd, rfl⟩⟩; refine ⟨_, rfl, ?_⟩; (try (rw [drewN_self w9]; generalize hq_ : World.drewN w9 _ = w9; replace BK406 : Aside0 (w9.heap[gb406]? = some (.cells #[.int .i64 0, .int .i64 0, .slice none 0 0, .slice none 0 0] 30 (0, 0))) := ⟨by rw [← hq_]; exact kS⟩; replace HB : Aside0 (Below w.heap.size w w9) := ⟨by rw [← hq_]; exact bS⟩; clear hq_))) | (go_at_call 128; (with_reducible refine (impl_CountBands.calls a0 t408 _ A5.out).mono ?_); rintro e w' ⟨rfl, ⟨nd, rfl⟩⟩; (try (rw [drewN_self w9]; generalize hq_ : World.drewN w9 _ = w9; replace BK406 : Aside0 (w9.heap[gb406]? = some (.cells #[.int .i64 0, .int .i64 0, .slice none 0 0, .slice none 0 0] 30 (0, 0))) := ⟨by rw [← hq_]; exact kS⟩; replace HB : Aside0 (Below w.heap.size w w9) := ⟨by rw [← hq_]; exact bS⟩; clear hq_))) | (go_at_call 124; (with_reducible refine (impl_within.calls a1 0 (wrap64 (t408 - 1)) _ _ A6.out).mono ?_); rintro e w' ⟨rfl, ⟨nd, rfl⟩⟩; (try (rw [drewN_self w9]; generalize hq_ : World.drewN w9 _ = w9; replace BK406 : Aside0 (w9.heap[gb406]? = some (.cells #[.int .i64 0, .int .i64 0, .slice none 0 0, .slice none 0 0] 30 (0, 0))) := ⟨by rw [← hq_]; exact kS⟩; replace HB : Aside0 (Below w.heap.size w w9) := ⟨by rw [← hq_]; exact bS⟩; clear hq_))) | ((with_reducible refine gC 164 ?_); refine cL (some 21) Tryz.func164 #[.int .i64 a0] ?_; (with_reducible refine (impl_WhiteRows.calls k a0 t410 _ A8.out).mono ?_); rintro e w10 ⟨v411, rfl, ho0, hb⟩; refine ⟨_, rfl, ?_⟩; have HO412 := Aside0.mk (Kd.S_lower ho0 (below_size bS)); replace BK406 := kB (g := gb406) hb; replace HB := hB hb; (try clear hb); (try clear hb2); (try clear hk); (try clear hi); (try clear ho0); obtain ⟨Ao11, co11, eo11⟩ := Kd.S_slice HO412.out; subst eo11; have hz12 := cz4 BK406))
   refine bodyPost_ret (results_ct rfl _ _ gb406 30 #[.int .i64 a0, .int .i64 a1, .slice Ao11 t410.length co11, .slice none 0 0] (0, 0) _ rfl kS Tryz.underlying30 rfl (by kernel_rfl)) rfl ?_
   exact ⟨_, _, eS, by exact sT (Kd.S_mono (Kd.S_far (p := ⟨gb406, 3, none⟩) (Kd.S_far (p := ⟨gb406, 2, none⟩) (Kd.S_far (p := ⟨gb406, 1, none⟩) (Kd.S_far (p := ⟨gb406, 0, none⟩) (Kd.S_types HO412.out BK406.out (by decide)) (fun _ hk => hk.2) (.int .i64 a0)) (fun _ hk => hk.2) (.int .i64 a1)) (fun _ hk => hk.2) (.slice Ao11 t410.length co11)) (fun _ hk => hk.2) (.slice none 0 0)) (fun _ hk => trivial)), by first | exact Kd.S_nil _ _ _ _ _ | exact Kd.N_nil _ _ _ _ _ | exact Kd.V_nil _ _ _ _ _ | exact Kd.Q_nil _ _ _ _ _ | exact Kd.R_nil _ _ _ _ _, bS⟩
  ·obtain rfl := Bool.eq_false_iff.mpr c7
   rw [if_neg nF] at H
   obtain ⟨rfl, rfl, rfl, rfl, rfl⟩ := sI5 H
   go_enter Tryz.func110, Tryz.ntmps110
   go_wp2_with (first | ((with_reducible refine gD 4 ?_); refine bxE #[.int .i64 0, .int .i64 0, .slice none 0 0, .slice none 0 0] 30 ?_; intro gb406 hg w13 BK406 hb; have GW406 := gE hg; have GE406 := gE hg; replace HB := hB hb; clear hb hg) | ((with_reducible refine gC 127 ?_); refine cL (some 7) Tryz.func127 #[.int .i64 a0] ?_; (with_reducible refine (impl_IsHeight.calls a0 _ _ A3.out).mono ?_); rintro e w' ⟨rfl, ⟨nd, rfl⟩⟩; refine ⟨_, rfl, ?_⟩; (try (rw [drewN_self w13]; generalize hq_ : World.drewN w13 _ = w13; replace BK406 : Aside0 (w13.heap[gb406]? = some (.cells #[.int .i64 0, .int .i64 0, .slice none 0 0, .slice none 0 0] 30 (0, 0))) := ⟨by rw [← hq_]; exact kS⟩; replace HB : Aside0 (Below w.heap.size w w13) := ⟨by rw [← hq_]; exact bS⟩; clear hq_))) | (go_at_call 128; (with_reducible refine (impl_CountBands.calls a0 t408 _ A5.out).mono ?_); rintro e w' ⟨rfl, ⟨nd, rfl⟩⟩; (try (rw [drewN_self w13]; generalize hq_ : World.drewN w13 _ = w13; replace BK406 : Aside0 (w13.heap[gb406]? = some (.cells #[.int .i64 0, .int .i64 0, .slice none 0 0, .slice none 0 0] 30 (0, 0))) := ⟨by rw [← hq_]; exact kS⟩; replace HB : Aside0 (Below w.heap.size w w13) := ⟨by rw [← hq_]; exact bS⟩; clear hq_))) | (go_at_call 124; (with_reducible refine (impl_within.calls a1 0 (wrap64 (t408 - 1)) _ _ A6.out).mono ?_); rintro e w' ⟨rfl, ⟨nd, rfl⟩⟩; (try (rw [drewN_self w13]; generalize hq_ : World.drewN w13 _ = w13; replace BK406 : Aside0 (w13.heap[gb406]? = some (.cells #[.int .i64 0, .int .i64 0, .slice none 0 0, .slice none 0 0] 30 (0, 0))) := ⟨by rw [← hq_]; exact kS⟩; replace HB : Aside0 (Below w.heap.size w w13) := ⟨by rw [← hq_]; exact bS⟩; clear hq_)); have hz14 := cz4 BK406))
   refine bodyPost_ret (results_ct rfl _ _ gb406 30 #[.int .i64 0, .int .i64 0, .slice none 0 0, .slice none 0 0] (0, 0) _ rfl kS Tryz.underlying30 rfl (by kernel_rfl)) rfl ?_
   exact ⟨_, _, eS, by first | exact Kd.S_nil _ _ _ _ _ | exact Kd.N_nil _ _ _ _ _ | exact Kd.V_nil _ _ _ _ _ | exact Kd.Q_nil _ _ _ _ _ | exact Kd.R_nil _ _ _ _ _, by first | exact Kd.S_nil _ _ _ _ _ | exact Kd.N_nil _ _ _ _ _ | exact Kd.V_nil _ _ _ _ _ | exact Kd.Q_nil _ _ _ _ _ | exact Kd.R_nil _ _ _ _ _, bS⟩
 ·obtain rfl := Bool.eq_false_iff.mpr c4
  rw [if_neg nF] at H
  obtain ⟨rfl, rfl, rfl, rfl, rfl⟩ := sI5 H
  go_enter Tryz.func110, Tryz.ntmps110
  go_wp2_with (first | ((with_reducible refine gD 4 ?_); refine bxE #[.int .i64 0, .int .i64 0, .slice none 0 0, .slice none 0 0] 30 ?_; intro gb406 hg w15 BK406 hb; have GW406 := gE hg; have GE406 := gE hg; replace HB := hB hb; clear hb hg) | ((with_reducible refine gC 127 ?_); refine cL (some 7) Tryz.func127 #[.int .i64 a0] ?_; (with_reducible refine (impl_IsHeight.calls a0 _ _ A3.out).mono ?_); rintro e w' ⟨rfl, ⟨nd, rfl⟩⟩; refine ⟨_, rfl, ?_⟩; (try (rw [drewN_self w15]; generalize hq_ : World.drewN w15 _ = w15; replace BK406 : Aside0 (w15.heap[gb406]? = some (.cells #[.int .i64 0, .int .i64 0, .slice none 0 0, .slice none 0 0] 30 (0, 0))) := ⟨by rw [← hq_]; exact kS⟩; replace HB : Aside0 (Below w.heap.size w w15) := ⟨by rw [← hq_]; exact bS⟩; clear hq_)); have hz16 := cz4 BK406))
  refine bodyPost_ret (results_ct rfl _ _ gb406 30 #[.int .i64 0, .int .i64 0, .slice none 0 0, .slice none 0 0] (0, 0) _ rfl kS Tryz.underlying30 rfl (by kernel_rfl)) rfl ?_
  exact ⟨_, _, eS, by first | exact Kd.S_nil _ _ _ _ _ | exact Kd.N_nil _ _ _ _ _ | exact Kd.V_nil _ _ _ _ _ | exact Kd.Q_nil _ _ _ _ _ | exact Kd.R_nil _ _ _ _ _, by first | exact Kd.S_nil _ _ _ _ _ | exact Kd.N_nil _ _ _ _ _ | exact Kd.V_nil _ _ _ _ _ | exact Kd.Q_nil _ _ _ _ _ | exact Kd.R_nil _ _ _ _ _, bS⟩

/-! ### impl_rowOk: function 165 -/
def impl_rowOk.l0 : Nat → List Int → Int → Int → Option (Bool)
 | 0, _, _, _ => none
 | k + 1, x8, x9, x10 => if x10 < x9 then (if 0 ≤ x10 then (if x10 < (x8.length : Int) then ((impl_within.f (rd x8 x10) 0 255).bind fun t414 => (if t414 = true then (impl_rowOk.l0 k x8 x9 (wrap64 (x10 + 1))) else (some false))) else (none)) else (none)) else (some true)
def impl_rowOk.f (k : Nat) (l0 : List Int) : Option (Bool) := if (l0.length : Int) = 32 then (impl_rowOk.l0 k l0 (l0.length : Int) 0) else (some false)
theorem impl_rowOk.calls (k : Nat) (A0 : Option Addr) (c0 : Nat) (l0 : List Int) (r : Bool) (w : World) (hr0 : Kd.C (Kd.int .i64) w A0 l0.length l0) (hc0 : l0.length ≤ c0) (h : impl_rowOk.f k l0 = some r) :
  Calls Tryz.prog 165 #[.slice A0 l0.length c0] w fun e w' => e = .returned (.bool r) ∧ Drawn0 w w' := by
 have HR0 := Aside0.mk hr0
 have HC0 := Aside0.mk hc0
 clear hr0 hc0
 have H : (if (l0.length : Int) = 32 then (impl_rowOk.l0 k l0 (l0.length : Int) 0) else (some false)) = some r := h
 clear h
 by_cases c2 : (l0.length : Int) = 32
 ·rw [if_pos c2] at H
  have c2b0 : ((l0.length : Int) == 32) = true := beq_iff_eq.mpr c2
  have c2b1 : ((l0.length : Int) != 32) = false := bne_eq_false_iff_eq.mpr c2
  clear c2
  have H' := Aside0.mk H
  clear H
  go_enter Tryz.func165, Tryz.ntmps165
  go_wp2
  go_loopg [10] k (fun kq v10 w' => ∃ (x10_1 : Int), v10 = .int .i64 x10_1 ∧ Aside0 (impl_rowOk.l0 kq l0 (l0.length : Int) x10_1 = some r) ∧ Aside0 (kq ≤ k) ∧ Drawn0 w w')
  case atStart => exact ⟨(0), fS, H', ⟨Nat.le_refl _⟩, dS⟩
  case round =>
   clear H'
   try clear c1
   try clear c2
   try clear c2b0
   try clear c2b1
   try clear p2
   obtain ⟨x10_1, rfl, HA, HK1, ⟨m1, rfl⟩⟩ := hrel
   cases gk with
   | zero => exact absurd HA.out (by simp [impl_rowOk.l0])
   | succ k1 =>
    have H := HA.out
    clear HA
    simp only [impl_rowOk.l0] at H
    rcases iD H with ⟨c3b0, H⟩ | ⟨c3b0, H⟩
    ·obtain ⟨c4b0, H⟩ := iT H
     obtain ⟨c5b0, H⟩ := iT H
     replace H := bN H
     obtain ⟨t414, A6, H⟩ := H
     by_cases c7 : t414 = true
     ·subst c7
      rw [if_pos rfl] at H
      have H' := Aside0.mk H
      clear H
      have p413 : 0 ≤ (x10_1 : Int) := dA
      have q413 : x10_1 < (l0.length : Int) := dA
      obtain ⟨ad413, e413, hx413_0⟩ := Kd.at_int HR0.out x10_1 p413 q413
      cases e413
      replace p413 := eq_true p413
      replace q413 := eq_true q413
      go_wp2_with (first | ((with_reducible refine gC 124 ?_); refine cL (some 15) Tryz.func124 #[.int .i64 (rd l0 x10_1), .int .i64 0, .int .i64 255] ?_; (with_reducible refine (impl_within.calls (rd l0 x10_1) 0 255 _ _ A6.out).mono ?_); rintro e w' ⟨rfl, ⟨nd, rfl⟩⟩; refine ⟨_, rfl, ?_⟩))
      go_roundg k1
      case measure => have := HK1.out; omega
      case rel => exact ⟨(wrap64 (x10_1 + 1)), fS, H', ⟨by have := HK1.out; omega⟩, dS⟩
     ·obtain rfl := Bool.eq_false_iff.mpr c7
      rw [if_neg nF] at H
      obtain rfl := Option.some.inj H
      have p413 : 0 ≤ (x10_1 : Int) := dA
      have q413 : x10_1 < (l0.length : Int) := dA
      obtain ⟨ad413, e413, hx413_0⟩ := Kd.at_int HR0.out x10_1 p413 q413
      cases e413
      replace p413 := eq_true p413
      replace q413 := eq_true q413
      go_wp2_with (first | ((with_reducible refine gC 124 ?_); refine cL (some 15) Tryz.func124 #[.int .i64 (rd l0 x10_1), .int .i64 0, .int .i64 255] ?_; (with_reducible refine (impl_within.calls (rd l0 x10_1) 0 255 _ _ A6.out).mono ?_); rintro e w' ⟨rfl, ⟨nd, rfl⟩⟩; refine ⟨_, rfl, ?_⟩))
      go_ret
      exact ⟨fS, dS⟩
    ·obtain rfl := Option.some.inj H
     go_wp2
     go_ret
     exact ⟨fS, dS⟩
 ·rw [if_neg c2] at H
  have c2b0 : ((l0.length : Int) == 32) = false := beq_eq_false_iff_ne.mpr c2
  have c2b1 : ((l0.length : Int) != 32) = true := bne_iff_ne.mpr c2
  obtain rfl := Option.some.inj H
  go_enter Tryz.func165, Tryz.ntmps165
  go_wp2
  go_ret
  exact ⟨fS, dS⟩

/-! ### impl_RowsOk: function 111 -/
def impl_RowsOk.l0 : Nat → List (List Int) → Int → Int → Option (Bool)
 | 0, _, _, _ => none
 | k + 1, x8, x9, x10 => if x10 < x9 then (if 0 ≤ x10 then (if x10 < (x8.length : Int) then ((impl_rowOk.f k (rd_L1 x8 x10)).bind fun t416 => (if t416 = true then (impl_RowsOk.l0 k x8 x9 (wrap64 (x10 + 1))) else (some false))) else (none)) else (none)) else (some true)
def impl_RowsOk.f (k : Nat) (l0 : List (List Int)) : Option (Bool) := if (l0.length : Int) > 32 then (some false) else (impl_RowsOk.l0 k l0 (l0.length : Int) 0)
theorem impl_RowsOk.calls (k : Nat) (A0 : Option Addr) (c0 : Nat) (l0 : List (List Int)) (r : Bool) (w : World) (hr0 : Kd.C (Kd.slice 3 (Kd.int .i64)) w A0 l0.length l0) (hc0 : l0.length ≤ c0) (h : impl_RowsOk.f k l0 = some r) :
  Calls Tryz.prog 111 #[.slice A0 l0.length c0] w fun e w' => e = .returned (.bool r) ∧ Drawn0 w w' := by
 have HR0 := Aside0.mk hr0
 have HC0 := Aside0.mk hc0
 clear hr0 hc0
 have H : (if (l0.length : Int) > 32 then (some false) else (impl_RowsOk.l0 k l0 (l0.length : Int) 0)) = some r := h
 clear h
 by_cases c2 : (l0.length : Int) > 32
 ·rw [if_pos c2] at H
  have c2b0 : decide (32 < (l0.length : Int)) = true := decide_eq_true c2
  have c2b1 : decide (32 < l0.length) = true := decide_eq_true (by omega)
  clear c2
  obtain rfl := Option.some.inj H
  go_enter Tryz.func111, Tryz.ntmps111
  go_wp2
  go_ret
  exact ⟨fS, dS⟩
 ·rw [if_neg c2] at H
  have c2b0 : decide (32 < (l0.length : Int)) = false := decide_eq_false c2
  have c2b1 : decide (32 < l0.length) = false := decide_eq_false (by omega)
  clear c2
  have H' := Aside0.mk H
  clear H
  go_enter Tryz.func111, Tryz.ntmps111
  go_wp2
  go_loopg [10] k (fun kq v10 w' => ∃ (x10_1 : Int), v10 = .int .i64 x10_1 ∧ Aside0 (impl_RowsOk.l0 kq l0 (l0.length : Int) x10_1 = some r) ∧ Aside0 (kq ≤ k) ∧ Drawn0 w w')
  case atStart => exact ⟨(0), fS, H', ⟨Nat.le_refl _⟩, dS⟩
  case round =>
   clear H'
   try clear c1
   try clear c2
   try clear c2b0
   try clear c2b1
   try clear p2
   obtain ⟨x10_1, rfl, HA, HK1, ⟨m1, rfl⟩⟩ := hrel
   cases gk with
   | zero => exact absurd HA.out (by simp [impl_RowsOk.l0])
   | succ k1 =>
    have H := HA.out
    clear HA
    simp only [impl_RowsOk.l0] at H
    rcases iD H with ⟨c3b0, H⟩ | ⟨c3b0, H⟩
    ·obtain ⟨c4b0, H⟩ := iT H
     obtain ⟨c5b0, H⟩ := iT H
     replace H := bN H
     obtain ⟨t416, A6, H⟩ := H
     by_cases c7 : t416 = true
     ·subst c7
      rw [if_pos rfl] at H
      have H' := Aside0.mk H
      clear H
      have p415 : 0 ≤ (x10_1 : Int) := dA
      have q415 : x10_1 < (l0.length : Int) := dA
      obtain ⟨ad415, A415_0, c415_0, e415, hx415_0, hl415_0, hi415_0⟩ := at_L1 HR0.out x10_1 p415 q415
      cases e415
      have HR415_0 := Aside0.mk hi415_0
      have HC415_0 := Aside0.mk hl415_0
      clear hi415_0 hl415_0
      replace p415 := eq_true p415
      replace q415 := eq_true q415
      go_wp2_with (first | ((with_reducible refine gC 165 ?_); refine cL (some 15) Tryz.func165 #[.slice A415_0 (rd_L1 l0 x10_1).length c415_0] ?_; (with_reducible refine (impl_rowOk.calls k1 _ _ (rd_L1 l0 x10_1) _ _ ?side1 ?side2 A6.out).mono ?_); (case side1 => repeat (first | exact HR415_0.out | (with_reducible refine Kd.C_alloc ?_ _) | (with_reducible refine Kd.C_drewN ?_ _) | (with_reducible refine Kd.C_drew ?_))); (case side2 => exact HC415_0.out); rintro e w' ⟨rfl, ⟨nd, rfl⟩⟩; refine ⟨_, rfl, ?_⟩))
      go_roundg k1
      case measure => have := HK1.out; omega
      case rel => exact ⟨(wrap64 (x10_1 + 1)), fS, H', ⟨by have := HK1.out; omega⟩, dS⟩
     ·obtain rfl := Bool.eq_false_iff.mpr c7
      rw [if_neg nF] at H
      obtain rfl := Option.some.inj H
      have p415 : 0 ≤ (x10_1 : Int) := dA
      have q415 : x10_1 < (l0.length : Int) := dA
      obtain ⟨ad415, A415_0, c415_0, e415, hx415_0, hl415_0, hi415_0⟩ := at_L1 HR0.out x10_1 p415 q415
      cases e415
      have HR415_0 := Aside0.mk hi415_0
      have HC415_0 := Aside0.mk hl415_0
      clear hi415_0 hl415_0
      replace p415 := eq_true p415
      replace q415 := eq_true q415
      go_wp2_with (first | ((with_reducible refine gC 165 ?_); refine cL (some 15) Tryz.func165 #[.slice A415_0 (rd_L1 l0 x10_1).length c415_0] ?_; (with_reducible refine (impl_rowOk.calls k1 _ _ (rd_L1 l0 x10_1) _ _ ?side1 ?side2 A6.out).mono ?_); (case side1 => repeat (first | exact HR415_0.out | (with_reducible refine Kd.C_alloc ?_ _) | (with_reducible refine Kd.C_drewN ?_ _) | (with_reducible refine Kd.C_drew ?_))); (case side2 => exact HC415_0.out); rintro e w' ⟨rfl, ⟨nd, rfl⟩⟩; refine ⟨_, rfl, ?_⟩))
      go_ret
      exact ⟨fS, dS⟩
    ·obtain rfl := Option.some.inj H
     go_wp2
     go_ret
     exact ⟨fS, dS⟩

/-! ### impl_coordOk: function 173 -/
def impl_coordOk.f (a0 : Int) : Option (Bool) := (impl_within.f a0 (-200) 200).bind fun t417 => (some t417)
theorem impl_coordOk.calls (a0 : Int) (r : Bool) (w : World) (h : impl_coordOk.f a0 = some r) :
  Calls Tryz.prog 173 #[.int .i64 a0] w fun e w' => e = .returned (.bool r) ∧ Drawn0 w w' := by
 have H : ((impl_within.f a0 (-200) 200).bind fun t417 => (some t417)) = some r := h
 clear h
 replace H := bN H
 obtain ⟨t417, A2, H⟩ := H
 obtain rfl := Option.some.inj H
 go_enter Tryz.func173, Tryz.ntmps173
 go_wp2_with (first | ((with_reducible refine gC 124 ?_); refine cL (some 4) Tryz.func124 #[.int .i64 a0, .int .i64 (-200), .int .i64 200] ?_; (with_reducible refine (impl_within.calls a0 (-200) 200 t417 _ A2.out).mono ?_); rintro e w' ⟨rfl, ⟨nd, rfl⟩⟩; refine ⟨_, rfl, ?_⟩))
 go_ret
 exact ⟨fS, dS⟩

/-! ### impl_PointOk: function 172 -/
def impl_PointOk.f (a0_0 : Int) (a0_1 : Int) : Option (Bool) := (impl_coordOk.f a0_0).bind fun t419 => (if t419 = true then ((impl_coordOk.f a0_1).bind fun t420 => (some t420)) else (some false))
theorem impl_PointOk.lf0 {p : Prop} (h : p := by
 go_enter Tryz.func172, Tryz.ntmps172
 go_wp2_with (first | ((with_reducible refine gD 1 ?_); refine bxE #[.int .i64 a0_0, .int .i64 a0_1] 151 ?_; intro gb418 hg w5 BK418 hb; have GW418 := gE hg; have GE418 := gE hg; replace HB := hB hb; clear hb hg; have hz6 := cz2 BK418) | ((with_reducible refine gC 173 ?_); refine cL (some 5) Tryz.func173 #[.int .i64 a0_0] ?_; (with_reducible refine (impl_coordOk.calls a0_0 _ _ A2.out).mono ?_); rintro e w' ⟨rfl, ⟨nd, rfl⟩⟩; refine ⟨_, rfl, ?_⟩) | (go_at_call 173; (with_reducible refine (impl_coordOk.calls a0_1 t420 _ A4.out).mono ?_); rintro e w' ⟨rfl, ⟨nd, rfl⟩⟩))
 go_ret
 exact ⟨eS, bS⟩) : p := h
theorem impl_PointOk.calls (a0_0 : Int) (a0_1 : Int) (r : Bool) (w : World) (h : impl_PointOk.f a0_0 a0_1 = some r) :
  Calls Tryz.prog 172 #[.agg #[.int .i64 a0_0, .int .i64 a0_1]] w fun e w' => e = .returned (.bool r) ∧ Below w.heap.size w w' := by
 have hu151 := Tryz.underlying151
 have HB := Aside0.mk (Below.refl w.heap.size w)
 have H : ((impl_coordOk.f a0_0).bind fun t419 => (if t419 = true then ((impl_coordOk.f a0_1).bind fun t420 => (some t420)) else (some false))) = some r := h
 clear h
 replace H := bN H
 obtain ⟨t419, A2, H⟩ := H
 by_cases c3 : t419 = true
 ·subst c3
  rw [if_pos rfl] at H
  replace H := bN H
  obtain ⟨t420, A4, H⟩ := H
  obtain rfl := Option.some.inj H
  exact impl_PointOk.lf0
 ·obtain rfl := Bool.eq_false_iff.mpr c3
  rw [if_neg nF] at H
  obtain rfl := Option.some.inj H
  exact impl_PointOk.lf0

/-! ### impl_pointsOk: function 125 -/
def impl_pointsOk.l0 : Nat → List (S151) → Int → Int → Option (Bool)
 | 0, _, _, _ => none
 | k + 1, x5, x6, x7 => if x7 < x6 then (if 0 ≤ x7 then (if x7 < (x5.length : Int) then ((impl_PointOk.f ((rd_T151 x5 x7).f0) ((rd_T151 x5 x7).f1)).bind fun t423 => (if t423 = true then (impl_pointsOk.l0 k x5 x6 (wrap64 (x7 + 1))) else (some false))) else (none)) else (none)) else (some true)
def impl_pointsOk.f (k : Nat) (l0 : List (S151)) : Option (Bool) := impl_pointsOk.l0 k l0 (l0.length : Int) 0
theorem impl_pointsOk.calls (k : Nat) (A0 : Option Addr) (c0 : Nat) (l0 : List (S151)) (r : Bool) (w : World) (hr0 : Kd.C k151 w A0 l0.length l0) (hc0 : l0.length ≤ c0) (h : impl_pointsOk.f k l0 = some r) :
  Calls Tryz.prog 125 #[.slice A0 l0.length c0] w fun e w' => e = .returned (.bool r) ∧ Below w.heap.size w w' := by
 have hu151 := Tryz.underlying151
 have HR0 := Aside0.mk hr0
 have HC0 := Aside0.mk hc0
 clear hr0 hc0
 have HB := Aside0.mk (Below.refl w.heap.size w)
 have H : (impl_pointsOk.l0 k l0 (l0.length : Int) 0) = some r := h
 clear h
 have H' := Aside0.mk H
 clear H
 go_enter Tryz.func125, Tryz.ntmps125
 go_wp2
 go_loopg [7] k (fun kq v7 w' => ∃ (x7_1 : Int), v7 = .int .i64 x7_1 ∧ Aside0 (impl_pointsOk.l0 kq l0 (l0.length : Int) x7_1 = some r) ∧ Aside0 (kq ≤ k) ∧ Aside0 (Below w.heap.size w w'))
 case atStart => exact ⟨(0), fS, H', ⟨Nat.le_refl _⟩, ⟨bS⟩⟩
 case round =>
  clear H'
  try clear c1
  obtain ⟨x7_1, rfl, HA, HK1, HB⟩ := hrel
  cases gk with
  | zero => exact absurd HA.out (by simp [impl_pointsOk.l0])
  | succ k1 =>
   have H := HA.out
   clear HA
   simp only [impl_pointsOk.l0] at H
   rcases iD H with ⟨c2b0, H⟩ | ⟨c2b0, H⟩
   ·obtain ⟨c3b0, H⟩ := iT H
    obtain ⟨c4b0, H⟩ := iT H
    replace H := bN H
    obtain ⟨t423, A5, H⟩ := H
    by_cases c6 : t423 = true
    ·subst c6
     rw [if_pos rfl] at H
     have H' := Aside0.mk H
     clear H
     have p421 : 0 ≤ (x7_1 : Int) := dA
     have q421 : x7_1 < (l0.length : Int) := dA
     obtain ⟨ad421, e421, hx421_0, hx421_1⟩ := at_T151 HR0.out x7_1 p421 q421
     cases e421
     replace hx421_0 := cB HB hx421_0
     replace hx421_1 := cB HB hx421_1
     replace p421 := eq_true p421
     replace q421 := eq_true q421
     go_wp2_with (first | ((with_reducible refine gD 4 ?_); refine bxE #[.int .i64 0, .int .i64 0] 151 ?_; intro gb422 hg w7 BK422 hb; have GW422 := gE hg; have GE422 := gE hg; replace HB := hB hb; clear hb hg; have hz8 := cz2 BK422) | ((with_reducible refine gC 172 ?_); refine cL (some 12) Tryz.func172 #[.agg #[.int .i64 ((rd_T151 l0 x7_1).f0), .int .i64 ((rd_T151 l0 x7_1).f1)]] ?_; (with_reducible refine (impl_PointOk.calls ((rd_T151 l0 x7_1).f0) ((rd_T151 l0 x7_1).f1) _ _ A5.out).mono ?_); rintro e w9 ⟨rfl, hb⟩; refine ⟨_, rfl, ?_⟩; replace BK422 := Aside0.mk (blk_below (g := gb422) (o := .cells #[.int .i64 ((rd_T151 l0 x7_1).f0), .int .i64 ((rd_T151 l0 x7_1).f1)] 151 (0, 0)) kS hb); replace HB := hB hb; (try clear hb); (try clear hb2); (try clear hk); (try clear hi)))
     go_roundg k1
     case measure => have := HK1.out; omega
     case rel => exact ⟨(wrap64 (x7_1 + 1)), fS, H', ⟨by have := HK1.out; omega⟩, ⟨bS⟩⟩
    ·obtain rfl := Bool.eq_false_iff.mpr c6
     rw [if_neg nF] at H
     obtain rfl := Option.some.inj H
     have p421 : 0 ≤ (x7_1 : Int) := dA
     have q421 : x7_1 < (l0.length : Int) := dA
     obtain ⟨ad421, e421, hx421_0, hx421_1⟩ := at_T151 HR0.out x7_1 p421 q421
     cases e421
     replace hx421_0 := cB HB hx421_0
     replace hx421_1 := cB HB hx421_1
     replace p421 := eq_true p421
     replace q421 := eq_true q421
     go_wp2_with (first | ((with_reducible refine gD 4 ?_); refine bxE #[.int .i64 0, .int .i64 0] 151 ?_; intro gb422 hg w10 BK422 hb; have GW422 := gE hg; have GE422 := gE hg; replace HB := hB hb; clear hb hg; have hz11 := cz2 BK422) | ((with_reducible refine gC 172 ?_); refine cL (some 12) Tryz.func172 #[.agg #[.int .i64 ((rd_T151 l0 x7_1).f0), .int .i64 ((rd_T151 l0 x7_1).f1)]] ?_; (with_reducible refine (impl_PointOk.calls ((rd_T151 l0 x7_1).f0) ((rd_T151 l0 x7_1).f1) _ _ A5.out).mono ?_); rintro e w12 ⟨rfl, hb⟩; refine ⟨_, rfl, ?_⟩; replace BK422 := Aside0.mk (blk_below (g := gb422) (o := .cells #[.int .i64 ((rd_T151 l0 x7_1).f0), .int .i64 ((rd_T151 l0 x7_1).f1)] 151 (0, 0)) kS hb); replace HB := hB hb; (try clear hb); (try clear hb2); (try clear hk); (try clear hi)))
     go_ret
     exact ⟨eS, bS⟩
   ·obtain rfl := Option.some.inj H
    go_wp2
    go_ret
    exact ⟨eS, bS⟩

/-! ### impl_BoxOk: function 126 -/
def impl_BoxOk.f (a0_0 : Int) (a0_1 : Int) (a0_2 : Int) (a0_3 : Int) : Option (Bool) := (impl_coordOk.f a0_0).bind fun t425 => (if t425 = true then ((impl_coordOk.f a0_1).bind fun t426 => (if t426 = true then ((impl_coordOk.f a0_2).bind fun t427 => (if t427 = true then ((impl_coordOk.f a0_3).bind fun t428 => (if t428 = true then (if a0_0 ≤ a0_2 then (some (decide (a0_1 ≤ a0_3))) else (some false)) else (some false))) else (some false))) else (some false))) else (some false))
theorem impl_BoxOk.lf0 {p : Prop} (h : p := by
 go_enter Tryz.func126, Tryz.ntmps126
 go_wp2_with (first | ((with_reducible refine gD 1 ?_); refine bxE #[.int .i64 a0_0, .int .i64 a0_1, .int .i64 a0_2, .int .i64 a0_3] 47 ?_; intro gb424 hg w11 BK424 hb; have GW424 := gE hg; have GE424 := gE hg; replace HB := hB hb; clear hb hg; have hz12 := cz4 BK424) | ((with_reducible refine gC 173 ?_); refine cL (some 5) Tryz.func173 #[.int .i64 a0_0] ?_; (with_reducible refine (impl_coordOk.calls a0_0 _ _ A2.out).mono ?_); rintro e w' ⟨rfl, ⟨nd, rfl⟩⟩; refine ⟨_, rfl, ?_⟩) | (go_at_call 173; (with_reducible refine (impl_coordOk.calls a0_1 _ _ A4.out).mono ?_); rintro e w' ⟨rfl, ⟨nd, rfl⟩⟩) | (go_at_call 173; (with_reducible refine (impl_coordOk.calls a0_2 _ _ A6.out).mono ?_); rintro e w' ⟨rfl, ⟨nd, rfl⟩⟩) | (go_at_call 173; (with_reducible refine (impl_coordOk.calls a0_3 _ _ A8.out).mono ?_); rintro e w' ⟨rfl, ⟨nd, rfl⟩⟩))
 go_ret
 exact ⟨eS, bS⟩) : p := h
theorem impl_BoxOk.calls (a0_0 : Int) (a0_1 : Int) (a0_2 : Int) (a0_3 : Int) (r : Bool) (w : World) (h : impl_BoxOk.f a0_0 a0_1 a0_2 a0_3 = some r) :
  Calls Tryz.prog 126 #[.agg #[.int .i64 a0_0, .int .i64 a0_1, .int .i64 a0_2, .int .i64 a0_3]] w fun e w' => e = .returned (.bool r) ∧ Below w.heap.size w w' := by
 have hu47 := Tryz.underlying47
 have HB := Aside0.mk (Below.refl w.heap.size w)
 have H : ((impl_coordOk.f a0_0).bind fun t425 => (if t425 = true then ((impl_coordOk.f a0_1).bind fun t426 => (if t426 = true then ((impl_coordOk.f a0_2).bind fun t427 => (if t427 = true then ((impl_coordOk.f a0_3).bind fun t428 => (if t428 = true then (if a0_0 ≤ a0_2 then (some (decide (a0_1 ≤ a0_3))) else (some false)) else (some false))) else (some false))) else (some false))) else (some false))) = some r := h
 clear h
 replace H := bN H
 obtain ⟨t425, A2, H⟩ := H
 by_cases c3 : t425 = true
 ·subst c3
  rw [if_pos rfl] at H
  replace H := bN H
  obtain ⟨t426, A4, H⟩ := H
  by_cases c5 : t426 = true
  ·subst c5
   rw [if_pos rfl] at H
   replace H := bN H
   obtain ⟨t427, A6, H⟩ := H
   by_cases c7 : t427 = true
   ·subst c7
    rw [if_pos rfl] at H
    replace H := bN H
    obtain ⟨t428, A8, H⟩ := H
    by_cases c9 : t428 = true
    ·subst c9
     rw [if_pos rfl] at H
     rcases iD H with ⟨c10b0, H⟩ | ⟨c10b0, H⟩
     ·obtain rfl := Option.some.inj H
      exact impl_BoxOk.lf0
     ·obtain rfl := Option.some.inj H
      exact impl_BoxOk.lf0
    ·obtain rfl := Bool.eq_false_iff.mpr c9
     rw [if_neg nF] at H
     obtain rfl := Option.some.inj H
     exact impl_BoxOk.lf0
   ·obtain rfl := Bool.eq_false_iff.mpr c7
    rw [if_neg nF] at H
    obtain rfl := Option.some.inj H
    exact impl_BoxOk.lf0
  ·obtain rfl := Bool.eq_false_iff.mpr c5
   rw [if_neg nF] at H
   obtain rfl := Option.some.inj H
   exact impl_BoxOk.lf0
 ·obtain rfl := Bool.eq_false_iff.mpr c3
  rw [if_neg nF] at H
  obtain rfl := Option.some.inj H
  exact impl_BoxOk.lf0

/-! ### impl_ObjectOk: function 64 -/
def impl_ObjectOk.f (k : Nat) (l0_0 : List (S151)) (a0_1 : Int) (a0_2 : Int) (a0_3 : Int) (a0_4 : Int) (a0_5 : Int) : Option (Bool) := (impl_within.f (l0_0.length : Int) 3 8).bind fun t430 => (if t430 = true then ((impl_pointsOk.f k l0_0).bind fun t431 => (if t431 = true then ((impl_within.f a0_1 0 255).bind fun t432 => (if t432 = true then ((impl_BoxOk.f a0_2 a0_3 a0_4 a0_5).bind fun t433 => (some t433)) else (some false))) else (some false))) else (some false))
theorem impl_ObjectOk.lf0 {p : Prop} (h : p := by
 go_enter Tryz.func64, Tryz.ntmps64
 go_wp2_with (first | ((with_reducible refine gD 1 ?_); refine bxE #[.slice A0_0 l0_0.length c0_0, .int .i64 a0_1, .int .i64 a0_2, .int .i64 a0_3, .int .i64 a0_4, .int .i64 a0_5] 49 ?_; intro gb429 hg w9 BK429 hb; have GW429 := gE hg; have GE429 := gE hg; replace HB := hB hb; clear hb hg; have hz10 := cz6 BK429) | ((with_reducible refine gC 124 ?_); refine cL (some 6) Tryz.func124 #[.int .i64 (l0_0.length : Int), .int .i64 3, .int .i64 8] ?_; (with_reducible refine (impl_within.calls (l0_0.length : Int) 3 8 _ _ A2.out).mono ?_); rintro e w' ⟨rfl, ⟨nd, rfl⟩⟩; refine ⟨_, rfl, ?_⟩) | (go_at_call 125; (with_reducible refine (impl_pointsOk.calls k _ _ l0_0 _ _ (cS (Kd.C_below HR0_0.out bS)) HC0_0.out A4.out).mono ?_); rintro e w11 ⟨rfl, hb⟩; replace BK429 := kB (g := gb429) hb; replace HB := hB hb; (try clear hb); (try clear hb2); (try clear hk); (try clear hi); have hz12 := cz6 BK429) | (go_at_call 124; (with_reducible refine (impl_within.calls a0_1 0 255 _ _ A6.out).mono ?_); rintro e w' ⟨rfl, ⟨nd, rfl⟩⟩) | (go_at_call 126; (with_reducible refine (impl_BoxOk.calls a0_2 a0_3 a0_4 a0_5 t433 _ A8.out).mono ?_); rintro e w13 ⟨rfl, hb⟩; replace BK429 := kB (g := gb429) hb; replace HB := hB hb; (try clear hb); (try clear hb2); (try clear hk); (try clear hi)))
 go_ret
 exact ⟨eS, bS⟩) : p := h
theorem impl_ObjectOk.calls (k : Nat) (A0_0 : Option Addr) (c0_0 : Nat) (l0_0 : List (S151)) (a0_1 : Int) (a0_2 : Int) (a0_3 : Int) (a0_4 : Int) (a0_5 : Int) (r : Bool) (w : World) (hr0_0 : Kd.C k151 w A0_0 l0_0.length l0_0) (hc0_0 : l0_0.length ≤ c0_0) (h : impl_ObjectOk.f k l0_0 a0_1 a0_2 a0_3 a0_4 a0_5 = some r) :
  Calls Tryz.prog 64 #[.agg #[.slice A0_0 l0_0.length c0_0, .int .i64 a0_1, .int .i64 a0_2, .int .i64 a0_3, .int .i64 a0_4, .int .i64 a0_5]] w fun e w' => e = .returned (.bool r) ∧ Below w.heap.size w w' := by
 have hu49 := Tryz.underlying49
 have hu47 := Tryz.underlying47
 have HR0_0 := Aside0.mk hr0_0
 have HC0_0 := Aside0.mk hc0_0
 clear hr0_0 hc0_0
 have HB := Aside0.mk (Below.refl w.heap.size w)
 have H : ((impl_within.f (l0_0.length : Int) 3 8).bind fun t430 => (if t430 = true then ((impl_pointsOk.f k l0_0).bind fun t431 => (if t431 = true then ((impl_within.f a0_1 0 255).bind fun t432 => (if t432 = true then ((impl_BoxOk.f a0_2 a0_3 a0_4 a0_5).bind fun t433 => (some t433)) else (some false))) else (some false))) else (some false))) = some r := h
 clear h
 replace H := bN H
 obtain ⟨t430, A2, H⟩ := H
 by_cases c3 : t430 = true
 ·subst c3
  rw [if_pos rfl] at H
  replace H := bN H
  obtain ⟨t431, A4, H⟩ := H
  by_cases c5 : t431 = true
  ·subst c5
   rw [if_pos rfl] at H
   replace H := bN H
   obtain ⟨t432, A6, H⟩ := H
   by_cases c7 : t432 = true
   ·subst c7
    rw [if_pos rfl] at H
    replace H := bN H
    obtain ⟨t433, A8, H⟩ := H
    obtain rfl := Option.some.inj H
    exact impl_ObjectOk.lf0
   ·obtain rfl := Bool.eq_false_iff.mpr c7
    rw [if_neg nF] at H
    obtain rfl := Option.some.inj H
    exact impl_ObjectOk.lf0
  ·obtain rfl := Bool.eq_false_iff.mpr c5
   rw [if_neg nF] at H
   obtain rfl := Option.some.inj H
   go_enter Tryz.func64, Tryz.ntmps64
   go_wp2_with (first | ((with_reducible refine gD 1 ?_); refine bxE #[.slice A0_0 l0_0.length c0_0, .int .i64 a0_1, .int .i64 a0_2, .int .i64 a0_3, .int .i64 a0_4, .int .i64 a0_5] 49 ?_; intro gb429 hg w18 BK429 hb; have GW429 := gE hg; have GE429 := gE hg; replace HB := hB hb; clear hb hg; have hz19 := cz6 BK429) | ((with_reducible refine gC 124 ?_); refine cL (some 6) Tryz.func124 #[.int .i64 (l0_0.length : Int), .int .i64 3, .int .i64 8] ?_; (with_reducible refine (impl_within.calls (l0_0.length : Int) 3 8 _ _ A2.out).mono ?_); rintro e w' ⟨rfl, ⟨nd, rfl⟩⟩; refine ⟨_, rfl, ?_⟩) | (go_at_call 125; (with_reducible refine (impl_pointsOk.calls k _ _ l0_0 _ _ (cS (Kd.C_below HR0_0.out bS)) HC0_0.out A4.out).mono ?_); rintro e w20 ⟨rfl, hb⟩; replace BK429 := kB (g := gb429) hb; replace HB := hB hb; (try clear hb); (try clear hb2); (try clear hk); (try clear hi)))
   go_ret
   exact ⟨eS, bS⟩
 ·obtain rfl := Bool.eq_false_iff.mpr c3
  rw [if_neg nF] at H
  obtain rfl := Option.some.inj H
  exact impl_ObjectOk.lf0

/-! ### impl_objectsOk: function 112 -/
def impl_objectsOk.l0 : Nat → List (S49) → Int → Int → Option (Bool)
 | 0, _, _, _ => none
 | k + 1, x5, x6, x7 => if x7 < x6 then (if 0 ≤ x7 then (if x7 < (x5.length : Int) then ((impl_ObjectOk.f k ((rd_T49 x5 x7).f0) ((rd_T49 x5 x7).f1) ((rd_T49 x5 x7).f2.f0) ((rd_T49 x5 x7).f2.f1) ((rd_T49 x5 x7).f2.f2) ((rd_T49 x5 x7).f2.f3)).bind fun t436 => (if t436 = true then (impl_objectsOk.l0 k x5 x6 (wrap64 (x7 + 1))) else (some false))) else (none)) else (none)) else (some true)
def impl_objectsOk.f (k : Nat) (l0 : List (S49)) : Option (Bool) := impl_objectsOk.l0 k l0 (l0.length : Int) 0
theorem impl_objectsOk.calls (k : Nat) (A0 : Option Addr) (c0 : Nat) (l0 : List (S49)) (r : Bool) (w : World) (hr0 : Kd.C k49 w A0 l0.length l0) (hc0 : l0.length ≤ c0) (h : impl_objectsOk.f k l0 = some r) :
  Calls Tryz.prog 112 #[.slice A0 l0.length c0] w fun e w' => e = .returned (.bool r) ∧ Below w.heap.size w w' := by
 have hu49 := Tryz.underlying49
 have HR0 := Aside0.mk hr0
 have HC0 := Aside0.mk hc0
 clear hr0 hc0
 have HB := Aside0.mk (Below.refl w.heap.size w)
 have H : (impl_objectsOk.l0 k l0 (l0.length : Int) 0) = some r := h
 clear h
 have H' := Aside0.mk H
 clear H
 go_enter Tryz.func112, Tryz.ntmps112
 go_wp2
 go_loopg [7] k (fun kq v7 w' => ∃ (x7_1 : Int), v7 = .int .i64 x7_1 ∧ Aside0 (impl_objectsOk.l0 kq l0 (l0.length : Int) x7_1 = some r) ∧ Aside0 (kq ≤ k) ∧ Aside0 (Below w.heap.size w w'))
 case atStart => exact ⟨(0), fS, H', ⟨Nat.le_refl _⟩, ⟨bS⟩⟩
 case round =>
  clear H'
  try clear c1
  obtain ⟨x7_1, rfl, HA, HK1, HB⟩ := hrel
  cases gk with
  | zero => exact absurd HA.out (by simp [impl_objectsOk.l0])
  | succ k1 =>
   have H := HA.out
   clear HA
   simp only [impl_objectsOk.l0] at H
   rcases iD H with ⟨c2b0, H⟩ | ⟨c2b0, H⟩
   ·obtain ⟨c3b0, H⟩ := iT H
    obtain ⟨c4b0, H⟩ := iT H
    replace H := bN H
    obtain ⟨t436, A5, H⟩ := H
    by_cases c6 : t436 = true
    ·subst c6
     rw [if_pos rfl] at H
     have H' := Aside0.mk H
     clear H
     have p434 : 0 ≤ (x7_1 : Int) := dA
     have q434 : x7_1 < (l0.length : Int) := dA
     obtain ⟨ad434, A434_0, c434_0, e434, hx434_0, hx434_1, hx434_2, hx434_3, hx434_4, hx434_5, hl434_0, hi434_0⟩ := at_T49 HR0.out x7_1 p434 q434
     cases e434
     replace hx434_0 := cB HB hx434_0
     replace hx434_1 := cB HB hx434_1
     replace hx434_2 := cB HB hx434_2
     replace hx434_3 := cB HB hx434_3
     replace hx434_4 := cB HB hx434_4
     replace hx434_5 := cB HB hx434_5
     have HR434_0 := Aside0.mk hi434_0
     have HC434_0 := Aside0.mk hl434_0
     clear hi434_0 hl434_0
     replace p434 := eq_true p434
     replace q434 := eq_true q434
     go_wp2_with (first | ((with_reducible refine gD 4 ?_); refine bxE #[.slice none 0 0, .int .i64 0, .int .i64 0, .int .i64 0, .int .i64 0, .int .i64 0] 49 ?_; intro gb435 hg w7 BK435 hb; have GW435 := gE hg; have GE435 := gE hg; replace HB := hB hb; clear hb hg; have hz8 := cz6 BK435) | ((with_reducible refine gC 64 ?_); refine cL (some 12) Tryz.func64 #[.agg #[.slice A434_0 ((rd_T49 l0 x7_1).f0).length c434_0, .int .i64 ((rd_T49 l0 x7_1).f1), .int .i64 ((rd_T49 l0 x7_1).f2.f0), .int .i64 ((rd_T49 l0 x7_1).f2.f1), .int .i64 ((rd_T49 l0 x7_1).f2.f2), .int .i64 ((rd_T49 l0 x7_1).f2.f3)]] ?_; (with_reducible refine (impl_ObjectOk.calls k1 _ _ ((rd_T49 l0 x7_1).f0) ((rd_T49 l0 x7_1).f1) ((rd_T49 l0 x7_1).f2.f0) ((rd_T49 l0 x7_1).f2.f1) ((rd_T49 l0 x7_1).f2.f2) ((rd_T49 l0 x7_1).f2.f3) _ _ (Kd.C_below HR434_0.out bS) HC434_0.out A5.out).mono ?_); rintro e w9 ⟨rfl, hb⟩; refine ⟨_, rfl, ?_⟩; replace BK435 := Aside0.mk (blk_below (g := gb435) (o := .cells #[.slice A434_0 ((rd_T49 l0 x7_1).f0).length c434_0, .int .i64 ((rd_T49 l0 x7_1).f1), .int .i64 ((rd_T49 l0 x7_1).f2.f0), .int .i64 ((rd_T49 l0 x7_1).f2.f1), .int .i64 ((rd_T49 l0 x7_1).f2.f2), .int .i64 ((rd_T49 l0 x7_1).f2.f3)] 49 (0, 0)) kS hb); replace HB := hB hb; (try clear hb); (try clear hb2); (try clear hk); (try clear hi)))
     go_roundg k1
     case measure => have := HK1.out; omega
     case rel => exact ⟨(wrap64 (x7_1 + 1)), fS, H', ⟨by have := HK1.out; omega⟩, ⟨bS⟩⟩
    ·obtain rfl := Bool.eq_false_iff.mpr c6
     rw [if_neg nF] at H
     obtain rfl := Option.some.inj H
     have p434 : 0 ≤ (x7_1 : Int) := dA
     have q434 : x7_1 < (l0.length : Int) := dA
     obtain ⟨ad434, A434_0, c434_0, e434, hx434_0, hx434_1, hx434_2, hx434_3, hx434_4, hx434_5, hl434_0, hi434_0⟩ := at_T49 HR0.out x7_1 p434 q434
     cases e434
     replace hx434_0 := cB HB hx434_0
     replace hx434_1 := cB HB hx434_1
     replace hx434_2 := cB HB hx434_2
     replace hx434_3 := cB HB hx434_3
     replace hx434_4 := cB HB hx434_4
     replace hx434_5 := cB HB hx434_5
     have HR434_0 := Aside0.mk hi434_0
     have HC434_0 := Aside0.mk hl434_0
     clear hi434_0 hl434_0
     replace p434 := eq_true p434
     replace q434 := eq_true q434
     go_wp2_with (first | ((with_reducible refine gD 4 ?_); refine bxE #[.slice none 0 0, .int .i64 0, .int .i64 0, .int .i64 0, .int .i64 0, .int .i64 0] 49 ?_; intro gb435 hg w10 BK435 hb; have GW435 := gE hg; have GE435 := gE hg; replace HB := hB hb; clear hb hg; have hz11 := cz6 BK435) | ((with_reducible refine gC 64 ?_); refine cL (some 12) Tryz.func64 #[.agg #[.slice A434_0 ((rd_T49 l0 x7_1).f0).length c434_0, .int .i64 ((rd_T49 l0 x7_1).f1), .int .i64 ((rd_T49 l0 x7_1).f2.f0), .int .i64 ((rd_T49 l0 x7_1).f2.f1), .int .i64 ((rd_T49 l0 x7_1).f2.f2), .int .i64 ((rd_T49 l0 x7_1).f2.f3)]] ?_; (with_reducible refine (impl_ObjectOk.calls k1 _ _ ((rd_T49 l0 x7_1).f0) ((rd_T49 l0 x7_1).f1) ((rd_T49 l0 x7_1).f2.f0) ((rd_T49 l0 x7_1).f2.f1) ((rd_T49 l0 x7_1).f2.f2) ((rd_T49 l0 x7_1).f2.f3) _ _ (Kd.C_below HR434_0.out bS) HC434_0.out A5.out).mono ?_); rintro e w12 ⟨rfl, hb⟩; refine ⟨_, rfl, ?_⟩; replace BK435 := Aside0.mk (blk_below (g := gb435) (o := .cells #[.slice A434_0 ((rd_T49 l0 x7_1).f0).length c434_0, .int .i64 ((rd_T49 l0 x7_1).f1), .int .i64 ((rd_T49 l0 x7_1).f2.f0), .int .i64 ((rd_T49 l0 x7_1).f2.f1), .int .i64 ((rd_T49 l0 x7_1).f2.f2), .int .i64 ((rd_T49 l0 x7_1).f2.f3)] 49 (0, 0)) kS hb); replace HB := hB hb; (try clear hb); (try clear hb2); (try clear hk); (try clear hi)))
     go_ret
     exact ⟨eS, bS⟩
   ·obtain rfl := Option.some.inj H
    go_wp2
    go_ret
    exact ⟨eS, bS⟩

/-! ### impl_BandOk: function 46 -/
def impl_BandOk.f (k : Nat) (a0_0 : Int) (a0_1 : Int) (l0_2 : List (List Int)) (l0_3 : List (S49)) : Option (Bool) := (impl_NewBand.f k a0_0 a0_1).bind fun bt438 => (if bt438.2.2.2.2 = true then (if (l0_2.length : Int) = a0_0 then ((impl_RowsOk.f k l0_2).bind fun t448 => (if t448 = true then ((impl_objectsOk.f k l0_3).bind fun t449 => (if t449 = true then ((impl_BandCells.f k a0_0 a0_1 l0_2 l0_3).bind fun t450 => (some (decide (t450 ≤ 60)))) else (some false))) else (some false))) else (some false)) else (some false))
theorem impl_BandOk.lf0 {p : Prop} (h : p := by
 go_enter Tryz.func46, Tryz.ntmps46
 go_wp2_with (first | ((with_reducible refine gD 1 ?_); refine bxE #[.int .i64 a0_0, .int .i64 a0_1, .slice A0_2 l0_2.length c0_2, .slice A0_3 l0_3.length c0_3] 30 ?_; intro gb437 hg w10 BK437 hb; have GW437 := gE hg; have GE437 := gE hg; replace HB := hB hb; clear hb hg; have hz11 := cz4 BK437) | ((with_reducible refine gC 110 ?_); refine cL (some 10) Tryz.func110 #[.int .i64 a0_0, .int .i64 a0_1] ?_; (with_reducible refine (impl_NewBand.calls k a0_0 a0_1 t438 t439 t440 t443 _ _ A2.out).mono ?_); rintro e w12 ⟨v441, v444, rfl, ho0, ho1, hb⟩; refine ⟨_, rfl, ?_⟩; have HO442 := Aside0.mk (Kd.S_lower ho0 (below_size bS)); have HO445 := Aside0.mk (Kd.S_lower ho1 (below_size bS)); replace BK437 := kB (g := gb437) hb; replace HB := hB hb; (try clear hb); (try clear hb2); (try clear hk); (try clear hi); (try clear ho0); (try clear ho1)) | ((with_reducible refine gD 3 ?_); refine bxE #[.int .i64 0, .int .i64 0, .slice none 0 0, .slice none 0 0] 30 ?_; intro gb447 hg w13 BK447 hb; have GW447 := gE hg; have GE447 := gE hg; have NB437_447 := nL (g := gb437) hg; have NB447_437 := nG (g := gb437) hg; replace HO442 := sB HO442 hb; replace HO445 := sB HO445 hb; replace BK437 := kB (g := gb437) hb; replace HB := hB hb; clear hb hg; have hnb14 := NB447_437.out; have hnc14 := NB437_447.out; have hz15 := cz4 BK447; obtain ⟨Ao16, co16, eo16⟩ := Kd.S_slice HO442.out; subst eo16; obtain ⟨Ao17, co17, eo17⟩ := Kd.S_slice HO445.out; subst eo17; have hz18 := cz4 BK437) | (go_at_call 111; (with_reducible refine (impl_RowsOk.calls k _ _ l0_2 _ _ (Kd.C_below HR0_2.out bS) HC0_2.out A5.out).mono ?_); rintro e w' ⟨rfl, ⟨nd, rfl⟩⟩) | (go_at_call 112; (with_reducible refine (impl_objectsOk.calls k _ _ l0_3 _ _ (Kd.C_below HR0_3.out bS) HC0_3.out A7.out).mono ?_); rintro e w19 ⟨rfl, hb⟩; replace HO442 := Aside0.mk (Kd.S_below (by exact sT (Kd.S_mono (Kd.S_far (p := ⟨gb447, 3, none⟩) (Kd.S_far (p := ⟨gb447, 2, none⟩) (Kd.S_far (p := ⟨gb447, 1, none⟩) (Kd.S_far (p := ⟨gb447, 0, none⟩) (Kd.S_types HO442.out BK447.out (by decide)) (fun _ hk => hk.2) (.int .i64 t438)) (fun _ hk => hk.2) (.int .i64 t439)) (fun _ hk => hk.2) (.slice Ao16 t440.length co16)) (fun _ hk => hk.2) (.slice Ao17 t443.length co17)) (fun _ h_ => h_.1))) hb); replace HO445 := Aside0.mk (Kd.S_below (by exact sT (Kd.S_mono (Kd.S_far (p := ⟨gb447, 3, none⟩) (Kd.S_far (p := ⟨gb447, 2, none⟩) (Kd.S_far (p := ⟨gb447, 1, none⟩) (Kd.S_far (p := ⟨gb447, 0, none⟩) (Kd.S_types HO445.out BK447.out (by decide)) (fun _ hk => hk.2) (.int .i64 t438)) (fun _ hk => hk.2) (.int .i64 t439)) (fun _ hk => hk.2) (.slice Ao16 t440.length co16)) (fun _ hk => hk.2) (.slice Ao17 t443.length co17)) (fun _ h_ => h_.1))) hb); replace BK437 := kB (g := gb437) hb; replace BK447 := Aside0.mk (blk_below (g := gb447) (o := .cells #[.int .i64 t438, .int .i64 t439, .slice Ao16 t440.length co16, .slice Ao17 t443.length co17] 30 (0, 0)) kS hb); replace HB := hB hb; (try clear hb); (try clear hb2); (try clear hk); (try clear hi); have hz20 := cz4 BK437) | (go_at_call 66; (with_reducible refine (impl_BandCells.calls k a0_0 a0_1 _ _ l0_2 _ _ l0_3 t450 _ (cS (Kd.C_below HR0_2.out HB.out)) HC0_2.out (cS (Kd.C_below HR0_3.out HB.out)) HC0_3.out A9.out).mono ?_); rintro e w21 ⟨rfl, hb⟩; replace HO442 := sB HO442 hb; replace HO445 := sB HO445 hb; replace BK437 := kB (g := gb437) hb; replace BK447 := kB (g := gb447) hb; replace HB := hB hb; (try clear hb); (try clear hb2); (try clear hk); (try clear hi)))
 go_ret
 exact ⟨eS, bS⟩) : p := h
theorem impl_BandOk.calls (k : Nat) (a0_0 : Int) (a0_1 : Int) (A0_2 : Option Addr) (c0_2 : Nat) (l0_2 : List (List Int)) (A0_3 : Option Addr) (c0_3 : Nat) (l0_3 : List (S49)) (r : Bool) (w : World) (hr0_2 : Kd.C (Kd.slice 3 (Kd.int .i64)) w A0_2 l0_2.length l0_2) (hc0_2 : l0_2.length ≤ c0_2) (hr0_3 : Kd.C k49 w A0_3 l0_3.length l0_3) (hc0_3 : l0_3.length ≤ c0_3) (h : impl_BandOk.f k a0_0 a0_1 l0_2 l0_3 = some r) :
  Calls Tryz.prog 46 #[.agg #[.int .i64 a0_0, .int .i64 a0_1, .slice A0_2 l0_2.length c0_2, .slice A0_3 l0_3.length c0_3]] w fun e w' => e = .returned (.bool r) ∧ Below w.heap.size w w' := by
 have hu30 := Tryz.underlying30
 have HR0_2 := Aside0.mk hr0_2
 have HC0_2 := Aside0.mk hc0_2
 clear hr0_2 hc0_2
 have HR0_3 := Aside0.mk hr0_3
 have HC0_3 := Aside0.mk hc0_3
 clear hr0_3 hc0_3
 have HB := Aside0.mk (Below.refl w.heap.size w)
 have H : ((impl_NewBand.f k a0_0 a0_1).bind fun bt438 => (if bt438.2.2.2.2 = true then (if (l0_2.length : Int) = a0_0 then ((impl_RowsOk.f k l0_2).bind fun t448 => (if t448 = true then ((impl_objectsOk.f k l0_3).bind fun t449 => (if t449 = true then ((impl_BandCells.f k a0_0 a0_1 l0_2 l0_3).bind fun t450 => (some (decide (t450 ≤ 60)))) else (some false))) else (some false))) else (some false)) else (some false))) = some r := h
 clear h
 replace H := bN H
 obtain ⟨⟨t438, t439, t440, t443, t446⟩, A2, H⟩ := H
 by_cases c3 : t446 = true
 ·subst c3
  rw [if_pos rfl] at H
  by_cases c4 : (l0_2.length : Int) = a0_0
  ·rw [if_pos c4] at H
   have c4b0 : ((l0_2.length : Int) == a0_0) = true := beq_iff_eq.mpr c4
   have c4b1 : ((l0_2.length : Int) != a0_0) = false := bne_eq_false_iff_eq.mpr c4
   clear c4
   replace H := bN H
   obtain ⟨t448, A5, H⟩ := H
   by_cases c6 : t448 = true
   ·subst c6
    rw [if_pos rfl] at H
    replace H := bN H
    obtain ⟨t449, A7, H⟩ := H
    by_cases c8 : t449 = true
    ·subst c8
     rw [if_pos rfl] at H
     replace H := bN H
     obtain ⟨t450, A9, H⟩ := H
     obtain rfl := Option.some.inj H
     exact impl_BandOk.lf0
    ·obtain rfl := Bool.eq_false_iff.mpr c8
     rw [if_neg nF] at H
     obtain rfl := Option.some.inj H
     go_enter Tryz.func46, Tryz.ntmps46
     go_wp2_with (first | ((with_reducible refine gD 1 ?_); refine bxE #[.int .i64 a0_0, .int .i64 a0_1, .slice A0_2 l0_2.length c0_2, .slice A0_3 l0_3.length c0_3] 30 ?_; intro gb437 hg w22 BK437 hb; have GW437 := gE hg; have GE437 := gE hg; replace HB := hB hb; clear hb hg; have hz23 := cz4 BK437) | ((with_reducible refine gC 110 ?_); refine cL (some 10) Tryz.func110 #[.int .i64 a0_0, .int .i64 a0_1] ?_; (with_reducible refine (impl_NewBand.calls k a0_0 a0_1 t438 t439 t440 t443 _ _ A2.out).mono ?_); rintro e w24 ⟨v441, v444, rfl, ho0, ho1, hb⟩; refine ⟨_, rfl, ?_⟩; have HO442 := Aside0.mk (Kd.S_lower ho0 (below_size bS)); have HO445 := Aside0.mk (Kd.S_lower ho1 (below_size bS)); replace BK437 := kB (g := gb437) hb; replace HB := hB hb; (try clear hb); (try clear hb2); (try clear hk); (try clear hi); (try clear ho0); (try clear ho1)) | ((with_reducible refine gD 3 ?_); refine bxE #[.int .i64 0, .int .i64 0, .slice none 0 0, .slice none 0 0] 30 ?_; intro gb447 hg w25 BK447 hb; have GW447 := gE hg; have GE447 := gE hg; have NB437_447 := nL (g := gb437) hg; have NB447_437 := nG (g := gb437) hg; replace HO442 := sB HO442 hb; replace HO445 := sB HO445 hb; replace BK437 := kB (g := gb437) hb; replace HB := hB hb; clear hb hg; have hnb26 := NB447_437.out; have hnc26 := NB437_447.out; have hz27 := cz4 BK447; obtain ⟨Ao28, co28, eo28⟩ := Kd.S_slice HO442.out; subst eo28; obtain ⟨Ao29, co29, eo29⟩ := Kd.S_slice HO445.out; subst eo29; have hz30 := cz4 BK437) | (go_at_call 111; (with_reducible refine (impl_RowsOk.calls k _ _ l0_2 _ _ (Kd.C_below HR0_2.out bS) HC0_2.out A5.out).mono ?_); rintro e w' ⟨rfl, ⟨nd, rfl⟩⟩) | (go_at_call 112; (with_reducible refine (impl_objectsOk.calls k _ _ l0_3 _ _ (Kd.C_below HR0_3.out bS) HC0_3.out A7.out).mono ?_); rintro e w31 ⟨rfl, hb⟩; replace HO442 := Aside0.mk (Kd.S_below (by exact sT (Kd.S_mono (Kd.S_far (p := ⟨gb447, 3, none⟩) (Kd.S_far (p := ⟨gb447, 2, none⟩) (Kd.S_far (p := ⟨gb447, 1, none⟩) (Kd.S_far (p := ⟨gb447, 0, none⟩) (Kd.S_types HO442.out BK447.out (by decide)) (fun _ hk => hk.2) (.int .i64 t438)) (fun _ hk => hk.2) (.int .i64 t439)) (fun _ hk => hk.2) (.slice Ao28 t440.length co28)) (fun _ hk => hk.2) (.slice Ao29 t443.length co29)) (fun _ h_ => h_.1))) hb); replace HO445 := Aside0.mk (Kd.S_below (by exact sT (Kd.S_mono (Kd.S_far (p := ⟨gb447, 3, none⟩) (Kd.S_far (p := ⟨gb447, 2, none⟩) (Kd.S_far (p := ⟨gb447, 1, none⟩) (Kd.S_far (p := ⟨gb447, 0, none⟩) (Kd.S_types HO445.out BK447.out (by decide)) (fun _ hk => hk.2) (.int .i64 t438)) (fun _ hk => hk.2) (.int .i64 t439)) (fun _ hk => hk.2) (.slice Ao28 t440.length co28)) (fun _ hk => hk.2) (.slice Ao29 t443.length co29)) (fun _ h_ => h_.1))) hb); replace BK437 := kB (g := gb437) hb; replace BK447 := Aside0.mk (blk_below (g := gb447) (o := .cells #[.int .i64 t438, .int .i64 t439, .slice Ao28 t440.length co28, .slice Ao29 t443.length co29] 30 (0, 0)) kS hb); replace HB := hB hb; (try clear hb); (try clear hb2); (try clear hk); (try clear hi)))
     go_ret
     exact ⟨eS, bS⟩
   ·obtain rfl := Bool.eq_false_iff.mpr c6
    rw [if_neg nF] at H
    obtain rfl := Option.some.inj H
    exact impl_BandOk.lf0
  ·rw [if_neg c4] at H
   have c4b0 : ((l0_2.length : Int) == a0_0) = false := beq_eq_false_iff_ne.mpr c4
   have c4b1 : ((l0_2.length : Int) != a0_0) = true := bne_iff_ne.mpr c4
   obtain rfl := Option.some.inj H
   exact impl_BandOk.lf0
 ·obtain rfl := Bool.eq_false_iff.mpr c3
  rw [if_neg nF] at H
  obtain rfl := Option.some.inj H
  go_enter Tryz.func46, Tryz.ntmps46
  go_wp2_with (first | ((with_reducible refine gD 1 ?_); refine bxE #[.int .i64 a0_0, .int .i64 a0_1, .slice A0_2 l0_2.length c0_2, .slice A0_3 l0_3.length c0_3] 30 ?_; intro gb437 hg w50 BK437 hb; have GW437 := gE hg; have GE437 := gE hg; replace HB := hB hb; clear hb hg; have hz51 := cz4 BK437) | ((with_reducible refine gC 110 ?_); refine cL (some 10) Tryz.func110 #[.int .i64 a0_0, .int .i64 a0_1] ?_; (with_reducible refine (impl_NewBand.calls k a0_0 a0_1 t438 t439 t440 t443 _ _ A2.out).mono ?_); rintro e w52 ⟨v441, v444, rfl, ho0, ho1, hb⟩; refine ⟨_, rfl, ?_⟩; have HO442 := Aside0.mk (Kd.S_lower ho0 (below_size bS)); have HO445 := Aside0.mk (Kd.S_lower ho1 (below_size bS)); replace BK437 := kB (g := gb437) hb; replace HB := hB hb; (try clear hb); (try clear hb2); (try clear hk); (try clear hi); (try clear ho0); (try clear ho1)) | ((with_reducible refine gD 3 ?_); refine bxE #[.int .i64 0, .int .i64 0, .slice none 0 0, .slice none 0 0] 30 ?_; intro gb447 hg w53 BK447 hb; have GW447 := gE hg; have GE447 := gE hg; have NB437_447 := nL (g := gb437) hg; have NB447_437 := nG (g := gb437) hg; replace HO442 := sB HO442 hb; replace HO445 := sB HO445 hb; replace BK437 := kB (g := gb437) hb; replace HB := hB hb; clear hb hg; have hnb54 := NB447_437.out; have hnc54 := NB437_447.out; have hz55 := cz4 BK447; obtain ⟨Ao56, co56, eo56⟩ := Kd.S_slice HO442.out; subst eo56; obtain ⟨Ao57, co57, eo57⟩ := Kd.S_slice HO445.out; subst eo57))
  go_ret
  exact ⟨eS, bS⟩

end Go.Proofs.YtncfipboidmfbaaGreat.QFnExactMergeBand
