-- Made out of the translation by a program of this session (a changed copy of the print). Not trusted: Lean checks it.
import Derived.Test.YtigodjcnkgebaaaQFnMergesx0
import Derived.Test.YtigodjcnkgebaaaQFnMergesx1
namespace Go.Proofs.Ytigodjcnkgebaaa.QFnMerges
open Go.RowKit Go.Proofs.YtigodjcnkgebaaaW.PrintWords Go.Proofs.YtigodjcnkgebaaaW.PrintLast Go.Proofs.YtigodjcnkgebaaaW.PrintMore
attribute [local go_sem] max2_int min2_int max_two min_two max_three min_three max_four min_four   -- for this text's walks alone
set_option linter.unusedVariables false
set_option linter.unusedSimpArgs false
set_option maxHeartbeats 8000000
set_option maxRecDepth 100000

/-! ### impl_NewBand: function 68 -/
def impl_NewBand.f (k : Nat) (a0 : Int) (a1 : Int) : Option (Int × Int × (List (List Int)) × (List (S45)) × Bool) := (impl_IsHeight.f a0).bind fun t126 => (if t126 = true then ((impl_CountBands.f a0).bind fun t127 => ((impl_within.f a1 0 (wrap64 (t127 - 1))).bind fun t128 => (if t128 = true then ((impl_WhiteRows.f k a0).bind fun t129 => (some (a0, a1, t129, ([] : List (S45)), true))) else (some (0, 0, ([] : List (List Int)), ([] : List (S45)), false))))) else (some (0, 0, ([] : List (List Int)), ([] : List (S45)), false)))
theorem impl_NewBand.calls (k : Nat) (a0 : Int) (a1 : Int) (r1 : Int) (r2 : Int) (r3 : List (List Int)) (r4 : List (S45)) (r5 : Bool) (w : World) (h : impl_NewBand.f k a0 a1 = some (r1, r2, r3, r4, r5)) :
  Calls Try.prog 68 #[.int .i64 a0, .int .i64 a1] w fun e w' => ∃ v2_ v3_ : Value, e = .returned (.tuple #[.agg #[.int .i64 r1, .int .i64 r2, v2_, v3_], .bool r5]) ∧ Kd.S (Kd.slice 3 (Kd.int .i64)) 71 w' w.heap.size (fun _ => True) v2_ r3 ∧ Kd.S k45 45 w' w.heap.size (fun _ => True) v3_ r4 ∧ Below w.heap.size w w' := by
 have hu58 := Try.underlying58
 have HB := Aside0.mk (Below.refl w.heap.size w)
 have H : ((impl_IsHeight.f a0).bind fun t126 => (if t126 = true then ((impl_CountBands.f a0).bind fun t127 => ((impl_within.f a1 0 (wrap64 (t127 - 1))).bind fun t128 => (if t128 = true then ((impl_WhiteRows.f k a0).bind fun t129 => (some (a0, a1, t129, ([] : List (S45)), true))) else (some (0, 0, ([] : List (List Int)), ([] : List (S45)), false))))) else (some (0, 0, ([] : List (List Int)), ([] : List (S45)), false)))) = some (r1, r2, r3, r4, r5) := h
 clear h
 replace H := bN H
 obtain ⟨t126, A3, H⟩ := H
 by_cases c4 : t126 = true
 ·subst c4
  rw [if_pos rfl] at H
  replace H := bN H
  obtain ⟨t127, A5, H⟩ := H
  replace H := bN H
  obtain ⟨t128, A6, H⟩ := H
  by_cases c7 : t128 = true
  ·subst c7
   rw [if_pos rfl] at H
   replace H := bN H
   obtain ⟨t129, A8, H⟩ := H
   obtain ⟨rfl, rfl, rfl, rfl, rfl⟩ := sI5 H
   go_enter Try.func68, Try.ntmps68
   go_wp2_with (first | ((with_reducible refine gD 4 ?_); refine bxE #[.int .i64 0, .int .i64 0, .slice none 0 0, .slice none 0 0] 58 ?_; intro gb125 hg w9 BK125 hb; have GW125 := gE hg; have GE125 := gE hg; replace HB := hB hb; clear hb hg) | ((with_reducible refine gC 20 ?_); refine cL (some 7) Try.func20 #[.int .i64 a0] ?_; (with_reducible refine (impl_IsHeight.calls a0 _ _ A3.out).mono ?_); rintro e w' ⟨rfl, ⟨nd, rfl⟩⟩; refine ⟨_, rfl, ?_⟩; (try (rw [drewN_self w9]; generalize hq_ : World.drewN w9 _ = w9; replace BK125 : Aside0 (w9.heap[gb125]? = some (.cells #[.int .i64 0, .int .i64 0, .slice none 0 0, .slice none 0 0] 58 (0, 0))) := ⟨by rw [← hq_]; exact kS⟩; replace HB : Aside0 (Below w.heap.size w w9) := ⟨by rw [← hq_]; exact bS⟩; clear hq_))) | (go_at_call 21; (with_reducible refine (impl_CountBands.calls a0 t127 _ A5.out).mono ?_); rintro e w' ⟨rfl, ⟨nd, rfl⟩⟩; (try (rw [drewN_self w9]; generalize hq_ : World.drewN w9 _ = w9; replace BK125 : Aside0 (w9.heap[gb125]? = some (.cells #[.int .i64 0, .int .i64 0, .slice none 0 0, .slice none 0 0] 58 (0, 0))) := ⟨by rw [← hq_]; exact kS⟩; replace HB : Aside0 (Below w.heap.size w w9) := ⟨by rw [← hq_]; exact bS⟩; clear hq_))) | (go_at_call 126; (with_reducible refine (impl_within.calls a1 0 (wrap64 (t127 - 1)) _ _ A6.out).mono ?_); rintro e w' ⟨rfl, ⟨nd, rfl⟩⟩; (try (rw [drewN_self w9]; generalize hq_ : World.drewN w9 _ = w9; replace BK125 : Aside0 (w9.heap[gb125]? = some (.cells #[.int .i64 0, .int .i64 0, .slice none 0 0, .slice none 0 0] 58 (0, 0))) := ⟨by rw [← hq_]; exact kS⟩; replace HB : Aside0 (Below w.heap.size w w9) := ⟨by rw [← hq_]; exact bS⟩; clear hq_))) | ((with_reducible refine gC 74 ?_); refine cL (some 21) Try.func74 #[.int .i64 a0] ?_; (with_reducible refine (impl_WhiteRows.calls k a0 t129 _ A8.out).mono ?_); rintro e w10 ⟨v130, rfl, ho0, hb⟩; refine ⟨_, rfl, ?_⟩; have HO131 := Aside0.mk (Kd.S_lower ho0 (below_size bS)); replace BK125 := kB (g := gb125) hb; replace HB := hB hb; (try clear hb); (try clear hb2); (try clear hk); (try clear hi); (try clear ho0); obtain ⟨Ao11, co11, eo11⟩ := Kd.S_slice HO131.out; subst eo11; have hz12 := cz4 BK125))
   refine bodyPost_ret (results_ct rfl _ _ gb125 58 #[.int .i64 a0, .int .i64 a1, .slice Ao11 t129.length co11, .slice none 0 0] (0, 0) _ rfl kS Try.underlying58 rfl (by kernel_rfl)) rfl ?_
   exact ⟨_, _, eS, by exact sT (Kd.S_mono (Kd.S_far (p := ⟨gb125, 3, none⟩) (Kd.S_far (p := ⟨gb125, 2, none⟩) (Kd.S_far (p := ⟨gb125, 1, none⟩) (Kd.S_far (p := ⟨gb125, 0, none⟩) (Kd.S_types HO131.out BK125.out (by decide)) (fun _ hk => hk.2) (.int .i64 a0)) (fun _ hk => hk.2) (.int .i64 a1)) (fun _ hk => hk.2) (.slice Ao11 t129.length co11)) (fun _ hk => hk.2) (.slice none 0 0)) (fun _ hk => trivial)), by first | exact Kd.S_nil _ _ _ _ _ | exact Kd.N_nil _ _ _ _ _ | exact Kd.V_nil _ _ _ _ _ | exact Kd.Q_nil _ _ _ _ _ | exact Kd.R_nil _ _ _ _ _, bS⟩
  ·obtain rfl := Bool.eq_false_iff.mpr c7
   rw [if_neg nF] at H
   obtain ⟨rfl, rfl, rfl, rfl, rfl⟩ := sI5 H
   go_enter Try.func68, Try.ntmps68
   go_wp2_with (first | ((with_reducible refine gD 4 ?_); refine bxE #[.int .i64 0, .int .i64 0, .slice none 0 0, .slice none 0 0] 58 ?_; intro gb125 hg w13 BK125 hb; have GW125 := gE hg; have GE125 := gE hg; replace HB := hB hb; clear hb hg) | ((with_reducible refine gC 20 ?_); refine cL (some 7) Try.func20 #[.int .i64 a0] ?_; (with_reducible refine (impl_IsHeight.calls a0 _ _ A3.out).mono ?_); rintro e w' ⟨rfl, ⟨nd, rfl⟩⟩; refine ⟨_, rfl, ?_⟩; (try (rw [drewN_self w13]; generalize hq_ : World.drewN w13 _ = w13; replace BK125 : Aside0 (w13.heap[gb125]? = some (.cells #[.int .i64 0, .int .i64 0, .slice none 0 0, .slice none 0 0] 58 (0, 0))) := ⟨by rw [← hq_]; exact kS⟩; replace HB : Aside0 (Below w.heap.size w w13) := ⟨by rw [← hq_]; exact bS⟩; clear hq_))) | (go_at_call 21; (with_reducible refine (impl_CountBands.calls a0 t127 _ A5.out).mono ?_); rintro e w' ⟨rfl, ⟨nd, rfl⟩⟩; (try (rw [drewN_self w13]; generalize hq_ : World.drewN w13 _ = w13; replace BK125 : Aside0 (w13.heap[gb125]? = some (.cells #[.int .i64 0, .int .i64 0, .slice none 0 0, .slice none 0 0] 58 (0, 0))) := ⟨by rw [← hq_]; exact kS⟩; replace HB : Aside0 (Below w.heap.size w w13) := ⟨by rw [← hq_]; exact bS⟩; clear hq_))) | (go_at_call 126; (with_reducible refine (impl_within.calls a1 0 (wrap64 (t127 - 1)) _ _ A6.out).mono ?_); rintro e w' ⟨rfl, ⟨nd, rfl⟩⟩; (try (rw [drewN_self w13]; generalize hq_ : World.drewN w13 _ = w13; replace BK125 : Aside0 (w13.heap[gb125]? = some (.cells #[.int .i64 0, .int .i64 0, .slice none 0 0, .slice none 0 0] 58 (0, 0))) := ⟨by rw [← hq_]; exact kS⟩; replace HB : Aside0 (Below w.heap.size w w13) := ⟨by rw [← hq_]; exact bS⟩; clear hq_)); have hz14 := cz4 BK125))
   refine bodyPost_ret (results_ct rfl _ _ gb125 58 #[.int .i64 0, .int .i64 0, .slice none 0 0, .slice none 0 0] (0, 0) _ rfl kS Try.underlying58 rfl (by kernel_rfl)) rfl ?_
   exact ⟨_, _, eS, by first | exact Kd.S_nil _ _ _ _ _ | exact Kd.N_nil _ _ _ _ _ | exact Kd.V_nil _ _ _ _ _ | exact Kd.Q_nil _ _ _ _ _ | exact Kd.R_nil _ _ _ _ _, by first | exact Kd.S_nil _ _ _ _ _ | exact Kd.N_nil _ _ _ _ _ | exact Kd.V_nil _ _ _ _ _ | exact Kd.Q_nil _ _ _ _ _ | exact Kd.R_nil _ _ _ _ _, bS⟩
 ·obtain rfl := Bool.eq_false_iff.mpr c4
  rw [if_neg nF] at H
  obtain ⟨rfl, rfl, rfl, rfl, rfl⟩ := sI5 H
  go_enter Try.func68, Try.ntmps68
  go_wp2_with (first | ((with_reducible refine gD 4 ?_); refine bxE #[.int .i64 0, .int .i64 0, .slice none 0 0, .slice none 0 0] 58 ?_; intro gb125 hg w15 BK125 hb; have GW125 := gE hg; have GE125 := gE hg; replace HB := hB hb; clear hb hg) | ((with_reducible refine gC 20 ?_); refine cL (some 7) Try.func20 #[.int .i64 a0] ?_; (with_reducible refine (impl_IsHeight.calls a0 _ _ A3.out).mono ?_); rintro e w' ⟨rfl, ⟨nd, rfl⟩⟩; refine ⟨_, rfl, ?_⟩; (try (rw [drewN_self w15]; generalize hq_ : World.drewN w15 _ = w15; replace BK125 : Aside0 (w15.heap[gb125]? = some (.cells #[.int .i64 0, .int .i64 0, .slice none 0 0, .slice none 0 0] 58 (0, 0))) := ⟨by rw [← hq_]; exact kS⟩; replace HB : Aside0 (Below w.heap.size w w15) := ⟨by rw [← hq_]; exact bS⟩; clear hq_)); have hz16 := cz4 BK125))
  refine bodyPost_ret (results_ct rfl _ _ gb125 58 #[.int .i64 0, .int .i64 0, .slice none 0 0, .slice none 0 0] (0, 0) _ rfl kS Try.underlying58 rfl (by kernel_rfl)) rfl ?_
  exact ⟨_, _, eS, by first | exact Kd.S_nil _ _ _ _ _ | exact Kd.N_nil _ _ _ _ _ | exact Kd.V_nil _ _ _ _ _ | exact Kd.Q_nil _ _ _ _ _ | exact Kd.R_nil _ _ _ _ _, by first | exact Kd.S_nil _ _ _ _ _ | exact Kd.N_nil _ _ _ _ _ | exact Kd.V_nil _ _ _ _ _ | exact Kd.Q_nil _ _ _ _ _ | exact Kd.R_nil _ _ _ _ _, bS⟩

/-! ### impl_coordOk: function 157 -/
def impl_coordOk.f (a0 : Int) : Option (Bool) := (impl_within.f a0 (-200) 200).bind fun t132 => (some t132)
theorem impl_coordOk.calls (a0 : Int) (r : Bool) (w : World) (h : impl_coordOk.f a0 = some r) :
  Calls Try.prog 157 #[.int .i64 a0] w fun e w' => e = .returned (.bool r) ∧ Drawn0 w w' := by
 have H : ((impl_within.f a0 (-200) 200).bind fun t132 => (some t132)) = some r := h
 clear h
 replace H := bN H
 obtain ⟨t132, A2, H⟩ := H
 obtain rfl := Option.some.inj H
 go_enter Try.func157, Try.ntmps157
 go_wp2_with (first | ((with_reducible refine gC 126 ?_); refine cL (some 4) Try.func126 #[.int .i64 a0, .int .i64 (-200), .int .i64 200] ?_; (with_reducible refine (impl_within.calls a0 (-200) 200 t132 _ A2.out).mono ?_); rintro e w' ⟨rfl, ⟨nd, rfl⟩⟩; refine ⟨_, rfl, ?_⟩))
 go_ret
 exact ⟨fS, dS⟩

/-! ### impl_PointOk: function 188 -/
def impl_PointOk.f (a0_0 : Int) (a0_1 : Int) : Option (Bool) := (impl_coordOk.f a0_0).bind fun t134 => (if t134 = true then ((impl_coordOk.f a0_1).bind fun t135 => (some t135)) else (some false))
theorem impl_PointOk.lf0 {p : Prop} (h : p := by
 go_enter Try.func188, Try.ntmps188
 go_wp2_with (first | ((with_reducible refine gD 1 ?_); refine bxE #[.int .i64 a0_0, .int .i64 a0_1] 171 ?_; intro gb133 hg w5 BK133 hb; have GW133 := gE hg; have GE133 := gE hg; replace HB := hB hb; clear hb hg; have hz6 := cz2 BK133) | ((with_reducible refine gC 157 ?_); refine cL (some 5) Try.func157 #[.int .i64 a0_0] ?_; (with_reducible refine (impl_coordOk.calls a0_0 _ _ A2.out).mono ?_); rintro e w' ⟨rfl, ⟨nd, rfl⟩⟩; refine ⟨_, rfl, ?_⟩) | (go_at_call 157; (with_reducible refine (impl_coordOk.calls a0_1 t135 _ A4.out).mono ?_); rintro e w' ⟨rfl, ⟨nd, rfl⟩⟩))
 go_ret
 exact ⟨eS, bS⟩) : p := h
theorem impl_PointOk.calls (a0_0 : Int) (a0_1 : Int) (r : Bool) (w : World) (h : impl_PointOk.f a0_0 a0_1 = some r) :
  Calls Try.prog 188 #[.agg #[.int .i64 a0_0, .int .i64 a0_1]] w fun e w' => e = .returned (.bool r) ∧ Below w.heap.size w w' := by
 have hu171 := Try.underlying171
 have HB := Aside0.mk (Below.refl w.heap.size w)
 have H : ((impl_coordOk.f a0_0).bind fun t134 => (if t134 = true then ((impl_coordOk.f a0_1).bind fun t135 => (some t135)) else (some false))) = some r := h
 clear h
 replace H := bN H
 obtain ⟨t134, A2, H⟩ := H
 by_cases c3 : t134 = true
 ·subst c3
  rw [if_pos rfl] at H
  replace H := bN H
  obtain ⟨t135, A4, H⟩ := H
  obtain rfl := Option.some.inj H
  exact impl_PointOk.lf0
 ·obtain rfl := Bool.eq_false_iff.mpr c3
  rw [if_neg nF] at H
  obtain rfl := Option.some.inj H
  exact impl_PointOk.lf0

/-! ### impl_pointsOk: function 151 -/
def impl_pointsOk.l0 : Nat → List (S171) → Int → Int → Option (Bool)
 | 0, _, _, _ => none
 | k + 1, x5, x6, x7 => if x7 < x6 then (if 0 ≤ x7 then (if x7 < (x5.length : Int) then ((impl_PointOk.f ((rd_T171 x5 x7).f0) ((rd_T171 x5 x7).f1)).bind fun t138 => (if t138 = true then (impl_pointsOk.l0 k x5 x6 (wrap64 (x7 + 1))) else (some false))) else (none)) else (none)) else (some true)
def impl_pointsOk.f (k : Nat) (l0 : List (S171)) : Option (Bool) := impl_pointsOk.l0 k l0 (l0.length : Int) 0
theorem impl_pointsOk.calls (k : Nat) (A0 : Option Addr) (c0 : Nat) (l0 : List (S171)) (r : Bool) (w : World) (hr0 : Kd.C k171 w A0 l0.length l0) (hc0 : l0.length ≤ c0) (h : impl_pointsOk.f k l0 = some r) :
  Calls Try.prog 151 #[.slice A0 l0.length c0] w fun e w' => e = .returned (.bool r) ∧ Below w.heap.size w w' := by
 have hu171 := Try.underlying171
 have HR0 := Aside0.mk hr0
 have HC0 := Aside0.mk hc0
 clear hr0 hc0
 have HB := Aside0.mk (Below.refl w.heap.size w)
 have H : (impl_pointsOk.l0 k l0 (l0.length : Int) 0) = some r := h
 clear h
 have H' := Aside0.mk H
 clear H
 go_enter Try.func151, Try.ntmps151
 go_wp2
 go_loopg [7] k (fun kq v7 w' => ∃ (x7_1 : Int), v7 = .int .i64 x7_1 ∧ Aside0 (impl_pointsOk.l0 kq l0 (l0.length : Int) x7_1 = some r) ∧ Aside0 (kq ≤ k) ∧ Aside0 (Below w.heap.size w w'))
 case atStart => exact ⟨(0), fS, H', ⟨Nat.le_refl _⟩, ⟨bS⟩⟩
 case round =>
  clear H'
  try clear c1
  obtain ⟨x7_1, rfl, HA, HK1, HB⟩ := hrel
  cases gk with
  | zero => exact absurd HA.out (by simp [impl_pointsOk.l0])
  | succ k1 =>
   have H := HA.out
   clear HA
   simp only [impl_pointsOk.l0] at H
   rcases iD H with ⟨c2b0, H⟩ | ⟨c2b0, H⟩
   ·obtain ⟨c3b0, H⟩ := iT H
    obtain ⟨c4b0, H⟩ := iT H
    replace H := bN H
    obtain ⟨t138, A5, H⟩ := H
    by_cases c6 : t138 = true
    ·subst c6
     rw [if_pos rfl] at H
     have H' := Aside0.mk H
     clear H
     have p136 : 0 ≤ (x7_1 : Int) := dA
     have q136 : x7_1 < (l0.length : Int) := dA
     obtain ⟨ad136, e136, hx136_0, hx136_1⟩ := at_T171 HR0.out x7_1 p136 q136
     cases e136
     replace hx136_0 := cB HB hx136_0
     replace hx136_1 := cB HB hx136_1
     replace p136 := eq_true p136
     replace q136 := eq_true q136
     go_wp2_with (first | ((with_reducible refine gD 4 ?_); refine bxE #[.int .i64 0, .int .i64 0] 171 ?_; intro gb137 hg w7 BK137 hb; have GW137 := gE hg; have GE137 := gE hg; replace HB := hB hb; clear hb hg; have hz8 := cz2 BK137) | ((with_reducible refine gC 188 ?_); refine cL (some 12) Try.func188 #[.agg #[.int .i64 ((rd_T171 l0 x7_1).f0), .int .i64 ((rd_T171 l0 x7_1).f1)]] ?_; (with_reducible refine (impl_PointOk.calls ((rd_T171 l0 x7_1).f0) ((rd_T171 l0 x7_1).f1) _ _ A5.out).mono ?_); rintro e w9 ⟨rfl, hb⟩; refine ⟨_, rfl, ?_⟩; replace BK137 := Aside0.mk (blk_below (g := gb137) (o := .cells #[.int .i64 ((rd_T171 l0 x7_1).f0), .int .i64 ((rd_T171 l0 x7_1).f1)] 171 (0, 0)) kS hb); replace HB := hB hb; (try clear hb); (try clear hb2); (try clear hk); (try clear hi)))
     go_roundg k1
     case measure => have := HK1.out; omega
     case rel => exact ⟨(wrap64 (x7_1 + 1)), fS, H', ⟨by have := HK1.out; omega⟩, ⟨bS⟩⟩
    ·obtain rfl := Bool.eq_false_iff.mpr c6
     rw [if_neg nF] at H
     obtain rfl := Option.some.inj H
     have p136 : 0 ≤ (x7_1 : Int) := dA
     have q136 : x7_1 < (l0.length : Int) := dA
     obtain ⟨ad136, e136, hx136_0, hx136_1⟩ := at_T171 HR0.out x7_1 p136 q136
     cases e136
     replace hx136_0 := cB HB hx136_0
     replace hx136_1 := cB HB hx136_1
     replace p136 := eq_true p136
     replace q136 := eq_true q136
     go_wp2_with (first | ((with_reducible refine gD 4 ?_); refine bxE #[.int .i64 0, .int .i64 0] 171 ?_; intro gb137 hg w10 BK137 hb; have GW137 := gE hg; have GE137 := gE hg; replace HB := hB hb; clear hb hg; have hz11 := cz2 BK137) | ((with_reducible refine gC 188 ?_); refine cL (some 12) Try.func188 #[.agg #[.int .i64 ((rd_T171 l0 x7_1).f0), .int .i64 ((rd_T171 l0 x7_1).f1)]] ?_; (with_reducible refine (impl_PointOk.calls ((rd_T171 l0 x7_1).f0) ((rd_T171 l0 x7_1).f1) _ _ A5.out).mono ?_); rintro e w12 ⟨rfl, hb⟩; refine ⟨_, rfl, ?_⟩; replace BK137 := Aside0.mk (blk_below (g := gb137) (o := .cells #[.int .i64 ((rd_T171 l0 x7_1).f0), .int .i64 ((rd_T171 l0 x7_1).f1)] 171 (0, 0)) kS hb); replace HB := hB hb; (try clear hb); (try clear hb2); (try clear hk); (try clear hi)))
     go_ret
     exact ⟨eS, bS⟩
   ·obtain rfl := Option.some.inj H
    go_wp2
    go_ret
    exact ⟨eS, bS⟩

/-! ### impl_BoxOk: function 152 -/
def impl_BoxOk.f (a0_0 : Int) (a0_1 : Int) (a0_2 : Int) (a0_3 : Int) : Option (Bool) := (impl_coordOk.f a0_0).bind fun t140 => (if t140 = true then ((impl_coordOk.f a0_1).bind fun t141 => (if t141 = true then ((impl_coordOk.f a0_2).bind fun t142 => (if t142 = true then ((impl_coordOk.f a0_3).bind fun t143 => (if t143 = true then (if a0_0 ≤ a0_2 then (some (decide (a0_1 ≤ a0_3))) else (some false)) else (some false))) else (some false))) else (some false))) else (some false))
theorem impl_BoxOk.lf0 {p : Prop} (h : p := by
 go_enter Try.func152, Try.ntmps152
 go_wp2_with (first | ((with_reducible refine gD 1 ?_); refine bxE #[.int .i64 a0_0, .int .i64 a0_1, .int .i64 a0_2, .int .i64 a0_3] 43 ?_; intro gb139 hg w11 BK139 hb; have GW139 := gE hg; have GE139 := gE hg; replace HB := hB hb; clear hb hg; have hz12 := cz4 BK139) | ((with_reducible refine gC 157 ?_); refine cL (some 5) Try.func157 #[.int .i64 a0_0] ?_; (with_reducible refine (impl_coordOk.calls a0_0 _ _ A2.out).mono ?_); rintro e w' ⟨rfl, ⟨nd, rfl⟩⟩; refine ⟨_, rfl, ?_⟩) | (go_at_call 157; (with_reducible refine (impl_coordOk.calls a0_1 _ _ A4.out).mono ?_); rintro e w' ⟨rfl, ⟨nd, rfl⟩⟩) | (go_at_call 157; (with_reducible refine (impl_coordOk.calls a0_2 _ _ A6.out).mono ?_); rintro e w' ⟨rfl, ⟨nd, rfl⟩⟩) | (go_at_call 157; (with_reducible refine (impl_coordOk.calls a0_3 _ _ A8.out).mono ?_); rintro e w' ⟨rfl, ⟨nd, rfl⟩⟩))
 go_ret
 exact ⟨eS, bS⟩) : p := h
theorem impl_BoxOk.calls (a0_0 : Int) (a0_1 : Int) (a0_2 : Int) (a0_3 : Int) (r : Bool) (w : World) (h : impl_BoxOk.f a0_0 a0_1 a0_2 a0_3 = some r) :
  Calls Try.prog 152 #[.agg #[.int .i64 a0_0, .int .i64 a0_1, .int .i64 a0_2, .int .i64 a0_3]] w fun e w' => e = .returned (.bool r) ∧ Below w.heap.size w w' := by
 have hu43 := Try.underlying43
 have HB := Aside0.mk (Below.refl w.heap.size w)
 have H : ((impl_coordOk.f a0_0).bind fun t140 => (if t140 = true then ((impl_coordOk.f a0_1).bind fun t141 => (if t141 = true then ((impl_coordOk.f a0_2).bind fun t142 => (if t142 = true then ((impl_coordOk.f a0_3).bind fun t143 => (if t143 = true then (if a0_0 ≤ a0_2 then (some (decide (a0_1 ≤ a0_3))) else (some false)) else (some false))) else (some false))) else (some false))) else (some false))) = some r := h
 clear h
 replace H := bN H
 obtain ⟨t140, A2, H⟩ := H
 by_cases c3 : t140 = true
 ·subst c3
  rw [if_pos rfl] at H
  replace H := bN H
  obtain ⟨t141, A4, H⟩ := H
  by_cases c5 : t141 = true
  ·subst c5
   rw [if_pos rfl] at H
   replace H := bN H
   obtain ⟨t142, A6, H⟩ := H
   by_cases c7 : t142 = true
   ·subst c7
    rw [if_pos rfl] at H
    replace H := bN H
    obtain ⟨t143, A8, H⟩ := H
    by_cases c9 : t143 = true
    ·subst c9
     rw [if_pos rfl] at H
     rcases iD H with ⟨c10b0, H⟩ | ⟨c10b0, H⟩
     ·obtain rfl := Option.some.inj H
      exact impl_BoxOk.lf0
     ·obtain rfl := Option.some.inj H
      exact impl_BoxOk.lf0
    ·obtain rfl := Bool.eq_false_iff.mpr c9
     rw [if_neg nF] at H
     obtain rfl := Option.some.inj H
     exact impl_BoxOk.lf0
   ·obtain rfl := Bool.eq_false_iff.mpr c7
    rw [if_neg nF] at H
    obtain rfl := Option.some.inj H
    exact impl_BoxOk.lf0
  ·obtain rfl := Bool.eq_false_iff.mpr c5
   rw [if_neg nF] at H
   obtain rfl := Option.some.inj H
   exact impl_BoxOk.lf0
 ·obtain rfl := Bool.eq_false_iff.mpr c3
  rw [if_neg nF] at H
  obtain rfl := Option.some.inj H
  exact impl_BoxOk.lf0

/-! ### impl_ObjectOk: function 87 -/
def impl_ObjectOk.f (k : Nat) (l0_0 : List (S171)) (a0_1 : Int) (a0_2 : Int) (a0_3 : Int) (a0_4 : Int) (a0_5 : Int) : Option (Bool) := (impl_within.f (l0_0.length : Int) 3 8).bind fun t145 => (if t145 = true then ((impl_pointsOk.f k l0_0).bind fun t146 => (if t146 = true then ((impl_within.f a0_1 0 255).bind fun t147 => (if t147 = true then ((impl_BoxOk.f a0_2 a0_3 a0_4 a0_5).bind fun t148 => (some t148)) else (some false))) else (some false))) else (some false))
theorem impl_ObjectOk.lf0 {p : Prop} (h : p := by
 go_enter Try.func87, Try.ntmps87
 go_wp2_with (first | ((with_reducible refine gD 1 ?_); refine bxE #[.slice A0_0 l0_0.length c0_0, .int .i64 a0_1, .int .i64 a0_2, .int .i64 a0_3, .int .i64 a0_4, .int .i64 a0_5] 45 ?_; intro gb144 hg w9 BK144 hb; have GW144 := gE hg; have GE144 := gE hg; replace HB := hB hb; clear hb hg; have hz10 := cz6 BK144) | ((with_reducible refine gC 126 ?_); refine cL (some 6) Try.func126 #[.int .i64 (l0_0.length : Int), .int .i64 3, .int .i64 8] ?_; (with_reducible refine (impl_within.calls (l0_0.length : Int) 3 8 _ _ A2.out).mono ?_); rintro e w' ⟨rfl, ⟨nd, rfl⟩⟩; refine ⟨_, rfl, ?_⟩) | (go_at_call 151; (with_reducible refine (impl_pointsOk.calls k _ _ l0_0 _ _ (cS (Kd.C_below HR0_0.out bS)) HC0_0.out A4.out).mono ?_); rintro e w11 ⟨rfl, hb⟩; replace BK144 := kB (g := gb144) hb; replace HB := hB hb; (try clear hb); (try clear hb2); (try clear hk); (try clear hi); have hz12 := cz6 BK144) | (go_at_call 126; (with_reducible refine (impl_within.calls a0_1 0 255 _ _ A6.out).mono ?_); rintro e w' ⟨rfl, ⟨nd, rfl⟩⟩) | (go_at_call 152; (with_reducible refine (impl_BoxOk.calls a0_2 a0_3 a0_4 a0_5 t148 _ A8.out).mono ?_); rintro e w13 ⟨rfl, hb⟩; replace BK144 := kB (g := gb144) hb; replace HB := hB hb; (try clear hb); (try clear hb2); (try clear hk); (try clear hi)))
 go_ret
 exact ⟨eS, bS⟩) : p := h
theorem impl_ObjectOk.calls (k : Nat) (A0_0 : Option Addr) (c0_0 : Nat) (l0_0 : List (S171)) (a0_1 : Int) (a0_2 : Int) (a0_3 : Int) (a0_4 : Int) (a0_5 : Int) (r : Bool) (w : World) (hr0_0 : Kd.C k171 w A0_0 l0_0.length l0_0) (hc0_0 : l0_0.length ≤ c0_0) (h : impl_ObjectOk.f k l0_0 a0_1 a0_2 a0_3 a0_4 a0_5 = some r) :
  Calls Try.prog 87 #[.agg #[.slice A0_0 l0_0.length c0_0, .int .i64 a0_1, .int .i64 a0_2, .int .i64 a0_3, .int .i64 a0_4, .int .i64 a0_5]] w fun e w' => e = .returned (.bool r) ∧ Below w.heap.size w w' := by
 have hu45 := Try.underlying45
 have hu43 := Try.underlying43
 have HR0_0 := Aside0.mk hr0_0
 have HC0_0 := Aside0.mk hc0_0
 clear hr0_0 hc0_0
 have HB := Aside0.mk (Below.refl w.heap.size w)
 have H : ((impl_within.f (l0_0.length : Int) 3 8).bind fun t145 => (if t145 = true then ((impl_pointsOk.f k l0_0).bind fun t146 => (if t146 = true then ((impl_within.f a0_1 0 255).bind fun t147 => (if t147 = true then ((impl_BoxOk.f a0_2 a0_3 a0_4 a0_5).bind fun t148 => (some t148)) else (some false))) else (some false))) else (some false))) = some r := h
 clear h
 replace H := bN H
 obtain ⟨t145, A2, H⟩ := H
 by_cases c3 : t145 = true
 ·subst c3
  rw [if_pos rfl] at H
  replace H := bN H
  obtain ⟨t146, A4, H⟩ := H
  by_cases c5 : t146 = true
  ·subst c5
   rw [if_pos rfl] at H
   replace H := bN H
   obtain ⟨t147, A6, H⟩ := H
   by_cases c7 : t147 = true
   ·subst c7
    rw [if_pos rfl] at H
    replace H := bN H
    obtain ⟨t148, A8, H⟩ := H
    obtain rfl := Option.some.inj H
    exact impl_ObjectOk.lf0
   ·obtain rfl := Bool.eq_false_iff.mpr c7
    rw [if_neg nF] at H
    obtain rfl := Option.some.inj H
    exact impl_ObjectOk.lf0
  ·obtain rfl := Bool.eq_false_iff.mpr c5
   rw [if_neg nF] at H
   obtain rfl := Option.some.inj H
   go_enter Try.func87, Try.ntmps87
   go_wp2_with (first | ((with_reducible refine gD 1 ?_); refine bxE #[.slice A0_0 l0_0.length c0_0, .int .i64 a0_1, .int .i64 a0_2, .int .i64 a0_3, .int .i64 a0_4, .int .i64 a0_5] 45 ?_; intro gb144 hg w18 BK144 hb; have GW144 := gE hg; have GE144 := gE hg; replace HB := hB hb; clear hb hg; have hz19 := cz6 BK144) | ((with_reducible refine gC 126 ?_); refine cL (some 6) Try.func126 #[.int .i64 (l0_0.length : Int), .int .i64 3, .int .i64 8] ?_; (with_reducible refine (impl_within.calls (l0_0.length : Int) 3 8 _ _ A2.out).mono ?_); rintro e w' ⟨rfl, ⟨nd, rfl⟩⟩; refine ⟨_, rfl, ?_⟩) | (go_at_call 151; (with_reducible refine (impl_pointsOk.calls k _ _ l0_0 _ _ (cS (Kd.C_below HR0_0.out bS)) HC0_0.out A4.out).mono ?_); rintro e w20 ⟨rfl, hb⟩; replace BK144 := kB (g := gb144) hb; replace HB := hB hb; (try clear hb); (try clear hb2); (try clear hk); (try clear hi)))
   go_ret
   exact ⟨eS, bS⟩
 ·obtain rfl := Bool.eq_false_iff.mpr c3
  rw [if_neg nF] at H
  obtain rfl := Option.some.inj H
  exact impl_ObjectOk.lf0

/-! ### impl_objectsOk: function 73 -/
def impl_objectsOk.l0 : Nat → List (S45) → Int → Int → Option (Bool)
 | 0, _, _, _ => none
 | k + 1, x5, x6, x7 => if x7 < x6 then (if 0 ≤ x7 then (if x7 < (x5.length : Int) then ((impl_ObjectOk.f k ((rd_T45 x5 x7).f0) ((rd_T45 x5 x7).f1) ((rd_T45 x5 x7).f2.f0) ((rd_T45 x5 x7).f2.f1) ((rd_T45 x5 x7).f2.f2) ((rd_T45 x5 x7).f2.f3)).bind fun t151 => (if t151 = true then (impl_objectsOk.l0 k x5 x6 (wrap64 (x7 + 1))) else (some false))) else (none)) else (none)) else (some true)
def impl_objectsOk.f (k : Nat) (l0 : List (S45)) : Option (Bool) := impl_objectsOk.l0 k l0 (l0.length : Int) 0
theorem impl_objectsOk.calls (k : Nat) (A0 : Option Addr) (c0 : Nat) (l0 : List (S45)) (r : Bool) (w : World) (hr0 : Kd.C k45 w A0 l0.length l0) (hc0 : l0.length ≤ c0) (h : impl_objectsOk.f k l0 = some r) :
  Calls Try.prog 73 #[.slice A0 l0.length c0] w fun e w' => e = .returned (.bool r) ∧ Below w.heap.size w w' := by
 have hu45 := Try.underlying45
 have HR0 := Aside0.mk hr0
 have HC0 := Aside0.mk hc0
 clear hr0 hc0
 have HB := Aside0.mk (Below.refl w.heap.size w)
 have H : (impl_objectsOk.l0 k l0 (l0.length : Int) 0) = some r := h
 clear h
 have H' := Aside0.mk H
 clear H
 go_enter Try.func73, Try.ntmps73
 go_wp2
 go_loopg [7] k (fun kq v7 w' => ∃ (x7_1 : Int), v7 = .int .i64 x7_1 ∧ Aside0 (impl_objectsOk.l0 kq l0 (l0.length : Int) x7_1 = some r) ∧ Aside0 (kq ≤ k) ∧ Aside0 (Below w.heap.size w w'))
 case atStart => exact ⟨(0), fS, H', ⟨Nat.le_refl _⟩, ⟨bS⟩⟩
 case round =>
  clear H'
  obtain ⟨x7_1, rfl, HA, HK1, HB⟩ := hrel
  cases gk with
  | zero => exact absurd HA.out (by simp [impl_objectsOk.l0])
  | succ k1 =>
   have H := HA.out
   clear HA
   simp only [impl_objectsOk.l0] at H
   rcases iD H with ⟨c2b0, H⟩ | ⟨c2b0, H⟩
   ·obtain ⟨c3b0, H⟩ := iT H
    obtain ⟨c4b0, H⟩ := iT H
    replace H := bN H
    obtain ⟨t151, A5, H⟩ := H
    by_cases c6 : t151 = true
    ·subst c6
     rw [if_pos rfl] at H
     have H' := Aside0.mk H
     clear H
     have p149 : 0 ≤ (x7_1 : Int) := dA
     have q149 : x7_1 < (l0.length : Int) := dA
     obtain ⟨ad149, A149_0, c149_0, e149, hx149_0, hx149_1, hx149_2, hx149_3, hx149_4, hx149_5, hl149_0, hi149_0⟩ := at_T45 HR0.out x7_1 p149 q149
     cases e149
     replace hx149_0 := cB HB hx149_0
     replace hx149_1 := cB HB hx149_1
     replace hx149_2 := cB HB hx149_2
     replace hx149_3 := cB HB hx149_3
     replace hx149_4 := cB HB hx149_4
     replace hx149_5 := cB HB hx149_5
     have HR149_0 := Aside0.mk hi149_0
     have HC149_0 := Aside0.mk hl149_0
     clear hi149_0 hl149_0
     replace p149 := eq_true p149
     replace q149 := eq_true q149
     go_wp2_with (first | ((with_reducible refine gD 4 ?_); refine bxE #[.slice none 0 0, .int .i64 0, .int .i64 0, .int .i64 0, .int .i64 0, .int .i64 0] 45 ?_; intro gb150 hg w7 BK150 hb; have GW150 := gE hg; have GE150 := gE hg; replace HB := hB hb; clear hb hg; have hz8 := cz6 BK150) | ((with_reducible refine gC 87 ?_); refine cL (some 12) Try.func87 #[.agg #[.slice A149_0 ((rd_T45 l0 x7_1).f0).length c149_0, .int .i64 ((rd_T45 l0 x7_1).f1), .int .i64 ((rd_T45 l0 x7_1).f2.f0), .int .i64 ((rd_T45 l0 x7_1).f2.f1), .int .i64 ((rd_T45 l0 x7_1).f2.f2), .int .i64 ((rd_T45 l0 x7_1).f2.f3)]] ?_; (with_reducible refine (impl_ObjectOk.calls k1 _ _ ((rd_T45 l0 x7_1).f0) ((rd_T45 l0 x7_1).f1) ((rd_T45 l0 x7_1).f2.f0) ((rd_T45 l0 x7_1).f2.f1) ((rd_T45 l0 x7_1).f2.f2) ((rd_T45 l0 x7_1).f2.f3) _ _ (Kd.C_below HR149_0.out bS) HC149_0.out A5.out).mono ?_); rintro e w9 ⟨rfl, hb⟩; refine ⟨_, rfl, ?_⟩; replace BK150 := Aside0.mk (blk_below (g := gb150) (o := .cells #[.slice A149_0 ((rd_T45 l0 x7_1).f0).length c149_0, .int .i64 ((rd_T45 l0 x7_1).f1), .int .i64 ((rd_T45 l0 x7_1).f2.f0), .int .i64 ((rd_T45 l0 x7_1).f2.f1), .int .i64 ((rd_T45 l0 x7_1).f2.f2), .int .i64 ((rd_T45 l0 x7_1).f2.f3)] 45 (0, 0)) kS hb); replace HB := hB hb; (try clear hb); (try clear hb2); (try clear hk); (try clear hi)))
     go_roundg k1
     case measure => have := HK1.out; omega
     case rel => exact ⟨(wrap64 (x7_1 + 1)), fS, H', ⟨by have := HK1.out; omega⟩, ⟨bS⟩⟩
    ·obtain rfl := Bool.eq_false_iff.mpr c6
     rw [if_neg nF] at H
     obtain rfl := Option.some.inj H
     have p149 : 0 ≤ (x7_1 : Int) := dA
     have q149 : x7_1 < (l0.length : Int) := dA
     obtain ⟨ad149, A149_0, c149_0, e149, hx149_0, hx149_1, hx149_2, hx149_3, hx149_4, hx149_5, hl149_0, hi149_0⟩ := at_T45 HR0.out x7_1 p149 q149
     cases e149
     replace hx149_0 := cB HB hx149_0
     replace hx149_1 := cB HB hx149_1
     replace hx149_2 := cB HB hx149_2
     replace hx149_3 := cB HB hx149_3
     replace hx149_4 := cB HB hx149_4
     replace hx149_5 := cB HB hx149_5
     have HR149_0 := Aside0.mk hi149_0
     have HC149_0 := Aside0.mk hl149_0
     clear hi149_0 hl149_0
     replace p149 := eq_true p149
     replace q149 := eq_true q149
     go_wp2_with (first | ((with_reducible refine gD 4 ?_); refine bxE #[.slice none 0 0, .int .i64 0, .int .i64 0, .int .i64 0, .int .i64 0, .int .i64 0] 45 ?_; intro gb150 hg w10 BK150 hb; have GW150 := gE hg; have GE150 := gE hg; replace HB := hB hb; clear hb hg; have hz11 := cz6 BK150) | ((with_reducible refine gC 87 ?_); refine cL (some 12) Try.func87 #[.agg #[.slice A149_0 ((rd_T45 l0 x7_1).f0).length c149_0, .int .i64 ((rd_T45 l0 x7_1).f1), .int .i64 ((rd_T45 l0 x7_1).f2.f0), .int .i64 ((rd_T45 l0 x7_1).f2.f1), .int .i64 ((rd_T45 l0 x7_1).f2.f2), .int .i64 ((rd_T45 l0 x7_1).f2.f3)]] ?_; (with_reducible refine (impl_ObjectOk.calls k1 _ _ ((rd_T45 l0 x7_1).f0) ((rd_T45 l0 x7_1).f1) ((rd_T45 l0 x7_1).f2.f0) ((rd_T45 l0 x7_1).f2.f1) ((rd_T45 l0 x7_1).f2.f2) ((rd_T45 l0 x7_1).f2.f3) _ _ (Kd.C_below HR149_0.out bS) HC149_0.out A5.out).mono ?_); rintro e w12 ⟨rfl, hb⟩; refine ⟨_, rfl, ?_⟩; replace BK150 := Aside0.mk (blk_below (g := gb150) (o := .cells #[.slice A149_0 ((rd_T45 l0 x7_1).f0).length c149_0, .int .i64 ((rd_T45 l0 x7_1).f1), .int .i64 ((rd_T45 l0 x7_1).f2.f0), .int .i64 ((rd_T45 l0 x7_1).f2.f1), .int .i64 ((rd_T45 l0 x7_1).f2.f2), .int .i64 ((rd_T45 l0 x7_1).f2.f3)] 45 (0, 0)) kS hb); replace HB := hB hb; (try clear hb); (try clear hb2); (try clear hk); (try clear hi)))
     go_ret
     exact ⟨eS, bS⟩
   ·obtain rfl := Option.some.inj H
    go_wp2
    go_ret
    exact ⟨eS, bS⟩

/-! ### impl_rowOk: function 162 -/
def impl_rowOk.l0 : Nat → List Int → Int → Int → Option (Bool)
 | 0, _, _, _ => none
 | k + 1, x8, x9, x10 => if x10 < x9 then (if 0 ≤ x10 then (if x10 < (x8.length : Int) then ((impl_within.f (rd x8 x10) 0 255).bind fun t153 => (if t153 = true then (impl_rowOk.l0 k x8 x9 (wrap64 (x10 + 1))) else (some false))) else (none)) else (none)) else (some true)
def impl_rowOk.f (k : Nat) (l0 : List Int) : Option (Bool) := if (l0.length : Int) = 32 then (impl_rowOk.l0 k l0 (l0.length : Int) 0) else (some false)
theorem impl_rowOk.calls (k : Nat) (A0 : Option Addr) (c0 : Nat) (l0 : List Int) (r : Bool) (w : World) (hr0 : Kd.C (Kd.int .i64) w A0 l0.length l0) (hc0 : l0.length ≤ c0) (h : impl_rowOk.f k l0 = some r) :
  Calls Try.prog 162 #[.slice A0 l0.length c0] w fun e w' => e = .returned (.bool r) ∧ Drawn0 w w' := by
 have HR0 := Aside0.mk hr0
 have HC0 := Aside0.mk hc0
 clear hr0 hc0
 have H : (if (l0.length : Int) = 32 then (impl_rowOk.l0 k l0 (l0.length : Int) 0) else (some false)) = some r := h
 clear h
 by_cases c2 : (l0.length : Int) = 32
 ·rw [if_pos c2] at H
  have c2b0 : ((l0.length : Int) == 32) = true := beq_iff_eq.mpr c2
  have c2b1 : ((l0.length : Int) != 32) = false := bne_eq_false_iff_eq.mpr c2
  clear c2
  have H' := Aside0.mk H
  clear H
  go_enter Try.func162, Try.ntmps162
  go_wp2
  go_loopg [10] k (fun kq v10 w' => ∃ (x10_1 : Int), v10 = .int .i64 x10_1 ∧ Aside0 (impl_rowOk.l0 kq l0 (l0.length : Int) x10_1 = some r) ∧ Aside0 (kq ≤ k) ∧ Drawn0 w w')
  case atStart => exact ⟨(0), fS, H', ⟨Nat.le_refl _⟩, dS⟩
  case round =>
   clear H'
   try clear c1
   try clear c2
   try clear c2b0
   try clear c2b1
   try clear p2
   obtain ⟨x10_1, rfl, HA, HK1, ⟨m1, rfl⟩⟩ := hrel
   cases gk with
   | zero => exact absurd HA.out (by simp [impl_rowOk.l0])
   | succ k1 =>
    have H := HA.out
    clear HA
    simp only [impl_rowOk.l0] at H
    rcases iD H with ⟨c3b0, H⟩ | ⟨c3b0, H⟩
    ·obtain ⟨c4b0, H⟩ := iT H
     obtain ⟨c5b0, H⟩ := iT H
     replace H := bN H
     obtain ⟨t153, A6, H⟩ := H
     by_cases c7 : t153 = true
     ·subst c7
      rw [if_pos rfl] at H
      have H' := Aside0.mk H
      clear H
      have p152 : 0 ≤ (x10_1 : Int) := dA
      have q152 : x10_1 < (l0.length : Int) := dA
      obtain ⟨ad152, e152, hx152_0⟩ := Kd.at_int HR0.out x10_1 p152 q152
      cases e152
      replace p152 := eq_true p152
      replace q152 := eq_true q152
      go_wp2_with (first | ((with_reducible refine gC 126 ?_); refine cL (some 15) Try.func126 #[.int .i64 (rd l0 x10_1), .int .i64 0, .int .i64 255] ?_; (with_reducible refine (impl_within.calls (rd l0 x10_1) 0 255 _ _ A6.out).mono ?_); rintro e w' ⟨rfl, ⟨nd, rfl⟩⟩; refine ⟨_, rfl, ?_⟩))
      go_roundg k1
      case measure => have := HK1.out; omega
      case rel => exact ⟨(wrap64 (x10_1 + 1)), fS, H', ⟨by have := HK1.out; omega⟩, dS⟩
     ·obtain rfl := Bool.eq_false_iff.mpr c7
      rw [if_neg nF] at H
      obtain rfl := Option.some.inj H
      have p152 : 0 ≤ (x10_1 : Int) := dA
      have q152 : x10_1 < (l0.length : Int) := dA
      obtain ⟨ad152, e152, hx152_0⟩ := Kd.at_int HR0.out x10_1 p152 q152
      cases e152
      replace p152 := eq_true p152
      replace q152 := eq_true q152
      go_wp2_with (first | ((with_reducible refine gC 126 ?_); refine cL (some 15) Try.func126 #[.int .i64 (rd l0 x10_1), .int .i64 0, .int .i64 255] ?_; (with_reducible refine (impl_within.calls (rd l0 x10_1) 0 255 _ _ A6.out).mono ?_); rintro e w' ⟨rfl, ⟨nd, rfl⟩⟩; refine ⟨_, rfl, ?_⟩))
      go_ret
      exact ⟨fS, dS⟩
    ·obtain rfl := Option.some.inj H
     go_wp2
     go_ret
     exact ⟨fS, dS⟩
 ·rw [if_neg c2] at H
  have c2b0 : ((l0.length : Int) == 32) = false := beq_eq_false_iff_ne.mpr c2
  have c2b1 : ((l0.length : Int) != 32) = true := bne_iff_ne.mpr c2
  obtain rfl := Option.some.inj H
  go_enter Try.func162, Try.ntmps162
  go_wp2
  go_ret
  exact ⟨fS, dS⟩

/-! ### impl_RowsOk: function 99 -/
def impl_RowsOk.l0 : Nat → List (List Int) → Int → Int → Option (Bool)
 | 0, _, _, _ => none
 | k + 1, x8, x9, x10 => if x10 < x9 then (if 0 ≤ x10 then (if x10 < (x8.length : Int) then ((impl_rowOk.f k (rd_L2 x8 x10)).bind fun t155 => (if t155 = true then (impl_RowsOk.l0 k x8 x9 (wrap64 (x10 + 1))) else (some false))) else (none)) else (none)) else (some true)
def impl_RowsOk.f (k : Nat) (l0 : List (List Int)) : Option (Bool) := if (l0.length : Int) > 32 then (some false) else (impl_RowsOk.l0 k l0 (l0.length : Int) 0)
theorem impl_RowsOk.calls (k : Nat) (A0 : Option Addr) (c0 : Nat) (l0 : List (List Int)) (r : Bool) (w : World) (hr0 : Kd.C (Kd.slice 3 (Kd.int .i64)) w A0 l0.length l0) (hc0 : l0.length ≤ c0) (h : impl_RowsOk.f k l0 = some r) :
  Calls Try.prog 99 #[.slice A0 l0.length c0] w fun e w' => e = .returned (.bool r) ∧ Drawn0 w w' := by
 have HR0 := Aside0.mk hr0
 have HC0 := Aside0.mk hc0
 clear hr0 hc0
 have H : (if (l0.length : Int) > 32 then (some false) else (impl_RowsOk.l0 k l0 (l0.length : Int) 0)) = some r := h
 clear h
 by_cases c2 : (l0.length : Int) > 32
 ·rw [if_pos c2] at H
  have c2b0 : decide (32 < (l0.length : Int)) = true := decide_eq_true c2
  have c2b1 : decide (32 < l0.length) = true := decide_eq_true (by omega)
  clear c2
  obtain rfl := Option.some.inj H
  go_enter Try.func99, Try.ntmps99
  go_wp2
  go_ret
  exact ⟨fS, dS⟩
 ·rw [if_neg c2] at H
  have c2b0 : decide (32 < (l0.length : Int)) = false := decide_eq_false c2
  have c2b1 : decide (32 < l0.length) = false := decide_eq_false (by omega)
  clear c2
  have H' := Aside0.mk H
  clear H
  go_enter Try.func99, Try.ntmps99
  go_wp2
  go_loopg [10] k (fun kq v10 w' => ∃ (x10_1 : Int), v10 = .int .i64 x10_1 ∧ Aside0 (impl_RowsOk.l0 kq l0 (l0.length : Int) x10_1 = some r) ∧ Aside0 (kq ≤ k) ∧ Drawn0 w w')
  case atStart => exact ⟨(0), fS, H', ⟨Nat.le_refl _⟩, dS⟩
  case round =>
   clear H'
   try clear c2
   try clear c2b0
   try clear c2b1
   try clear p2
   obtain ⟨x10_1, rfl, HA, HK1, ⟨m1, rfl⟩⟩ := hrel
   cases gk with
   | zero => exact absurd HA.out (by simp [impl_RowsOk.l0])
   | succ k1 =>
    have H := HA.out
    clear HA
    simp only [impl_RowsOk.l0] at H
    rcases iD H with ⟨c3b0, H⟩ | ⟨c3b0, H⟩
    ·obtain ⟨c4b0, H⟩ := iT H
     obtain ⟨c5b0, H⟩ := iT H
     replace H := bN H
     obtain ⟨t155, A6, H⟩ := H
     by_cases c7 : t155 = true
     ·subst c7
      rw [if_pos rfl] at H
      have H' := Aside0.mk H
      clear H
      have p154 : 0 ≤ (x10_1 : Int) := dA
      have q154 : x10_1 < (l0.length : Int) := dA
      obtain ⟨ad154, A154_0, c154_0, e154, hx154_0, hl154_0, hi154_0⟩ := at_L2 HR0.out x10_1 p154 q154
      cases e154
      have HR154_0 := Aside0.mk hi154_0
      have HC154_0 := Aside0.mk hl154_0
      clear hi154_0 hl154_0
      replace p154 := eq_true p154
      replace q154 := eq_true q154
      go_wp2_with (first | ((with_reducible refine gC 162 ?_); refine cL (some 15) Try.func162 #[.slice A154_0 (rd_L2 l0 x10_1).length c154_0] ?_; (with_reducible refine (impl_rowOk.calls k1 _ _ (rd_L2 l0 x10_1) _ _ ?side1 ?side2 A6.out).mono ?_); (case side1 => repeat (first | exact HR154_0.out | (with_reducible refine Kd.C_alloc ?_ _) | (with_reducible refine Kd.C_drewN ?_ _) | (with_reducible refine Kd.C_drew ?_))); (case side2 => exact HC154_0.out); rintro e w' ⟨rfl, ⟨nd, rfl⟩⟩; refine ⟨_, rfl, ?_⟩))
      go_roundg k1
      case measure => have := HK1.out; omega
      case rel => exact ⟨(wrap64 (x10_1 + 1)), fS, H', ⟨by have := HK1.out; omega⟩, dS⟩
     ·obtain rfl := Bool.eq_false_iff.mpr c7
      rw [if_neg nF] at H
      obtain rfl := Option.some.inj H
      have p154 : 0 ≤ (x10_1 : Int) := dA
      have q154 : x10_1 < (l0.length : Int) := dA
      obtain ⟨ad154, A154_0, c154_0, e154, hx154_0, hl154_0, hi154_0⟩ := at_L2 HR0.out x10_1 p154 q154
      cases e154
      have HR154_0 := Aside0.mk hi154_0
      have HC154_0 := Aside0.mk hl154_0
      clear hi154_0 hl154_0
      replace p154 := eq_true p154
      replace q154 := eq_true q154
      go_wp2_with (first | ((with_reducible refine gC 162 ?_); refine cL (some 15) Try.func162 #[.slice A154_0 (rd_L2 l0 x10_1).length c154_0] ?_; (with_reducible refine (impl_rowOk.calls k1 _ _ (rd_L2 l0 x10_1) _ _ ?side1 ?side2 A6.out).mono ?_); (case side1 => repeat (first | exact HR154_0.out | (with_reducible refine Kd.C_alloc ?_ _) | (with_reducible refine Kd.C_drewN ?_ _) | (with_reducible refine Kd.C_drew ?_))); (case side2 => exact HC154_0.out); rintro e w' ⟨rfl, ⟨nd, rfl⟩⟩; refine ⟨_, rfl, ?_⟩))
      go_ret
      exact ⟨fS, dS⟩
    ·obtain rfl := Option.some.inj H
     go_wp2
     go_ret
     exact ⟨fS, dS⟩

/-! ### impl_BandOk: function 35 -/
def impl_BandOk.f (k : Nat) (a0_0 : Int) (a0_1 : Int) (l0_2 : List (List Int)) (l0_3 : List (S45)) : Option (Bool) := (impl_NewBand.f k a0_0 a0_1).bind fun bt157 => (if bt157.2.2.2.2 = true then (if (l0_2.length : Int) = a0_0 then ((impl_RowsOk.f k l0_2).bind fun t167 => (if t167 = true then ((impl_objectsOk.f k l0_3).bind fun t168 => (if t168 = true then ((impl_BandCells.f k a0_0 a0_1 l0_2 l0_3).bind fun t169 => (some (decide (t169 ≤ 60)))) else (some false))) else (some false))) else (some false)) else (some false))
theorem impl_BandOk.lf0 {p : Prop} (h : p := by
 go_enter Try.func35, Try.ntmps35
 go_wp2_with (first | ((with_reducible refine gD 1 ?_); refine bxE #[.int .i64 a0_0, .int .i64 a0_1, .slice A0_2 l0_2.length c0_2, .slice A0_3 l0_3.length c0_3] 58 ?_; intro gb156 hg w10 BK156 hb; have GW156 := gE hg; have GE156 := gE hg; replace HB := hB hb; clear hb hg; have hz11 := cz4 BK156) | ((with_reducible refine gC 68 ?_); refine cL (some 10) Try.func68 #[.int .i64 a0_0, .int .i64 a0_1] ?_; (with_reducible refine (impl_NewBand.calls k a0_0 a0_1 t157 t158 t159 t162 _ _ A2.out).mono ?_); rintro e w12 ⟨v160, v163, rfl, ho0, ho1, hb⟩; refine ⟨_, rfl, ?_⟩; have HO161 := Aside0.mk (Kd.S_lower ho0 (below_size bS)); have HO164 := Aside0.mk (Kd.S_lower ho1 (below_size bS)); replace BK156 := kB (g := gb156) hb; replace HB := hB hb; (try clear hb); (try clear hb2); (try clear hk); (try clear hi); (try clear ho0); (try clear ho1)) | ((with_reducible refine gD 3 ?_); refine bxE #[.int .i64 0, .int .i64 0, .slice none 0 0, .slice none 0 0] 58 ?_; intro gb166 hg w13 BK166 hb; have GW166 := gE hg; have GE166 := gE hg; have NB156_166 := nL (g := gb156) hg; have NB166_156 := nG (g := gb156) hg; replace HO161 := sB HO161 hb; replace HO164 := sB HO164 hb; replace BK156 := kB (g := gb156) hb; replace HB := hB hb; clear hb hg; have hnb14 := NB166_156.out; have hnc14 := NB156_166.out; have hz15 := cz4 BK166; obtain ⟨Ao16, co16, eo16⟩ := Kd.S_slice HO161.out; subst eo16; obtain ⟨Ao17, co17, eo17⟩ := Kd.S_slice HO164.out; subst eo17; have hz18 := cz4 BK156) | (go_at_call 99; (with_reducible refine (impl_RowsOk.calls k _ _ l0_2 _ _ (Kd.C_below HR0_2.out bS) HC0_2.out A5.out).mono ?_); rintro e w' ⟨rfl, ⟨nd, rfl⟩⟩) | (go_at_call 73; (with_reducible refine (impl_objectsOk.calls k _ _ l0_3 _ _ (Kd.C_below HR0_3.out bS) HC0_3.out A7.out).mono ?_); rintro e w19 ⟨rfl, hb⟩; replace HO161 := Aside0.mk (Kd.S_below (by exact sT (Kd.S_mono (Kd.S_far (p := ⟨gb166, 3, none⟩) (Kd.S_far (p := ⟨gb166, 2, none⟩) (Kd.S_far (p := ⟨gb166, 1, none⟩) (Kd.S_far (p := ⟨gb166, 0, none⟩) (Kd.S_types HO161.out BK166.out (by decide)) (fun _ hk => hk.2) (.int .i64 t157)) (fun _ hk => hk.2) (.int .i64 t158)) (fun _ hk => hk.2) (.slice Ao16 t159.length co16)) (fun _ hk => hk.2) (.slice Ao17 t162.length co17)) (fun _ h_ => h_.1))) hb); replace HO164 := Aside0.mk (Kd.S_below (by exact sT (Kd.S_mono (Kd.S_far (p := ⟨gb166, 3, none⟩) (Kd.S_far (p := ⟨gb166, 2, none⟩) (Kd.S_far (p := ⟨gb166, 1, none⟩) (Kd.S_far (p := ⟨gb166, 0, none⟩) (Kd.S_types HO164.out BK166.out (by decide)) (fun _ hk => hk.2) (.int .i64 t157)) (fun _ hk => hk.2) (.int .i64 t158)) (fun _ hk => hk.2) (.slice Ao16 t159.length co16)) (fun _ hk => hk.2) (.slice Ao17 t162.length co17)) (fun _ h_ => h_.1))) hb); replace BK156 := kB (g := gb156) hb; replace BK166 := Aside0.mk (blk_below (g := gb166) (o := .cells #[.int .i64 t157, .int .i64 t158, .slice Ao16 t159.length co16, .slice Ao17 t162.length co17] 58 (0, 0)) kS hb); replace HB := hB hb; (try clear hb); (try clear hb2); (try clear hk); (try clear hi); have hz20 := cz4 BK156) | (go_at_call 63; (with_reducible refine (impl_BandCells.calls k a0_0 a0_1 _ _ l0_2 _ _ l0_3 t169 _ (cS (Kd.C_below HR0_2.out HB.out)) HC0_2.out (cS (Kd.C_below HR0_3.out HB.out)) HC0_3.out A9.out).mono ?_); rintro e w21 ⟨rfl, hb⟩; replace HO161 := sB HO161 hb; replace HO164 := sB HO164 hb; replace BK156 := kB (g := gb156) hb; replace BK166 := kB (g := gb166) hb; replace HB := hB hb; (try clear hb); (try clear hb2); (try clear hk); (try clear hi)))
 go_ret
 exact ⟨eS, bS⟩) : p := h
theorem impl_BandOk.calls (k : Nat) (a0_0 : Int) (a0_1 : Int) (A0_2 : Option Addr) (c0_2 : Nat) (l0_2 : List (List Int)) (A0_3 : Option Addr) (c0_3 : Nat) (l0_3 : List (S45)) (r : Bool) (w : World) (hr0_2 : Kd.C (Kd.slice 3 (Kd.int .i64)) w A0_2 l0_2.length l0_2) (hc0_2 : l0_2.length ≤ c0_2) (hr0_3 : Kd.C k45 w A0_3 l0_3.length l0_3) (hc0_3 : l0_3.length ≤ c0_3) (h : impl_BandOk.f k a0_0 a0_1 l0_2 l0_3 = some r) :
  Calls Try.prog 35 #[.agg #[.int .i64 a0_0, .int .i64 a0_1, .slice A0_2 l0_2.length c0_2, .slice A0_3 l0_3.length c0_3]] w fun e w' => e = .returned (.bool r) ∧ Below w.heap.size w w' := by
 have hu58 := Try.underlying58
 have HR0_2 := Aside0.mk hr0_2
 have HC0_2 := Aside0.mk hc0_2
 clear hr0_2 hc0_2
 have HR0_3 := Aside0.mk hr0_3
 have HC0_3 := Aside0.mk hc0_3
 clear hr0_3 hc0_3
 have HB := Aside0.mk (Below.refl w.heap.size w)
 have H : ((impl_NewBand.f k a0_0 a0_1).bind fun bt157 => (if bt157.2.2.2.2 = true then (if (l0_2.length : Int) = a0_0 then ((impl_RowsOk.f k l0_2).bind fun t167 => (if t167 = true then ((impl_objectsOk.f k l0_3).bind fun t168 => (if t168 = true then ((impl_BandCells.f k a0_0 a0_1 l0_2 l0_3).bind fun t169 => (some (decide (t169 ≤ 60)))) else (some false))) else (some false))) else (some false)) else (some false))) = some r := h
 clear h
 replace H := bN H
 obtain ⟨⟨t157, t158, t159, t162, t165⟩, A2, H⟩ := H
 by_cases c3 : t165 = true
 ·subst c3
  rw [if_pos rfl] at H
  by_cases c4 : (l0_2.length : Int) = a0_0
  ·rw [if_pos c4] at H
   have c4b0 : ((l0_2.length : Int) == a0_0) = true := beq_iff_eq.mpr c4
   have c4b1 : ((l0_2.length : Int) != a0_0) = false := bne_eq_false_iff_eq.mpr c4
   clear c4
   replace H := bN H
   obtain ⟨t167, A5, H⟩ := H
   by_cases c6 : t167 = true
   ·subst c6
    rw [if_pos rfl] at H
    replace H := bN H
    obtain ⟨t168, A7, H⟩ := H
    by_cases c8 : t168 = true
    ·subst c8
     rw [if_pos rfl] at H
     replace H := bN H
     obtain ⟨t169, A9, H⟩ := H
     obtain rfl := Option.some.inj H
     exact impl_BandOk.lf0
    ·obtain rfl := Bool.eq_false_iff.mpr c8
     rw [if_neg nF] at H
     obtain rfl := Option.some.inj H
     go_enter Try.func35, Try.ntmps35
     go_wp2_with (first | ((with_reducible refine gD 1 ?_); refine bxE #[.int .i64 a0_0, .int .i64 a0_1, .slice A0_2 l0_2.length c0_2, .slice A0_3 l0_3.length c0_3] 58 ?_; intro gb156 hg w22 BK156 hb; have GW156 := gE hg; have GE156 := gE hg; replace HB := hB hb; clear hb hg; have hz23 := cz4 BK156) | ((with_reducible refine gC 68 ?_); refine cL (some 10) Try.func68 #[.int .i64 a0_0, .int .i64 a0_1] ?_; (with_reducible refine (impl_NewBand.calls k a0_0 a0_1 t157 t158 t159 t162 _ _ A2.out).mono ?_); rintro e w24 ⟨v160, v163, rfl, ho0, ho1, hb⟩; refine ⟨_, rfl, ?_⟩; have HO161 := Aside0.mk (Kd.S_lower ho0 (below_size bS)); have HO164 := Aside0.mk (Kd.S_lower ho1 (below_size bS)); replace BK156 := kB (g := gb156) hb; replace HB := hB hb; (try clear hb); (try clear hb2); (try clear hk); (try clear hi); (try clear ho0); (try clear ho1)) | ((with_reducible refine gD 3 ?_); refine bxE #[.int .i64 0, .int .i64 0, .slice none 0 0, .slice none 0 0] 58 ?_; intro gb166 hg w25 BK166 hb; have GW166 := gE hg; have GE166 := gE hg; have NB156_166 := nL (g := gb156) hg; have NB166_156 := nG (g := gb156) hg; replace HO161 := sB HO161 hb; replace HO164 := sB HO164 hb; replace BK156 := kB (g := gb156) hb; replace HB := hB hb; clear hb hg; have hnb26 := NB166_156.out; have hnc26 := NB156_166.out; have hz27 := cz4 BK166; obtain ⟨Ao28, co28, eo28⟩ := Kd.S_slice HO161.out; subst eo28; obtain ⟨Ao29, co29, eo29⟩ := Kd.S_slice HO164.out; subst eo29; have hz30 := cz4 BK156) | (go_at_call 99; (with_reducible refine (impl_RowsOk.calls k _ _ l0_2 _ _ (Kd.C_below HR0_2.out bS) HC0_2.out A5.out).mono ?_); rintro e w' ⟨rfl, ⟨nd, rfl⟩⟩) | (go_at_call 73; (with_reducible refine (impl_objectsOk.calls k _ _ l0_3 _ _ (Kd.C_below HR0_3.out bS) HC0_3.out A7.out).mono ?_); rintro e w31 ⟨rfl, hb⟩; replace HO161 := Aside0.mk (Kd.S_below (by exact sT (Kd.S_mono (Kd.S_far (p := ⟨gb166, 3, none⟩) (Kd.S_far (p := ⟨gb166, 2, none⟩) (Kd.S_far (p := ⟨gb166, 1, none⟩) (Kd.S_far (p := ⟨gb166, 0, none⟩) (Kd.S_types HO161.out BK166.out (by decide)) (fun _ hk => hk.2) (.int .i64 t157)) (fun _ hk => hk.2) (.int .i64 t158)) (fun _ hk => hk.2) (.slice Ao28 t159.length co28)) (fun _ hk => hk.2) (.slice Ao29 t162.length co29)) (fun _ h_ => h_.1))) hb); replace HO164 := Aside0.mk (Kd.S_below (by exact sT (Kd.S_mono (Kd.S_far (p := ⟨gb166, 3, none⟩) (Kd.S_far (p := ⟨gb166, 2, none⟩) (Kd.S_far (p := ⟨gb166, 1, none⟩) (Kd.S_far (p := ⟨gb166, 0, none⟩) (Kd.S_types HO164.out BK166.out (by decide)) (fun _ hk => hk.2) (.int .i64 t157)) (fun _ hk => hk.2) (.int .i64 t158)) (fun _ hk => hk.2) (.slice Ao28 t159.length co28)) (fun _ hk => hk.2) (.slice Ao29 t162.length co29)) (fun _ h_ => h_.1))) hb); replace BK156 := kB (g := gb156) hb; replace BK166 := Aside0.mk (blk_below (g := gb166) (o := .cells #[.int .i64 t157, .int .i64 t158, .slice Ao28 t159.length co28, .slice Ao29 t162.length co29] 58 (0, 0)) kS hb); replace HB := hB hb; (try clear hb); (try clear hb2); (try clear hk); (try clear hi)))
     go_ret
     exact ⟨eS, bS⟩
   ·obtain rfl := Bool.eq_false_iff.mpr c6
    rw [if_neg nF] at H
    obtain rfl := Option.some.inj H
    exact impl_BandOk.lf0
  ·rw [if_neg c4] at H
   have c4b0 : ((l0_2.length : Int) == a0_0) = false := beq_eq_false_iff_ne.mpr c4
   have c4b1 : ((l0_2.length : Int) != a0_0) = true := bne_iff_ne.mpr c4
   obtain rfl := Option.some.inj H
   exact impl_BandOk.lf0
 ·obtain rfl := Bool.eq_false_iff.mpr c3
  rw [if_neg nF] at H
  obtain rfl := Option.some.inj H
  go_enter Try.func35, Try.ntmps35
  go_wp2_with (first | ((with_reducible refine gD 1 ?_); refine bxE #[.int .i64 a0_0, .int .i64 a0_1, .slice A0_2 l0_2.length c0_2, .slice A0_3 l0_3.length c0_3] 58 ?_; intro gb156 hg w50 BK156 hb; have GW156 := gE hg; have GE156 := gE hg; replace HB := hB hb; clear hb hg; have hz51 := cz4 BK156) | ((with_reducible refine gC 68 ?_); refine cL (some 10) Try.func68 #[.int .i64 a0_0, .int .i64 a0_1] ?_; (with_reducible refine (impl_NewBand.calls k a0_0 a0_1 t157 t158 t159 t162 _ _ A2.out).mono ?_); rintro e w52 ⟨v160, v163, rfl, ho0, ho1, hb⟩; refine ⟨_, rfl, ?_⟩; have HO161 := Aside0.mk (Kd.S_lower ho0 (below_size bS)); have HO164 := Aside0.mk (Kd.S_lower ho1 (below_size bS)); replace BK156 := kB (g := gb156) hb; replace HB := hB hb; (try clear hb); (try clear hb2); (try clear hk); (try clear hi); (try clear ho0); (try clear ho1)) | ((with_reducible refine gD 3 ?_); refine bxE #[.int .i64 0, .int .i64 0, .slice none 0 0, .slice none 0 0] 58 ?_; intro gb166 hg w53 BK166 hb; have GW166 := gE hg; have GE166 := gE hg; have NB156_166 := nL (g := gb156) hg; have NB166_156 := nG (g := gb156) hg; replace HO161 := sB HO161 hb; replace HO164 := sB HO164 hb; replace BK156 := kB (g := gb156) hb; replace HB := hB hb; clear hb hg; have hnb54 := NB166_156.out; have hnc54 := NB156_166.out; have hz55 := cz4 BK166; obtain ⟨Ao56, co56, eo56⟩ := Kd.S_slice HO161.out; subst eo56; obtain ⟨Ao57, co57, eo57⟩ := Kd.S_slice HO164.out; subst eo57))
  go_ret
  exact ⟨eS, bS⟩

end Go.Proofs.Ytigodjcnkgebaaa.QFnMerges
