-- Made out of the translation by a program of this session (a changed copy of the print). Not trusted: Lean checks it.
import Derived.Test.YtcalgoembdmlkaaQFnRunsx0
import Derived.Test.YtcalgoembdmlkaaQFnRunsx1
import Derived.Test.YtcalgoembdmlkaaQFnRunsx2
namespace Go.Proofs.Ytcalgoembdmlkaa.QFnRuns
open Go.RowKit Go.Proofs.YtcalgoembdmlkaaW.PrintWords Go.Proofs.YtcalgoembdmlkaaW.PrintLast Go.Proofs.YtcalgoembdmlkaaW.PrintMore
attribute [local go_sem] max2_int min2_int max_two min_two max_three min_three max_four min_four   -- for this text's walks alone
set_option linter.unusedVariables false
set_option linter.unusedSimpArgs false
set_option maxHeartbeats 8000000
set_option maxRecDepth 100000

/-! ### impl_RunAt: function 31 -/
mutual
def impl_RunAt.j0 : Nat → List (S112) → Int → Bool → Option (Int)
 | 0, _, _, _ => none
 | k + 1, x0, x1, x13 => if x13 = true then (some (-1)) else (impl_RunAt.l0 k x1 x0 (x0.length : Int) 0)
def impl_RunAt.l0 : Nat → Int → List (S112) → Int → Int → Option (Int)
 | 0, _, _, _, _ => none
 | k + 1, x1, x14, x15, x16 => if x16 < x15 then (if 0 ≤ x16 then (if x16 < (x14.length : Int) then (if x1 < ((rd_T112 x14 x16).f1) then (some ((rd_T112 x14 x16).f0)) else (impl_RunAt.l0 k (wrap64 (x1 - ((rd_T112 x14 x16).f1))) x14 x15 (wrap64 (x16 + 1)))) else (none)) else (none)) else (some (-1))
end
def impl_RunAt.f (k : Nat) (l0 : List (S112)) (a1 : Int) : Option (Int) := if a1 < 0 then (impl_RunAt.j0 k l0 a1 true) else ((impl_RunsOk.f k l0).bind fun t234 => (impl_RunAt.j0 k l0 a1 (!t234)))
theorem impl_RunAt.calls (k : Nat) (A0 : Option Addr) (c0 : Nat) (l0 : List (S112)) (a1 : Int) (r : Int) (w : World) (hr0 : Kd.C k112 w A0 l0.length l0) (hc0 : l0.length ≤ c0) (h : impl_RunAt.f k l0 a1 = some r) :
  Calls Try.prog 31 #[.slice A0 l0.length c0, .int .i64 a1] w fun e w' => e = .returned (.int .i64 r) ∧ Below w.heap.size w w' := by
 have hu112 := Try.underlying112
 have HR0 := Aside0.mk hr0
 have HC0 := Aside0.mk hc0
 clear hr0 hc0
 have HB := Aside0.mk (Below.refl w.heap.size w)
 have H : (if a1 < 0 then (impl_RunAt.j0 k l0 a1 true) else ((impl_RunsOk.f k l0).bind fun t234 => (impl_RunAt.j0 k l0 a1 (!t234)))) = some r := h
 clear h
 have HC3 := Aside0.mk H
 clear H
 go_enter Try.func31, Try.ntmps31
 go_upto_region 1 with (fail)
 go_cut [13] (fun v13 wc => ∃ (kq : Nat) (x13_2 : Bool), v13 = .bool x13_2 ∧ Aside0 (impl_RunAt.j0 kq l0 a1 x13_2 = some r) ∧ Aside0 (kq ≤ k) ∧ Aside0 (Below w.heap.size w wc))
 case first =>
  have H := HC3.out
  clear HC3
  rcases iD H with ⟨c4b0, H⟩ | ⟨c4b0, H⟩
  ·(first | rw [c4b0] | (simp only [i64_w, i32_w]; rw [c4b0]) | skip)
   have H' := Aside0.mk H
   clear H
   go_wp2
   go_meet
   case rel => exact ⟨_, (true), fS, H', ⟨by first | omega | exact Nat.le_refl _⟩, ⟨bS⟩⟩
  ·(first | rw [c4b0] | (simp only [i64_w, i32_w]; rw [c4b0]) | skip)
   replace H := bN H
   obtain ⟨t234, A5, H⟩ := H
   have H' := Aside0.mk H
   clear H
   go_wp2_with (first | (go_at_call 28; (with_reducible refine (impl_RunsOk.calls k _ _ l0 t234 _ (cS (Kd.C_below HR0.out HB.out)) HC0.out A5.out).mono ?_); rintro e w6 ⟨rfl, hb⟩; replace HB := hB hb; (try clear hb); (try clear hb2); (try clear hk); (try clear hi)))
   go_meet
   case rel => exact ⟨_, (!t234), fS, H', ⟨by first | omega | exact Nat.le_refl _⟩, ⟨bS⟩⟩
 case rest =>
  clear HC3
  try clear p2
  try clear c3
  try clear c4
  try clear c4b0
  obtain ⟨kq, x13_2, rfl, HA, HJ2, HB⟩ := hcut
  cases kq with
  | zero => exact absurd HA.out (by simp [impl_RunAt.j0])
  | succ kj2 =>
   have H := HA.out
   clear HA
   simp only [impl_RunAt.j0] at H
   by_cases c7 : x13_2 = true
   ·subst c7
    rw [if_pos rfl] at H
    obtain rfl := Option.some.inj H
    go_wp2
    go_ret
    exact ⟨eS, bS⟩
   ·obtain rfl := Bool.eq_false_iff.mpr c7
    rw [if_neg nF] at H
    have H' := Aside0.mk H
    clear H
    go_wp2
    go_loopg [1, 16] kj2 (fun kq v1 v16 w' => ∃ (x1_2 : Int) (x16_2 : Int), v1 = .int .i64 x1_2 ∧ v16 = .int .i64 x16_2 ∧ Aside0 (impl_RunAt.l0 kq x1_2 l0 (l0.length : Int) x16_2 = some r) ∧ Aside0 (kq ≤ kj2) ∧ Aside0 (Below w.heap.size w w'))
    case atStart => exact ⟨(a1), (0), fS, fS, H', ⟨Nat.le_refl _⟩, ⟨bS⟩⟩
    case round =>
     clear H'
     try clear p2
     try clear c3
     try clear c4
     try clear c4b0
     try clear c7
     try clear p2
     obtain ⟨x1_2, x16_2, rfl, rfl, HA, HK2, HB⟩ := hrel
     cases gk with
     | zero => exact absurd HA.out (by simp [impl_RunAt.l0])
     | succ k2 =>
      have H := HA.out
      clear HA
      simp only [impl_RunAt.l0] at H
      rcases iD H with ⟨c8b0, H⟩ | ⟨c8b0, H⟩
      ·obtain ⟨c9b0, H⟩ := iT H
       obtain ⟨c10b0, H⟩ := iT H
       rcases iD H with ⟨c11b0, H⟩ | ⟨c11b0, H⟩
       ·obtain rfl := Option.some.inj H
        have p235 : 0 ≤ (x16_2 : Int) := dA
        have q235 : x16_2 < (l0.length : Int) := dA
        obtain ⟨ad235, e235, hx235_0, hx235_1⟩ := at_T112 HR0.out x16_2 p235 q235
        cases e235
        replace hx235_0 := cB HB hx235_0
        replace hx235_1 := cB HB hx235_1
        replace p235 := eq_true p235
        replace q235 := eq_true q235
        go_wp2_with (first | ((with_reducible refine gD 6 ?_); refine bxE #[.int .i64 0, .int .i64 0] 112 ?_; intro gb236 hg w12 BK236 hb; have GW236 := gE hg; have GE236 := gE hg; replace HB := hB hb; clear hb hg; have hz13 := cz2 BK236))
        go_ret
        exact ⟨eS, bS⟩
       ·have H' := Aside0.mk H
        clear H
        have p235 : 0 ≤ (x16_2 : Int) := dA
        have q235 : x16_2 < (l0.length : Int) := dA
        obtain ⟨ad235, e235, hx235_0, hx235_1⟩ := at_T112 HR0.out x16_2 p235 q235
        cases e235
        replace hx235_0 := cB HB hx235_0
        replace hx235_1 := cB HB hx235_1
        replace p235 := eq_true p235
        replace q235 := eq_true q235
        go_wp2_with (first | ((with_reducible refine gD 6 ?_); refine bxE #[.int .i64 0, .int .i64 0] 112 ?_; intro gb236 hg w14 BK236 hb; have GW236 := gE hg; have GE236 := gE hg; replace HB := hB hb; clear hb hg; have hz15 := cz2 BK236))
        go_roundg k2
        case measure => have := HJ2.out; have := HK2.out; omega
        case rel => exact ⟨(wrap64 (x1_2 - ((rd_T112 l0 x16_2).f1))), (wrap64 (x16_2 + 1)), fS, fS, H', ⟨by have := HJ2.out; have := HK2.out; omega⟩, ⟨bS⟩⟩
      ·obtain rfl := Option.some.inj H
       go_wp2
       go_ret
       exact ⟨eS, bS⟩

/-! ### laws_FnRuns: function 4 -/
def laws_FnRuns.j0 : Nat → List Int → List Int → List (S112) → Bool → Option (Bool)
 | 0, _, _, _, _ => none
 | k + 1, x3, x4, x5, x31 => if x31 = true then (some false) else (if (x3.length : Int) = 0 then ((impl_RunAt.f k x5 0).bind fun t253 => (some (t253 == (-1)))) else (if 0 < (x4.length : Int) then ((impl_RunAt.f k x5 (Int.tmod (rd x4 0) (x3.length : Int))).bind fun t255 => (if 0 ≤ (Int.tmod (rd x4 0) (x3.length : Int)) then (if (Int.tmod (rd x4 0) (x3.length : Int)) < (x3.length : Int) then (if t255 = (rd x3 (Int.tmod (rd x4 0) (x3.length : Int))) then ((impl_RunAt.f k x5 (x3.length : Int)).bind fun t257 => (some (t257 == (-1)))) else (some false)) else (none)) else (none))) else (none)))
def laws_FnRuns.f (k : Nat) (l0 : List Int) : Option (Bool) := (laws_big.f l0).bind fun t237 => (if t237 = true then (some true) else ((spec_DrawRow.f k l0).bind fun t238 => ((spec_DrawPlaces.f k l0).bind fun t241 => ((impl_RunsOf.f k t238).bind fun t244 => ((impl_RunsOk.f k t244).bind fun t247 => (if t247 = true then ((impl_RunsLength.f k t244).bind fun t248 => (if t248 = (t238.length : Int) then ((impl_RowOf.f k t244).bind fun t249 => ((laws_sameInts.f k t249 t238).bind fun t252 => (laws_FnRuns.j0 k t238 t241 t244 (!t252)))) else (laws_FnRuns.j0 k t238 t241 t244 true))) else (laws_FnRuns.j0 k t238 t241 t244 true)))))))
def laws_FnRuns.T11 : Bool × List (List Nat × List Nat) := (true, [([], []), ([], []), ([0, 1], [0, 1]), ([], []), ([], []), ([3, 4], [3, 4]), ([5], [5]), ([2, 6], [2, 6]), ([7, 2], [7]), ([8], [8]), ([8], [8]), ([10, 8], [8, 10]), ([9, 11, 8, 8], [8, 9, 11]), ([12, 8], [8, 12]), ([8, 13], [8, 13]), ([14, 12, 0, 1, 2, 3, 4, 5, 6, 7, 8, 9, 10, 11, 12, 13, 14], [14])])
def laws_FnRuns.B11 : List Nat := [0, 0, 3, 0, 0, 24, 56, 127, 255, 511, 511, 1535, 4095, 8191, 16383, 32767]
theorem laws_FnRuns.tab11 : rtab .any (opsOf Try.f4 11) = laws_FnRuns.T11 := by kernel_rfl
theorem laws_FnRuns.bits11 : waitsOk laws_FnRuns.T11.2 laws_FnRuns.B11 = true := by kernel_rfl
theorem laws_FnRuns.calls (k : Nat) (A0 : Option Addr) (c0 : Nat) (l0 : List Int) (r : Bool) (w : World) (hr0 : Kd.C (Kd.int .u8) w A0 l0.length l0) (hc0 : l0.length ≤ c0) (h : laws_FnRuns.f k l0 = some r) (hT : r = true) :
  Calls Try.prog 4 #[.slice A0 l0.length c0] w fun e w' => e = .returned (.bool r) ∧ Below w.heap.size w w' := by
 have HR0 := Aside0.mk hr0
 have HC0 := Aside0.mk hc0
 clear hr0 hc0
 have HB := Aside0.mk (Below.refl w.heap.size w)
 have H : ((laws_big.f l0).bind fun t237 => (if t237 = true then (some true) else ((spec_DrawRow.f k l0).bind fun t238 => ((spec_DrawPlaces.f k l0).bind fun t241 => ((impl_RunsOf.f k t238).bind fun t244 => ((impl_RunsOk.f k t244).bind fun t247 => (if t247 = true then ((impl_RunsLength.f k t244).bind fun t248 => (if t248 = (t238.length : Int) then ((impl_RowOf.f k t244).bind fun t249 => ((laws_sameInts.f k t249 t238).bind fun t252 => (laws_FnRuns.j0 k t238 t241 t244 (!t252)))) else (laws_FnRuns.j0 k t238 t241 t244 true))) else (laws_FnRuns.j0 k t238 t241 t244 true)))))))) = some r := h
 clear h
 replace H := bN H
 obtain ⟨t237, A2, H⟩ := H
 by_cases c3 : t237 = true
 ·subst c3
  rw [if_pos rfl] at H
  obtain rfl := Option.some.inj H
  (try clear hT)
  go_enter Try.func4, Try.ntmps4
  go_wp2_with (first | ((with_reducible refine gC 24 ?_); refine cL (some 8) Try.func24 #[.slice A0 l0.length c0] ?_; (with_reducible refine (laws_big.calls _ _ l0 _ _ ?side1 ?side2 A2.out).mono ?_); (case side1 => repeat (first | exact HR0.out | (with_reducible refine Kd.C_alloc ?_ _) | (with_reducible refine Kd.C_drewN ?_ _) | (with_reducible refine Kd.C_drew ?_))); (case side2 => exact HC0.out); rintro e w' ⟨rfl, ⟨nd, rfl⟩⟩; refine ⟨_, rfl, ?_⟩))
  go_ret
  exact ⟨eS, bS⟩
 ·obtain rfl := Bool.eq_false_iff.mpr c3
  rw [if_neg nF] at H
  replace H := bN H
  obtain ⟨t238, A4, H⟩ := H
  replace H := bN H
  obtain ⟨t241, A5, H⟩ := H
  replace H := bN H
  obtain ⟨t244, A6, H⟩ := H
  have HC7 := Aside0.mk H
  clear H
  go_enter Try.func4, Try.ntmps4
  go_upto_region 6 with (first | ((with_reducible refine gC 24 ?_); refine cL (some 8) Try.func24 #[.slice A0 l0.length c0] ?_; (with_reducible refine (laws_big.calls _ _ l0 _ _ ?side1 ?side2 A2.out).mono ?_); (case side1 => repeat (first | exact HR0.out | (with_reducible refine Kd.C_alloc ?_ _) | (with_reducible refine Kd.C_drewN ?_ _) | (with_reducible refine Kd.C_drew ?_))); (case side2 => exact HC0.out); rintro e w' ⟨rfl, ⟨nd, rfl⟩⟩; refine ⟨_, rfl, ?_⟩) | ((with_reducible refine gC 25 ?_); refine cL (some 10) Try.func25 #[.slice A0 l0.length c0] ?_; (with_reducible refine (spec_DrawRow.calls k _ _ l0 t238 _ ?side1 ?side2 A4.out).mono ?_); (case side1 => repeat (first | exact HR0.out | (with_reducible refine Kd.C_alloc ?_ _) | (with_reducible refine Kd.C_drewN ?_ _) | (with_reducible refine Kd.C_drew ?_))); (case side2 => exact HC0.out); rintro e w8 ⟨v239, rfl, ho0, hb⟩; refine ⟨_, rfl, ?_⟩; have HO240 := Aside0.mk (Kd.R_lower ho0 (below_size bS)); replace HB := hB hb; (try clear hb); (try clear hb2); (try clear hk); (try clear hi); (try clear ho0)) | ((with_reducible refine gC 26 ?_); refine cL (some 12) Try.func26 #[.slice A0 l0.length c0] ?_; (with_reducible refine (spec_DrawPlaces.calls k _ _ l0 t241 _ (cS (Kd.C_below HR0.out HB.out)) HC0.out A5.out).mono ?_); rintro e w9 ⟨v242, rfl, ho0, hb⟩; refine ⟨_, rfl, ?_⟩; have HO243 := Aside0.mk (Kd.R_lower (Kd.R_new' ho0 (Kd.R_lt (rS HO240))) (below_size bS)); replace HO240 := Aside0.mk (Kd.R_elder' (rS HO240) (Kd.R_base ho0) hb); replace HB := hB hb; (try clear hb); (try clear hb2); (try clear hk); (try clear hi); (try clear ho0); obtain ⟨Ao10, co10, eo10⟩ := Kd.R_slice HO240.out; subst eo10) | ((with_reducible refine gC 27 ?_); refine cL (some 14) Try.func27 #[.slice Ao10 t238.length co10] ?_; (with_reducible refine (impl_RunsOf.calls k _ _ t238 t244 _ (cS (Kd.R_reads' HO240.out).2.2) ((Kd.R_reads' HO240.out).2.1) A6.out).mono ?_); rintro e w11 ⟨v245, rfl, ho0, hb⟩; refine ⟨_, rfl, ?_⟩; have HO246 := Aside0.mk (Kd.R_lower ho0 (below_size bS)); replace HO240 := Aside0.mk (Kd.R_below (rS HO240) hb); replace HO243 := Aside0.mk (Kd.R_below (rS HO243) hb); replace HB := hB hb; (try clear hb); (try clear hb2); (try clear hk); (try clear hi); (try clear ho0)))
  (try simp only [Act.put, List.setIfInBounds_toArray, List.set_cons_zero, List.set_cons_succ])
  go_cut [31] (fun v31 wc => ∃ (kq : Nat) (x31_6 : Bool), v31 = .bool x31_6 ∧ Aside0 (laws_FnRuns.j0 kq t238 t241 t244 x31_6 = some r) ∧ Aside0 (kq ≤ k) ∧ Aside0 (Kd.R (Kd.int .i64) 3 wc w.heap.size (fun k_ => some k_ ≠ (v242 : Value).ownBlock) (.slice Ao10 t238.length co10) t238) ∧ Aside0 (Kd.R (Kd.int .i64) 3 wc w.heap.size (fun k_ => some k_ ≠ ((.slice Ao10 t238.length co10) : Value).ownBlock) v242 t241) ∧ Aside0 (Kd.R k112 112 wc w.heap.size (fun _ => True) v245 t244) ∧ Aside0 (Below w.heap.size w wc))
  case first =>
   have H := HC7.out
   clear HC7
   replace H := bN H
   obtain ⟨t247, A12, H⟩ := H
   by_cases c13 : t247 = true
   ·subst c13
    rw [if_pos rfl] at H
    replace H := bN H
    obtain ⟨t248, A14, H⟩ := H
    by_cases c15 : t248 = (t238.length : Int)
    ·rw [if_pos c15] at H
     have c15b0 : (t248 == (t238.length : Int)) = true := beq_iff_eq.mpr c15
     have c15b1 : (t248 != (t238.length : Int)) = false := bne_eq_false_iff_eq.mpr c15
     clear c15
     (first | rw [c15b0] | (simp only [i64_w, i32_w]; rw [c15b0]) | skip)
     replace H := bN H
     obtain ⟨t249, A16, H⟩ := H
     replace H := bN H
     obtain ⟨t252, A17, H⟩ := H
     have H' := Aside0.mk H
     clear H
     obtain ⟨Ao18, co18, eo18⟩ := Kd.R_slice HO246.out
     subst eo18
     go_wp2_with (first | ((with_reducible refine gC 28 ?_); refine cL (some 16) Try.func28 #[.slice Ao18 t244.length co18] ?_; (with_reducible refine (impl_RunsOk.calls k _ _ t244 _ _ (cS (Kd.R_reads' HO246.out).2.2) ((Kd.R_reads' HO246.out).2.1) A12.out).mono ?_); rintro e w19 ⟨rfl, hb⟩; refine ⟨_, rfl, ?_⟩; replace HO240 := Aside0.mk (Kd.R_below (rS HO240) hb); replace HO243 := Aside0.mk (Kd.R_below (rS HO243) hb); replace HO246 := Aside0.mk (Kd.R_below (rS HO246) hb); replace HB := hB hb; (try clear hb); (try clear hb2); (try clear hk); (try clear hi)) | (go_at_call 29; (with_reducible refine (impl_RunsLength.calls k _ _ t244 t248 _ (cS (Kd.R_reads' HO246.out).2.2) ((Kd.R_reads' HO246.out).2.1) A14.out).mono ?_); rintro e w20 ⟨rfl, hb⟩; replace HO240 := Aside0.mk (Kd.R_below (rS HO240) hb); replace HO243 := Aside0.mk (Kd.R_below (rS HO243) hb); replace HO246 := Aside0.mk (Kd.R_below (rS HO246) hb); replace HB := hB hb; (try clear hb); (try clear hb2); (try clear hk); (try clear hi)) | (go_at_call 18; (with_reducible refine (impl_RowOf.calls k _ _ t244 t249 _ (cS (Kd.R_reads' HO246.out).2.2) ((Kd.R_reads' HO246.out).2.1) A16.out).mono ?_); rintro e w21 ⟨v250, rfl, ho0, hb⟩; have HO251 := Aside0.mk (Kd.R_lower (Kd.R_new' (Kd.R_new' ho0 (Kd.R_lt (rS HO240))) (Kd.R_lt (rS HO243))) (below_size bS)); replace HO240 := Aside0.mk (Kd.R_elder' (rS HO240) (Kd.R_base ho0) hb); replace HO243 := Aside0.mk (Kd.R_elder' (rS HO243) (Kd.R_base ho0) hb); replace HO246 := Aside0.mk (Kd.R_below (rS HO246) hb); replace HB := hB hb; (try clear hb); (try clear hb2); (try clear hk); (try clear hi); (try clear ho0); obtain ⟨Ao22, co22, eo22⟩ := Kd.R_slice HO251.out; subst eo22) | (go_at_call 30; (with_reducible refine (laws_sameInts.calls k _ _ t249 _ _ t238 t252 _ (cS (Kd.R_reads' HO251.out).2.2) ((Kd.R_reads' HO251.out).2.1) (cS (Kd.R_reads' HO240.out).2.2) ((Kd.R_reads' HO240.out).2.1) A17.out).mono ?_); rintro e w' ⟨rfl, ⟨nd, rfl⟩⟩))
     go_meet
     case rel => exact ⟨_, (!t252), fS, H', ⟨by first | omega | exact Nat.le_refl _⟩, ⟨by exact rT (Kd.R_mono HO240.out (fun _ hk => hk.1.2))⟩, ⟨by exact rT (Kd.R_mono HO243.out (fun _ hk => hk.1.2))⟩, ⟨rS HO246⟩, ⟨bS⟩⟩
    ·rw [if_neg c15] at H
     have c15b0 : (t248 == (t238.length : Int)) = false := beq_eq_false_iff_ne.mpr c15
     have c15b1 : (t248 != (t238.length : Int)) = true := bne_iff_ne.mpr c15
     (first | rw [c15b0] | (simp only [i64_w, i32_w]; rw [c15b0]) | skip)
     have H' := Aside0.mk H
     clear H
     obtain ⟨Ao23, co23, eo23⟩ := Kd.R_slice HO246.out
     subst eo23
     go_wp2_with (first | ((with_reducible refine gC 28 ?_); refine cL (some 16) Try.func28 #[.slice Ao23 t244.length co23] ?_; (with_reducible refine (impl_RunsOk.calls k _ _ t244 _ _ (cS (Kd.R_reads' HO246.out).2.2) ((Kd.R_reads' HO246.out).2.1) A12.out).mono ?_); rintro e w24 ⟨rfl, hb⟩; refine ⟨_, rfl, ?_⟩; replace HO240 := Aside0.mk (Kd.R_below (rS HO240) hb); replace HO243 := Aside0.mk (Kd.R_below (rS HO243) hb); replace HO246 := Aside0.mk (Kd.R_below (rS HO246) hb); replace HB := hB hb; (try clear hb); (try clear hb2); (try clear hk); (try clear hi)) | (go_at_call 29; (with_reducible refine (impl_RunsLength.calls k _ _ t244 t248 _ (cS (Kd.R_reads' HO246.out).2.2) ((Kd.R_reads' HO246.out).2.1) A14.out).mono ?_); rintro e w25 ⟨rfl, hb⟩; replace HO240 := Aside0.mk (Kd.R_below (rS HO240) hb); replace HO243 := Aside0.mk (Kd.R_below (rS HO243) hb); replace HO246 := Aside0.mk (Kd.R_below (rS HO246) hb); replace HB := hB hb; (try clear hb); (try clear hb2); (try clear hk); (try clear hi)))
     go_meet
     case rel => exact ⟨_, (true), fS, H', ⟨by first | omega | exact Nat.le_refl _⟩, ⟨by exact rT (Kd.R_mono HO240.out (fun _ hk => hk.2))⟩, ⟨by exact rT (Kd.R_mono HO243.out (fun _ hk => hk.2))⟩, ⟨rS HO246⟩, ⟨bS⟩⟩
   ·obtain rfl := Bool.eq_false_iff.mpr c13
    rw [if_neg nF] at H
    have H' := Aside0.mk H
    clear H
    obtain ⟨Ao26, co26, eo26⟩ := Kd.R_slice HO246.out
    subst eo26
    go_wp2_with (first | ((with_reducible refine gC 28 ?_); refine cL (some 16) Try.func28 #[.slice Ao26 t244.length co26] ?_; (with_reducible refine (impl_RunsOk.calls k _ _ t244 _ _ (cS (Kd.R_reads' HO246.out).2.2) ((Kd.R_reads' HO246.out).2.1) A12.out).mono ?_); rintro e w27 ⟨rfl, hb⟩; refine ⟨_, rfl, ?_⟩; replace HO240 := Aside0.mk (Kd.R_below (rS HO240) hb); replace HO243 := Aside0.mk (Kd.R_below (rS HO243) hb); replace HO246 := Aside0.mk (Kd.R_below (rS HO246) hb); replace HB := hB hb; (try clear hb); (try clear hb2); (try clear hk); (try clear hi)))
    go_meet
    case rel => exact ⟨_, (true), fS, H', ⟨by first | omega | exact Nat.le_refl _⟩, ⟨by exact rT (Kd.R_mono HO240.out (fun _ hk => hk.2))⟩, ⟨by exact rT (Kd.R_mono HO243.out (fun _ hk => hk.2))⟩, ⟨rS HO246⟩, ⟨bS⟩⟩
  case rest =>
   clear HC7
   try clear c1
   try clear c2
   try clear p2
   try clear c3
   try clear c4
   try clear c13
   try clear c15
   try clear c15b0
   try clear c15b1
   try clear c24
   try clear c25
   try clear c26
   try clear c27
   obtain ⟨kq, x31_6, rfl, HA, HJ6, HO_3, HO_4, HO_5, HB⟩ := hcut
   cases kq with
   | zero => exact absurd HA.out (by simp [laws_FnRuns.j0])
   | succ kj6 =>
    have H := HA.out
    clear HA
    simp only [laws_FnRuns.j0] at H
    by_cases c28 : x31_6 = true
    ·subst c28
     rw [if_pos rfl] at H
     exact absurd ((Option.some.inj H).trans hT) (by decide)
    ·obtain rfl := Bool.eq_false_iff.mpr c28
     rw [if_neg nF] at H
     by_cases c29 : (t238.length : Int) = 0
     ·rw [if_pos c29] at H
      have c29b0 : ((t238.length : Int) == 0) = true := beq_iff_eq.mpr c29
      have c29b1 : ((t238.length : Int) != 0) = false := bne_eq_false_iff_eq.mpr c29
      clear c29
      replace H := bN H
      obtain ⟨t253, A30, H⟩ := H
      obtain rfl := Option.some.inj H
      (try clear hT)
      obtain ⟨Ao31, co31, eo31⟩ := Kd.R_slice HO_5.out
      subst eo31
      go_wp2_with (first | ((with_reducible refine gC 31 ?_); refine cL (some 36) Try.func31 #[.slice Ao31 t244.length co31, .int .i64 0] ?_; (with_reducible refine (impl_RunAt.calls kj6 _ _ t244 0 t253 _ (cS (Kd.R_reads' HO_5.out).2.2) ((Kd.R_reads' HO_5.out).2.1) A30.out).mono ?_); rintro e w32 ⟨rfl, hb⟩; refine ⟨_, rfl, ?_⟩; replace HO_3 := Aside0.mk (Kd.R_below (rS HO_3) hb); replace HO_4 := Aside0.mk (Kd.R_below (rS HO_4) hb); replace HO_5 := Aside0.mk (Kd.R_below (rS HO_5) hb); replace HB := hB hb; (try clear hb); (try clear hb2); (try clear hk); (try clear hi)))
      go_ret
      exact ⟨eS, bS⟩
     ·rw [if_neg c29] at H
      have c29b0 : ((t238.length : Int) == 0) = false := beq_eq_false_iff_ne.mpr c29
      have c29b1 : ((t238.length : Int) != 0) = true := bne_iff_ne.mpr c29
      have c29b2 : ¬ (t238 = []) := fun h_ => c29 (by rw [h_]; rfl)
      by_cases c33 : 0 < (t241.length : Int)
      ·rw [if_pos c33] at H
       have c33b0 : decide (0 < (t241.length : Int)) = true := decide_eq_true c33
       have c33b1 : decide (0 < t241.length) = true := decide_eq_true (by omega)
       clear c33
       replace H := bN H
       obtain ⟨t255, A34, H⟩ := H
       obtain ⟨ji35, hji35⟩ : ∃ j_ : Int, (Int.tmod (rd t241 0) (t238.length : Int)) = j_ := ⟨_, rfl⟩
       replace H : (if 0 ≤ (ji35) then (if (ji35) < (t238.length : Int) then (if t255 = (rd t238 (ji35)) then ((impl_RunAt.f kj6 t244 (t238.length : Int)).bind fun t257 => (some (t257 == (-1)))) else (some false)) else (none)) else (none)) = some r := by first | (rw [hji35] at H; exact H) | (simp only [hji35] at H ⊢; exact H)
       (try rw [hji35] at A34)
       obtain ⟨c36b0, H⟩ := iT H
       obtain ⟨c37b0, H⟩ := iT H
       by_cases c38 : t255 = (rd t238 (ji35))
       ·rw [if_pos c38] at H
        have c38b0 : (t255 == (rd t238 (ji35))) = true := beq_iff_eq.mpr c38
        have c38b1 : (t255 != (rd t238 (ji35))) = false := bne_eq_false_iff_eq.mpr c38
        clear c38
        replace H := bN H
        obtain ⟨t257, A39, H⟩ := H
        obtain rfl := Option.some.inj H
        (try clear hT)
        obtain ⟨Ao40, co40, eo40⟩ := Kd.R_slice HO_4.out
        subst eo40
        have p254 : 0 ≤ (0 : Int) := (by omega)
        have q254 : 0 < (t241.length : Int) := dA
        obtain ⟨ad254, e254, hx254_0⟩ := Kd.at_int (Kd.R_reads' HO_4.out).2.2 0 p254 q254
        cases e254
        have qi254 : (0 < t241.length) = True := eq_true (by omega)
        (try rw [show ((0 : Int)).toNat = 0 from rfl] at hx254_0)
        (try rw [Addr.add_zero'] at hx254_0)
        replace p254 := eq_true p254
        replace q254 := eq_true q254
        try go_wp2
        replace HO_3 := Aside0.mk (Kd.R_drew HO_3.out)
        replace HO_4 := Aside0.mk (Kd.R_drew HO_4.out)
        replace HO_5 := Aside0.mk (Kd.R_drew HO_5.out)
        replace HB := Aside0.mk (below_drew1 HB.out)
        have p256 : 0 ≤ ((ji35) : Int) := dA
        have q256 : (ji35) < (t238.length : Int) := dA
        obtain ⟨ad256, e256, hx256_0⟩ := Kd.at_int (Kd.R_reads' HO_3.out).2.2 (ji35) p256 q256
        cases e256
        replace p256 := eq_true p256
        replace q256 := eq_true q256
        obtain ⟨Ao42, co42, eo42⟩ := Kd.R_slice HO_5.out
        (first | subst eo42 | (injection eo42 with f1_ f2_ f3_; have f4_ := f1_.symm; have f5_ := f3_.symm; clear f1_ f2_ f3_; subst f4_; subst f5_))
        refine start_ (n := 16) (S := fun w' => w'.cell? (ad256.add ((ji35)).toNat) = some (.int .i64 (rd t238 (ji35)))) (ds := []) #[false, false, false, false, false, false, false, false, false, false, false, false, false, false, false, false] (by kernel_rfl) rfl rfl (hx256_0) (fun hHeld => ?_); refine with_tabW laws_FnRuns.tab11 laws_FnRuns.bits11 (fun HT_ HW_ => ?_)
        generalize wc.drew = w41 at HO_3 HO_4 HO_5 HB hx256_0 hHeld ⊢
        refine pU 0 (some 44) #[true, false, false, false, false, false, false, false, false, false, false, false, false, false, false, false] ?_
        refine pU 1 (some 45) #[true, true, false, false, false, false, false, false, false, false, false, false, false, false, false, false] ?_
        refine pU 3 (some 47) #[true, true, false, true, false, false, false, false, false, false, false, false, false, false, false, false] ?_
        refine pU 4 (some 48) #[true, true, false, true, true, false, false, false, false, false, false, false, false, false, false, false] ?_
        refine pU 5 (some 49) #[true, true, false, true, true, true, false, false, false, false, false, false, false, false, false, false] ?_
        refine tK 6 (some 50) #[true, true, false, true, true, true, true, false, false, false, false, false, false, false, false, false] ?_
        refine one_ (i := 2) (N := some 46) #[true, true, true, true, true, true, true, false, false, false, false, false, false, false, false, false] rfl rfl (one_of HT_.out (by kernel_rfl)) (by decide) (fun K hK => ?_)
        refine goes_ Try.func31 (by kernel_rfl) rfl #[.slice Ao42 t244.length co42, .int .i64 ji35] (by rfl) rfl rfl (by (try simp only [List.map_toArray, List.map_cons, List.map_nil]); first | done | (simp only [hji35]; rfl) | rfl | (simp only [List.length_drop, List.length_take]; rfl)) ?_
        with_reducible refine (impl_RunAt.calls kj6 _ _ t244 ji35 t255 _ ?side1 ?side2 A34.out).mono ?_
        (case side1 => exact cS (Kd.R_reads' HO_5.out).2.2)
        (case side2 => exact (Kd.R_reads' HO_5.out).2.1)
        rintro e w43 ⟨rfl, hb⟩
        have HS0_ := (hb.cell (World.block_lt_of_cell? _ _ (hHeld))).trans (hHeld)
        refine ⟨_, rfl, ?_⟩
        replace HO_3 := Aside0.mk (Kd.R_below (rS HO_3) hb)
        replace HO_4 := Aside0.mk (Kd.R_below (rS HO_4) hb)
        replace HO_5 := Aside0.mk (Kd.R_below (rS HO_5) hb)
        replace HB := hB hb
        (try clear hb)
        (try clear hb2)
        (try clear hk)
        (try clear hi)
        refine hK.out _ _ (HS0_) (fun hHeld => ?_)
        clear hK K
        refine norm_ (a' := ?_) ?_ ?_
        rotate_left
        ·show Act.put _ (some 46) _ = _
         simp only [Act.put, List.setIfInBounds_toArray, List.set_cons_zero, List.set_cons_succ, i64_w, i32_w]
         rfl
        refine pU 7 (some 51) #[true, true, true, true, true, true, true, true, false, false, false, false, false, false, false, false] ?_
        refine pU 8 (some 52) #[true, true, true, true, true, true, true, true, true, false, false, false, false, false, false, false] ?_
        refine pU 9 (some 53) #[true, true, true, true, true, true, true, true, true, true, false, false, false, false, false, false] ?_
        refine pU 10 (some 54) #[true, true, true, true, true, true, true, true, true, true, true, false, false, false, false, false] ?_
        refine pU 11 (some 55) #[true, true, true, true, true, true, true, true, true, true, true, true, false, false, false, false] ?_
        refine one_ (i := 12) (N := some 56) #[true, true, true, true, true, true, true, true, true, true, true, true, true, false, false, false] rfl rfl (one_of HT_.out (by kernel_rfl)) (by decide) (fun K hK => ?_)
        refine goes_ Try.func31 (by kernel_rfl) rfl #[.slice Ao42 t244.length co42, .int .i64 (t238.length : Int)] (by rfl) rfl rfl (by (try simp only [List.map_toArray, List.map_cons, List.map_nil]); first | done | rfl | (simp only [List.length_drop, List.length_take]; rfl)) ?_
        with_reducible refine (impl_RunAt.calls kj6 _ _ t244 (t238.length : Int) t257 _ ?side1 ?side2 A39.out).mono ?_
        (case side1 => exact cS (Kd.R_reads' HO_5.out).2.2)
        (case side2 => exact (Kd.R_reads' HO_5.out).2.1)
        rintro e w44 ⟨rfl, hb⟩
        have HS0_ := (hb.cell (World.block_lt_of_cell? _ _ (hHeld))).trans (hHeld)
        refine ⟨_, rfl, ?_⟩
        replace HO_3 := Aside0.mk (Kd.R_below (rS HO_3) hb)
        replace HO_4 := Aside0.mk (Kd.R_below (rS HO_4) hb)
        replace HO_5 := Aside0.mk (Kd.R_below (rS HO_5) hb)
        replace HB := hB hb
        (try clear hb)
        (try clear hb2)
        (try clear hk)
        (try clear hi)
        refine hK.out _ _ (HS0_) (fun hHeld => ?_)
        clear hK K
        refine norm_ (a' := ?_) ?_ ?_
        rotate_left
        ·show Act.put _ (some 56) _ = _
         simp only [Act.put, List.setIfInBounds_toArray, List.set_cons_zero, List.set_cons_succ, i64_w, i32_w]
         rfl
        refine pU 13 (some 57) #[true, true, true, true, true, true, true, true, true, true, true, true, true, true, false, false] ?_
        refine pU 14 (some 58) #[true, true, true, true, true, true, true, true, true, true, true, true, true, true, true, false] ?_
        refine pU 15 (some 2) #[true, true, true, true, true, true, true, true, true, true, true, true, true, true, true, true] ?_
        refine done_ (done_of HT_.out (by kernel_rfl)) ?_
        try go_wp2
        go_ret
        exact ⟨by first | rfl | (simp [errW_none, errW_some] <;> rfl) | (simp only [← hji35]; first | rfl | (simp [errW_none, errW_some] <;> rfl)) | (simp [*, errW_none, errW_some] <;> rfl), bS⟩
       ·rw [if_neg c38] at H; exact absurd ((Option.some.inj H).trans hT) (by decide)
      ·rw [if_neg c33] at H
       exact absurd H (by simp)

end Go.Proofs.Ytcalgoembdmlkaa.QFnRuns
