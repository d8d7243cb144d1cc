-- Made out of the translation by a program of this session (a changed copy of the print). Not trusted: Lean checks it.
import Derived.Test.YtigodjcnkgebaaaQFnMemoryx0
import Derived.Test.YtigodjcnkgebaaaQFnMemoryx2
import Derived.Test.YtigodjcnkgebaaaQFnMemoryx3
namespace Go.Proofs.Ytigodjcnkgebaaa.QFnMemory
open Go.RowKit Go.Proofs.YtigodjcnkgebaaaW.PrintWords Go.Proofs.YtigodjcnkgebaaaW.PrintLast Go.Proofs.YtigodjcnkgebaaaW.PrintMore
attribute [local go_sem] max2_int min2_int max_two min_two max_three min_three max_four min_four   -- for this text's walks alone
set_option linter.unusedVariables false
set_option linter.unusedSimpArgs false
set_option maxHeartbeats 8000000
set_option maxRecDepth 100000

/-! ### impl_RowsOk: function 99 -/
def impl_RowsOk.l0 : Nat → List (List Int) → Int → Int → Option (Bool)
 | 0, _, _, _ => none
 | k + 1, x8, x9, x10 => if x10 < x9 then (if 0 ≤ x10 then (if x10 < (x8.length : Int) then ((impl_rowOk.f k (rd_L6 x8 x10)).bind fun t316 => (if t316 = true then (impl_RowsOk.l0 k x8 x9 (wrap64 (x10 + 1))) else (some false))) else (none)) else (none)) else (some true)
def impl_RowsOk.f (k : Nat) (l0 : List (List Int)) : Option (Bool) := if (l0.length : Int) > 32 then (some false) else (impl_RowsOk.l0 k l0 (l0.length : Int) 0)
theorem impl_RowsOk.calls (k : Nat) (A0 : Option Addr) (c0 : Nat) (l0 : List (List Int)) (r : Bool) (w : World) (hr0 : Kd.C (Kd.slice 3 (Kd.int .i64)) w A0 l0.length l0) (hc0 : l0.length ≤ c0) (h : impl_RowsOk.f k l0 = some r) :
  Calls Try.prog 99 #[.slice A0 l0.length c0] w fun e w' => e = .returned (.bool r) ∧ Drawn0 w w' := by
 have HR0 := Aside0.mk hr0
 have HC0 := Aside0.mk hc0
 clear hr0 hc0
 have H : (if (l0.length : Int) > 32 then (some false) else (impl_RowsOk.l0 k l0 (l0.length : Int) 0)) = some r := h
 clear h
 by_cases c2 : (l0.length : Int) > 32
 ·rw [if_pos c2] at H
  have c2b0 : decide (32 < (l0.length : Int)) = true := decide_eq_true c2
  have c2b1 : decide (32 < l0.length) = true := decide_eq_true (by omega)
  clear c2
  obtain rfl := Option.some.inj H
  simp only [Option.some.injEq, Prod.mk.injEq] at H
  obtain ⟨rfl⟩ := H
  go_enter Try.func99, Try.ntmps99
  go_wp2
  go_ret
  exact ⟨by first | rfl | (simp; done) | (simp [*]; done), by repeat (first | exact Drawn0.refl _ | apply Drawn0.step)⟩
 ·rw [if_neg c2] at H
  have c2b0 : decide (32 < (l0.length : Int)) = false := decide_eq_false c2
  have c2b1 : decide (32 < l0.length) = false := decide_eq_false (by omega)
  clear c2
  have H' := Aside0.mk H
  clear H
  go_enter Try.func99, Try.ntmps99
  go_wp2
  go_loopg [10] k (fun kq v10 w' => ∃ (x10_1 : Int), v10 = .int .i64 x10_1 ∧ Aside0 (impl_RowsOk.l0 kq l0 (l0.length : Int) x10_1 = some r) ∧ Aside0 (kq ≤ k) ∧ Drawn0 w w')
  case atStart => exact ⟨(0), (by first | rfl | (simp; done) | (simp [*]; done)), H', ⟨Nat.le_refl _⟩, by repeat (first | exact Drawn0.refl _ | apply Drawn0.step)⟩
  case round =>
   clear H'
   try clear c2
   try clear c2b0
   try clear c2b1
   try clear p2
   obtain ⟨x10_1, rfl, HA, HK1, ⟨m1, rfl⟩⟩ := hrel
   cases gk with
   | zero => exact absurd HA.out (by simp [impl_RowsOk.l0])
   | succ k1 =>
    have H := HA.out
    clear HA
    simp only [impl_RowsOk.l0] at H
    by_cases c3 : x10_1 < (l0.length : Int)
    ·rw [if_pos c3] at H
     have c3b0 : decide (x10_1 < (l0.length : Int)) = true := decide_eq_true c3
     clear c3
     by_cases c4 : 0 ≤ x10_1
     ·rw [if_pos c4] at H
      have c4b0 : decide (0 ≤ x10_1) = true := decide_eq_true c4
      clear c4
      by_cases c5 : x10_1 < (l0.length : Int)
      ·rw [if_pos c5] at H
       have c5b0 : decide (x10_1 < (l0.length : Int)) = true := decide_eq_true c5
       clear c5
       replace H := bN H
       obtain ⟨t316, A6, H⟩ := H
       by_cases c7 : t316 = true
       ·subst c7
        rw [if_pos rfl] at H
        have H' := Aside0.mk H
        clear H
        have p315 : 0 ≤ (x10_1 : Int) := of_decide_eq_true (by first | (with_reducible assumption) | assumption)
        have q315 : x10_1 < (l0.length : Int) := of_decide_eq_true (by first | (with_reducible assumption) | assumption)
        obtain ⟨ad315, A315_0, c315_0, e315, hx315_0, hl315_0, hi315_0⟩ := at_L6 HR0.out x10_1 p315 q315
        cases e315
        have HR315_0 := Aside0.mk hi315_0
        have HC315_0 := Aside0.mk hl315_0
        clear hi315_0 hl315_0
        replace p315 := eq_true p315
        replace q315 := eq_true q315
        go_wp2_with (first | ((with_reducible refine gC 162 ?_); refine cL (some 15) Try.func162 #[.slice A315_0 (rd_L6 l0 x10_1).length c315_0] ?_; (with_reducible refine (impl_rowOk.calls k1 _ _ (rd_L6 l0 x10_1) _ _ ?side1 ?side2 A6.out).mono ?_); (case side1 => repeat (first | exact HR315_0.out | (with_reducible refine Kd.C_alloc ?_ _) | (with_reducible refine Kd.C_drewN ?_ _) | (with_reducible refine Kd.C_drew ?_))); (case side2 => exact HC315_0.out); rintro e w' ⟨rfl, ⟨nd, rfl⟩⟩; refine ⟨_, rfl, ?_⟩))
        go_roundg k1
        case measure => have := HK1.out; omega
        case rel => exact ⟨(wrap64 (x10_1 + 1)), (by first | rfl | (simp; done) | (simp [*]; done)), H', ⟨by have := HK1.out; omega⟩, by repeat (first | exact Drawn0.refl _ | apply Drawn0.step)⟩
       ·obtain rfl := Bool.eq_false_iff.mpr c7
        rw [if_neg nF] at H
        obtain rfl := Option.some.inj H
        simp only [Option.some.injEq, Prod.mk.injEq] at H
        obtain ⟨rfl⟩ := H
        have p315 : 0 ≤ (x10_1 : Int) := of_decide_eq_true (by first | (with_reducible assumption) | assumption)
        have q315 : x10_1 < (l0.length : Int) := of_decide_eq_true (by first | (with_reducible assumption) | assumption)
        obtain ⟨ad315, A315_0, c315_0, e315, hx315_0, hl315_0, hi315_0⟩ := at_L6 HR0.out x10_1 p315 q315
        cases e315
        have HR315_0 := Aside0.mk hi315_0
        have HC315_0 := Aside0.mk hl315_0
        clear hi315_0 hl315_0
        replace p315 := eq_true p315
        replace q315 := eq_true q315
        go_wp2_with (first | ((with_reducible refine gC 162 ?_); refine cL (some 15) Try.func162 #[.slice A315_0 (rd_L6 l0 x10_1).length c315_0] ?_; (with_reducible refine (impl_rowOk.calls k1 _ _ (rd_L6 l0 x10_1) _ _ ?side1 ?side2 A6.out).mono ?_); (case side1 => repeat (first | exact HR315_0.out | (with_reducible refine Kd.C_alloc ?_ _) | (with_reducible refine Kd.C_drewN ?_ _) | (with_reducible refine Kd.C_drew ?_))); (case side2 => exact HC315_0.out); rintro e w' ⟨rfl, ⟨nd, rfl⟩⟩; refine ⟨_, rfl, ?_⟩))
        go_ret
        exact ⟨by first | rfl | (simp; done) | (simp [*]; done), by repeat (first | exact Drawn0.refl _ | apply Drawn0.step)⟩
      ·rw [if_neg c5] at H
       exact absurd H (by simp)
     ·rw [if_neg c4] at H
      exact absurd H (by simp)
    ·rw [if_neg c3] at H
     have c3b0 : decide (x10_1 < (l0.length : Int)) = false := decide_eq_false c3
     clear c3
     obtain rfl := Option.some.inj H
     simp only [Option.some.injEq, Prod.mk.injEq] at H
     obtain ⟨rfl⟩ := H
     go_wp2
     go_ret
     exact ⟨by first | rfl | (simp; done) | (simp [*]; done), by repeat (first | exact Drawn0.refl _ | apply Drawn0.step)⟩

/-! ### impl_BandOk: function 35 -/
def impl_BandOk.f (k : Nat) (a0_0 : Int) (a0_1 : Int) (l0_2 : List (List Int)) (l0_3 : List (S45)) : Option (Bool) := (impl_NewBand.f k a0_0 a0_1).bind fun bt318 => (if bt318.2.2.2.2 = true then (if (l0_2.length : Int) = a0_0 then ((impl_RowsOk.f k l0_2).bind fun t328 => (if t328 = true then ((impl_objectsOk.f k l0_3).bind fun t329 => (if t329 = true then ((impl_BandCells.f k a0_0 a0_1 l0_2 l0_3).bind fun t330 => (some (decide (t330 ≤ 60)))) else (some false))) else (some false))) else (some false)) else (some false))
theorem impl_BandOk.calls (k : Nat) (a0_0 : Int) (a0_1 : Int) (A0_2 : Option Addr) (c0_2 : Nat) (l0_2 : List (List Int)) (A0_3 : Option Addr) (c0_3 : Nat) (l0_3 : List (S45)) (r : Bool) (w : World) (hr0_2 : Kd.C (Kd.slice 3 (Kd.int .i64)) w A0_2 l0_2.length l0_2) (hc0_2 : l0_2.length ≤ c0_2) (hr0_3 : Kd.C k45 w A0_3 l0_3.length l0_3) (hc0_3 : l0_3.length ≤ c0_3) (h : impl_BandOk.f k a0_0 a0_1 l0_2 l0_3 = some r) :
  Calls Try.prog 35 #[.agg #[.int .i64 a0_0, .int .i64 a0_1, .slice A0_2 l0_2.length c0_2, .slice A0_3 l0_3.length c0_3]] w fun e w' => e = .returned (.bool r) ∧ Below w.heap.size w w' := by
 have hu58 := Try.underlying58
 have HR0_2 := Aside0.mk hr0_2
 have HC0_2 := Aside0.mk hc0_2
 clear hr0_2 hc0_2
 have HR0_3 := Aside0.mk hr0_3
 have HC0_3 := Aside0.mk hc0_3
 clear hr0_3 hc0_3
 have HB := Aside0.mk (Below.refl w.heap.size w)
 have H : ((impl_NewBand.f k a0_0 a0_1).bind fun bt318 => (if bt318.2.2.2.2 = true then (if (l0_2.length : Int) = a0_0 then ((impl_RowsOk.f k l0_2).bind fun t328 => (if t328 = true then ((impl_objectsOk.f k l0_3).bind fun t329 => (if t329 = true then ((impl_BandCells.f k a0_0 a0_1 l0_2 l0_3).bind fun t330 => (some (decide (t330 ≤ 60)))) else (some false))) else (some false))) else (some false)) else (some false))) = some r := h
 clear h
 replace H := bN H
 obtain ⟨⟨t318, t319, t320, t323, t326⟩, A2, H⟩ := H
 by_cases c3 : t326 = true
 ·subst c3
  rw [if_pos rfl] at H
  by_cases c4 : (l0_2.length : Int) = a0_0
  ·rw [if_pos c4] at H
   have c4b0 : ((l0_2.length : Int) == a0_0) = true := beq_iff_eq.mpr c4
   have c4b1 : ((l0_2.length : Int) != a0_0) = false := bne_eq_false_iff_eq.mpr c4
   clear c4
   replace H := bN H
   obtain ⟨t328, A5, H⟩ := H
   by_cases c6 : t328 = true
   ·subst c6
    rw [if_pos rfl] at H
    replace H := bN H
    obtain ⟨t329, A7, H⟩ := H
    by_cases c8 : t329 = true
    ·subst c8
     rw [if_pos rfl] at H
     replace H := bN H
     obtain ⟨t330, A9, H⟩ := H
     obtain rfl := Option.some.inj H
     simp only [Option.some.injEq, Prod.mk.injEq] at H
     obtain ⟨rfl⟩ := H
     go_enter Try.func35, Try.ntmps35
     go_wp2_with (first | ((with_reducible refine gD 1 ?_); refine bxE #[.int .i64 a0_0, .int .i64 a0_1, .slice A0_2 l0_2.length c0_2, .slice A0_3 l0_3.length c0_3] 58 ?_; intro gb317 hg w10 BK317 hb; have GW317 := gE hg; have GE317 := gE hg; replace HB := hB hb; clear hb hg; have hz11 := cz4 BK317) | ((with_reducible refine gC 68 ?_); refine cL (some 10) Try.func68 #[.int .i64 a0_0, .int .i64 a0_1] ?_; (with_reducible refine (impl_NewBand.calls k a0_0 a0_1 t318 t319 t320 t323 _ _ A2.out).mono ?_); rintro e w12 ⟨v321, v324, rfl, ho0, ho1, hb⟩; refine ⟨_, rfl, ?_⟩; have HO322 := Aside0.mk (Kd.S_lower ho0 (below_size bS)); have HO325 := Aside0.mk (Kd.S_lower ho1 (below_size bS)); replace BK317 := kB (g := gb317) hb; replace HB := hB hb; (try clear hb); (try clear hb2); (try clear hk); (try clear hi); (try clear ho0); (try clear ho1)) | ((with_reducible refine gD 3 ?_); refine bxE #[.int .i64 0, .int .i64 0, .slice none 0 0, .slice none 0 0] 58 ?_; intro gb327 hg w13 BK327 hb; have GW327 := gE hg; have GE327 := gE hg; have NB317_327 := nL (g := gb317) hg; have NB327_317 := nG (g := gb317) hg; replace HO322 := Aside0.mk (Kd.S_below (by (with_reducible repeat (first | apply Kd.S_alloc | apply Kd.S_drewN | apply Kd.S_drew)); exact HO322.out) hb); replace HO325 := Aside0.mk (Kd.S_below (by (with_reducible repeat (first | apply Kd.S_alloc | apply Kd.S_drewN | apply Kd.S_drew)); exact HO325.out) hb); replace BK317 := kB (g := gb317) hb; replace HB := hB hb; clear hb hg; have hnb14 := NB327_317.out; have hnc14 := NB317_327.out; have hz15 := cz4 BK327; obtain ⟨Ao16, co16, eo16⟩ := Kd.S_slice HO322.out; subst eo16; obtain ⟨Ao17, co17, eo17⟩ := Kd.S_slice HO325.out; subst eo17; have hz18 := cz4 BK317) | (go_at_call 99; (with_reducible refine (impl_RowsOk.calls k _ _ l0_2 _ _ ?side1 ?side2 A5.out).mono ?_); (case side1 => exact Kd.C_below HR0_2.out bS); (case side2 => exact HC0_2.out); rintro e w' ⟨rfl, ⟨nd, rfl⟩⟩) | (go_at_call 73; (with_reducible refine (impl_objectsOk.calls k _ _ l0_3 _ _ ?side1 ?side2 A7.out).mono ?_); (case side1 => exact Kd.C_below HR0_3.out bS); (case side2 => exact HC0_3.out); rintro e w19 ⟨rfl, hb⟩; replace HO322 := Aside0.mk (Kd.S_below (by (with_reducible repeat (first | apply Kd.S_alloc | apply Kd.S_drewN | apply Kd.S_drew)); exact (Kd.S_mono (Kd.S_far (p := ⟨gb327, 3, none⟩) (Kd.S_far (p := ⟨gb327, 2, none⟩) (Kd.S_far (p := ⟨gb327, 1, none⟩) (Kd.S_far (p := ⟨gb327, 0, none⟩) (Kd.S_types HO322.out BK327.out (by decide)) (fun _ hk => hk.2) (.int .i64 t318)) (fun _ hk => hk.2) (.int .i64 t319)) (fun _ hk => hk.2) (.slice Ao16 t320.length co16)) (fun _ hk => hk.2) (.slice Ao17 t323.length co17)) (fun _ h_ => h_.1))) hb); replace HO325 := Aside0.mk (Kd.S_below (by (with_reducible repeat (first | apply Kd.S_alloc | apply Kd.S_drewN | apply Kd.S_drew)); exact (Kd.S_mono (Kd.S_far (p := ⟨gb327, 3, none⟩) (Kd.S_far (p := ⟨gb327, 2, none⟩) (Kd.S_far (p := ⟨gb327, 1, none⟩) (Kd.S_far (p := ⟨gb327, 0, none⟩) (Kd.S_types HO325.out BK327.out (by decide)) (fun _ hk => hk.2) (.int .i64 t318)) (fun _ hk => hk.2) (.int .i64 t319)) (fun _ hk => hk.2) (.slice Ao16 t320.length co16)) (fun _ hk => hk.2) (.slice Ao17 t323.length co17)) (fun _ h_ => h_.1))) hb); replace BK317 := kB (g := gb317) hb; replace BK327 := Aside0.mk (blk_below (g := gb327) (o := .cells #[.int .i64 t318, .int .i64 t319, .slice Ao16 t320.length co16, .slice Ao17 t323.length co17] 58 (0, 0)) kS hb); replace HB := hB hb; (try clear hb); (try clear hb2); (try clear hk); (try clear hi); have hz20 := cz4 BK317) | (go_at_call 63; (with_reducible refine (impl_BandCells.calls k a0_0 a0_1 _ _ l0_2 _ _ l0_3 t330 _ ?side1 ?side2 ?side3 ?side4 A9.out).mono ?_); (case side1 => exact cS (Kd.C_below HR0_2.out HB.out)); (case side2 => exact HC0_2.out); (case side3 => exact cS (Kd.C_below HR0_3.out HB.out)); (case side4 => exact HC0_3.out); rintro e w21 ⟨rfl, hb⟩; replace HO322 := Aside0.mk (Kd.S_below (by (with_reducible repeat (first | apply Kd.S_alloc | apply Kd.S_drewN | apply Kd.S_drew)); exact HO322.out) hb); replace HO325 := Aside0.mk (Kd.S_below (by (with_reducible repeat (first | apply Kd.S_alloc | apply Kd.S_drewN | apply Kd.S_drew)); exact HO325.out) hb); replace BK317 := kB (g := gb317) hb; replace BK327 := kB (g := gb327) hb; replace HB := hB hb; (try clear hb); (try clear hb2); (try clear hk); (try clear hi)))
     go_ret
     exact ⟨eS, bS⟩
    ·obtain rfl := Bool.eq_false_iff.mpr c8
     rw [if_neg nF] at H
     obtain rfl := Option.some.inj H
     simp only [Option.some.injEq, Prod.mk.injEq] at H
     obtain ⟨rfl⟩ := H
     go_enter Try.func35, Try.ntmps35
     go_wp2_with (first | ((with_reducible refine gD 1 ?_); refine bxE #[.int .i64 a0_0, .int .i64 a0_1, .slice A0_2 l0_2.length c0_2, .slice A0_3 l0_3.length c0_3] 58 ?_; intro gb317 hg w22 BK317 hb; have GW317 := gE hg; have GE317 := gE hg; replace HB := hB hb; clear hb hg; have hz23 := cz4 BK317) | ((with_reducible refine gC 68 ?_); refine cL (some 10) Try.func68 #[.int .i64 a0_0, .int .i64 a0_1] ?_; (with_reducible refine (impl_NewBand.calls k a0_0 a0_1 t318 t319 t320 t323 _ _ A2.out).mono ?_); rintro e w24 ⟨v321, v324, rfl, ho0, ho1, hb⟩; refine ⟨_, rfl, ?_⟩; have HO322 := Aside0.mk (Kd.S_lower ho0 (below_size bS)); have HO325 := Aside0.mk (Kd.S_lower ho1 (below_size bS)); replace BK317 := kB (g := gb317) hb; replace HB := hB hb; (try clear hb); (try clear hb2); (try clear hk); (try clear hi); (try clear ho0); (try clear ho1)) | ((with_reducible refine gD 3 ?_); refine bxE #[.int .i64 0, .int .i64 0, .slice none 0 0, .slice none 0 0] 58 ?_; intro gb327 hg w25 BK327 hb; have GW327 := gE hg; have GE327 := gE hg; have NB317_327 := nL (g := gb317) hg; have NB327_317 := nG (g := gb317) hg; replace HO322 := Aside0.mk (Kd.S_below (by (with_reducible repeat (first | apply Kd.S_alloc | apply Kd.S_drewN | apply Kd.S_drew)); exact HO322.out) hb); replace HO325 := Aside0.mk (Kd.S_below (by (with_reducible repeat (first | apply Kd.S_alloc | apply Kd.S_drewN | apply Kd.S_drew)); exact HO325.out) hb); replace BK317 := kB (g := gb317) hb; replace HB := hB hb; clear hb hg; have hnb26 := NB327_317.out; have hnc26 := NB317_327.out; have hz27 := cz4 BK327; obtain ⟨Ao28, co28, eo28⟩ := Kd.S_slice HO322.out; subst eo28; obtain ⟨Ao29, co29, eo29⟩ := Kd.S_slice HO325.out; subst eo29; have hz30 := cz4 BK317) | (go_at_call 99; (with_reducible refine (impl_RowsOk.calls k _ _ l0_2 _ _ ?side1 ?side2 A5.out).mono ?_); (case side1 => exact Kd.C_below HR0_2.out bS); (case side2 => exact HC0_2.out); rintro e w' ⟨rfl, ⟨nd, rfl⟩⟩) | (go_at_call 73; (with_reducible refine (impl_objectsOk.calls k _ _ l0_3 _ _ ?side1 ?side2 A7.out).mono ?_); (case side1 => exact Kd.C_below HR0_3.out bS); (case side2 => exact HC0_3.out); rintro e w31 ⟨rfl, hb⟩; replace HO322 := Aside0.mk (Kd.S_below (by (with_reducible repeat (first | apply Kd.S_alloc | apply Kd.S_drewN | apply Kd.S_drew)); exact (Kd.S_mono (Kd.S_far (p := ⟨gb327, 3, none⟩) (Kd.S_far (p := ⟨gb327, 2, none⟩) (Kd.S_far (p := ⟨gb327, 1, none⟩) (Kd.S_far (p := ⟨gb327, 0, none⟩) (Kd.S_types HO322.out BK327.out (by decide)) (fun _ hk => hk.2) (.int .i64 t318)) (fun _ hk => hk.2) (.int .i64 t319)) (fun _ hk => hk.2) (.slice Ao28 t320.length co28)) (fun _ hk => hk.2) (.slice Ao29 t323.length co29)) (fun _ h_ => h_.1))) hb); replace HO325 := Aside0.mk (Kd.S_below (by (with_reducible repeat (first | apply Kd.S_alloc | apply Kd.S_drewN | apply Kd.S_drew)); exact (Kd.S_mono (Kd.S_far (p := ⟨gb327, 3, none⟩) (Kd.S_far (p := ⟨gb327, 2, none⟩) (Kd.S_far (p := ⟨gb327, 1, none⟩) (Kd.S_far (p := ⟨gb327, 0, none⟩) (Kd.S_types HO325.out BK327.out (by decide)) (fun _ hk => hk.2) (.int .i64 t318)) (fun _ hk => hk.2) (.int .i64 t319)) (fun _ hk => hk.2) (.slice Ao28 t320.length co28)) (fun _ hk => hk.2) (.slice Ao29 t323.length co29)) (fun _ h_ => h_.1))) hb); replace BK317 := kB (g := gb317) hb; replace BK327 := Aside0.mk (blk_below (g := gb327) (o := .cells #[.int .i64 t318, .int .i64 t319, .slice Ao28 t320.length co28, .slice Ao29 t323.length co29] 58 (0, 0)) kS hb); replace HB := hB hb; (try clear hb); (try clear hb2); (try clear hk); (try clear hi)))
     go_ret
     exact ⟨eS, bS⟩
   ·obtain rfl := Bool.eq_false_iff.mpr c6
    rw [if_neg nF] at H
    obtain rfl := Option.some.inj H
    simp only [Option.some.injEq, Prod.mk.injEq] at H
    obtain ⟨rfl⟩ := H
    go_enter Try.func35, Try.ntmps35
    go_wp2_with (first | ((with_reducible refine gD 1 ?_); refine bxE #[.int .i64 a0_0, .int .i64 a0_1, .slice A0_2 l0_2.length c0_2, .slice A0_3 l0_3.length c0_3] 58 ?_; intro gb317 hg w32 BK317 hb; have GW317 := gE hg; have GE317 := gE hg; replace HB := hB hb; clear hb hg; have hz33 := cz4 BK317) | ((with_reducible refine gC 68 ?_); refine cL (some 10) Try.func68 #[.int .i64 a0_0, .int .i64 a0_1] ?_; (with_reducible refine (impl_NewBand.calls k a0_0 a0_1 t318 t319 t320 t323 _ _ A2.out).mono ?_); rintro e w34 ⟨v321, v324, rfl, ho0, ho1, hb⟩; refine ⟨_, rfl, ?_⟩; have HO322 := Aside0.mk (Kd.S_lower ho0 (below_size bS)); have HO325 := Aside0.mk (Kd.S_lower ho1 (below_size bS)); replace BK317 := kB (g := gb317) hb; replace HB := hB hb; (try clear hb); (try clear hb2); (try clear hk); (try clear hi); (try clear ho0); (try clear ho1)) | ((with_reducible refine gD 3 ?_); refine bxE #[.int .i64 0, .int .i64 0, .slice none 0 0, .slice none 0 0] 58 ?_; intro gb327 hg w35 BK327 hb; have GW327 := gE hg; have GE327 := gE hg; have NB317_327 := nL (g := gb317) hg; have NB327_317 := nG (g := gb317) hg; replace HO322 := Aside0.mk (Kd.S_below (by (with_reducible repeat (first | apply Kd.S_alloc | apply Kd.S_drewN | apply Kd.S_drew)); exact HO322.out) hb); replace HO325 := Aside0.mk (Kd.S_below (by (with_reducible repeat (first | apply Kd.S_alloc | apply Kd.S_drewN | apply Kd.S_drew)); exact HO325.out) hb); replace BK317 := kB (g := gb317) hb; replace HB := hB hb; clear hb hg; have hnb36 := NB327_317.out; have hnc36 := NB317_327.out; have hz37 := cz4 BK327; obtain ⟨Ao38, co38, eo38⟩ := Kd.S_slice HO322.out; subst eo38; obtain ⟨Ao39, co39, eo39⟩ := Kd.S_slice HO325.out; subst eo39; have hz40 := cz4 BK317) | (go_at_call 99; (with_reducible refine (impl_RowsOk.calls k _ _ l0_2 _ _ ?side1 ?side2 A5.out).mono ?_); (case side1 => exact Kd.C_below HR0_2.out bS); (case side2 => exact HC0_2.out); rintro e w' ⟨rfl, ⟨nd, rfl⟩⟩))
    go_ret
    exact ⟨eS, bS⟩
  ·rw [if_neg c4] at H
   have c4b0 : ((l0_2.length : Int) == a0_0) = false := beq_eq_false_iff_ne.mpr c4
   have c4b1 : ((l0_2.length : Int) != a0_0) = true := bne_iff_ne.mpr c4
   obtain rfl := Option.some.inj H
   simp only [Option.some.injEq, Prod.mk.injEq] at H
   obtain ⟨rfl⟩ := H
   go_enter Try.func35, Try.ntmps35
   go_wp2_with (first | ((with_reducible refine gD 1 ?_); refine bxE #[.int .i64 a0_0, .int .i64 a0_1, .slice A0_2 l0_2.length c0_2, .slice A0_3 l0_3.length c0_3] 58 ?_; intro gb317 hg w41 BK317 hb; have GW317 := gE hg; have GE317 := gE hg; replace HB := hB hb; clear hb hg; have hz42 := cz4 BK317) | ((with_reducible refine gC 68 ?_); refine cL (some 10) Try.func68 #[.int .i64 a0_0, .int .i64 a0_1] ?_; (with_reducible refine (impl_NewBand.calls k a0_0 a0_1 t318 t319 t320 t323 _ _ A2.out).mono ?_); rintro e w43 ⟨v321, v324, rfl, ho0, ho1, hb⟩; refine ⟨_, rfl, ?_⟩; have HO322 := Aside0.mk (Kd.S_lower ho0 (below_size bS)); have HO325 := Aside0.mk (Kd.S_lower ho1 (below_size bS)); replace BK317 := kB (g := gb317) hb; replace HB := hB hb; (try clear hb); (try clear hb2); (try clear hk); (try clear hi); (try clear ho0); (try clear ho1)) | ((with_reducible refine gD 3 ?_); refine bxE #[.int .i64 0, .int .i64 0, .slice none 0 0, .slice none 0 0] 58 ?_; intro gb327 hg w44 BK327 hb; have GW327 := gE hg; have GE327 := gE hg; have NB317_327 := nL (g := gb317) hg; have NB327_317 := nG (g := gb317) hg; replace HO322 := Aside0.mk (Kd.S_below (by (with_reducible repeat (first | apply Kd.S_alloc | apply Kd.S_drewN | apply Kd.S_drew)); exact HO322.out) hb); replace HO325 := Aside0.mk (Kd.S_below (by (with_reducible repeat (first | apply Kd.S_alloc | apply Kd.S_drewN | apply Kd.S_drew)); exact HO325.out) hb); replace BK317 := kB (g := gb317) hb; replace HB := hB hb; clear hb hg; have hnb45 := NB327_317.out; have hnc45 := NB317_327.out; have hz46 := cz4 BK327; obtain ⟨Ao47, co47, eo47⟩ := Kd.S_slice HO322.out; subst eo47; obtain ⟨Ao48, co48, eo48⟩ := Kd.S_slice HO325.out; subst eo48; have hz49 := cz4 BK317))
   go_ret
   exact ⟨eS, bS⟩
 ·obtain rfl := Bool.eq_false_iff.mpr c3
  rw [if_neg nF] at H
  obtain rfl := Option.some.inj H
  simp only [Option.some.injEq, Prod.mk.injEq] at H
  obtain ⟨rfl⟩ := H
  go_enter Try.func35, Try.ntmps35
  go_wp2_with (first | ((with_reducible refine gD 1 ?_); refine bxE #[.int .i64 a0_0, .int .i64 a0_1, .slice A0_2 l0_2.length c0_2, .slice A0_3 l0_3.length c0_3] 58 ?_; intro gb317 hg w50 BK317 hb; have GW317 := gE hg; have GE317 := gE hg; replace HB := hB hb; clear hb hg; have hz51 := cz4 BK317) | ((with_reducible refine gC 68 ?_); refine cL (some 10) Try.func68 #[.int .i64 a0_0, .int .i64 a0_1] ?_; (with_reducible refine (impl_NewBand.calls k a0_0 a0_1 t318 t319 t320 t323 _ _ A2.out).mono ?_); rintro e w52 ⟨v321, v324, rfl, ho0, ho1, hb⟩; refine ⟨_, rfl, ?_⟩; have HO322 := Aside0.mk (Kd.S_lower ho0 (below_size bS)); have HO325 := Aside0.mk (Kd.S_lower ho1 (below_size bS)); replace BK317 := kB (g := gb317) hb; replace HB := hB hb; (try clear hb); (try clear hb2); (try clear hk); (try clear hi); (try clear ho0); (try clear ho1)) | ((with_reducible refine gD 3 ?_); refine bxE #[.int .i64 0, .int .i64 0, .slice none 0 0, .slice none 0 0] 58 ?_; intro gb327 hg w53 BK327 hb; have GW327 := gE hg; have GE327 := gE hg; have NB317_327 := nL (g := gb317) hg; have NB327_317 := nG (g := gb317) hg; replace HO322 := Aside0.mk (Kd.S_below (by (with_reducible repeat (first | apply Kd.S_alloc | apply Kd.S_drewN | apply Kd.S_drew)); exact HO322.out) hb); replace HO325 := Aside0.mk (Kd.S_below (by (with_reducible repeat (first | apply Kd.S_alloc | apply Kd.S_drewN | apply Kd.S_drew)); exact HO325.out) hb); replace BK317 := kB (g := gb317) hb; replace HB := hB hb; clear hb hg; have hnb54 := NB327_317.out; have hnc54 := NB317_327.out; have hz55 := cz4 BK327; obtain ⟨Ao56, co56, eo56⟩ := Kd.S_slice HO322.out; subst eo56; obtain ⟨Ao57, co57, eo57⟩ := Kd.S_slice HO325.out; subst eo57))
  go_ret
  exact ⟨eS, bS⟩

/-! ### impl_pageBox: function 111 -/
def impl_pageBox.f  : Option (Int × Int × Int × Int) := some (0, 0, 32, 32)
theorem impl_pageBox.calls  (r1 : Int) (r2 : Int) (r3 : Int) (r4 : Int) (w : World) (h : impl_pageBox.f  = some (r1, r2, r3, r4)) :
  Calls Try.prog 111 #[] w fun e w' => e = .returned (.agg #[.int .i64 r1, .int .i64 r2, .int .i64 r3, .int .i64 r4]) ∧ Below w.heap.size w w' := by
 have hu43 := Try.underlying43
 have HB := Aside0.mk (Below.refl w.heap.size w)
 have H : (some (0, 0, 32, 32)) = some (r1, r2, r3, r4) := h
 clear h
 simp only [Option.some.injEq, Prod.mk.injEq] at H
 obtain ⟨rfl, rfl, rfl, rfl⟩ := H
 go_enter Try.func111, Try.ntmps111
 go_wp2_with (first | ((with_reducible refine gD 0 ?_); refine bxE #[.int .i64 0, .int .i64 0, .int .i64 0, .int .i64 0] 43 ?_; intro gb331 hg w1 BK331 hb; have GW331 := gE hg; have GE331 := gE hg; replace HB := hB hb; clear hb hg; have hz2 := cz4 BK331))
 refine bodyPost_ret (results_cell_row rfl _ _ gb331 43 #[.int .i64 0, .int .i64 0, .int .i64 32, .int .i64 32] (0, 0) _ rfl kS Try.underlying43 rfl (by kernel_rfl)) rfl ?_
 exact ⟨eS, bS⟩

/-! ### impl_MeetBox: function 153 -/
def impl_MeetBox.j0 : Nat → Bool → Int → Int → Int → Int → Int → Int → Int → Int → Option (Int × Int × Int × Int)
 | 0, _, _, _, _, _, _, _, _, _ => none
 | k + 1, x13, x333000, x333001, x333002, x333003, x334000, x334001, x334002, x334003 => if x13 = true then (some (0, 0, 0, 0)) else (if (mx x333000 x334000) ≥ (mn x333002 x334002) then (some (0, 0, 0, 0)) else (if (mx x333001 x334001) ≥ (mn x333003 x334003) then (some (0, 0, 0, 0)) else (some (mx x333000 x334000, mx x333001 x334001, mn x333002 x334002, mn x333003 x334003))))
def impl_MeetBox.f (k : Nat) (a0_0 : Int) (a0_1 : Int) (a0_2 : Int) (a0_3 : Int) (a1_0 : Int) (a1_1 : Int) (a1_2 : Int) (a1_3 : Int) : Option (Int × Int × Int × Int) := (impl_BoxOk.f a0_0 a0_1 a0_2 a0_3).bind fun t335 => (if t335 = true then ((impl_BoxOk.f a1_0 a1_1 a1_2 a1_3).bind fun t336 => (impl_MeetBox.j0 k (!t336) a0_0 a0_1 a0_2 a0_3 a1_0 a1_1 a1_2 a1_3)) else (impl_MeetBox.j0 k true a0_0 a0_1 a0_2 a0_3 a1_0 a1_1 a1_2 a1_3))
theorem impl_MeetBox.calls (k : Nat) (a0_0 : Int) (a0_1 : Int) (a0_2 : Int) (a0_3 : Int) (a1_0 : Int) (a1_1 : Int) (a1_2 : Int) (a1_3 : Int) (r1 : Int) (r2 : Int) (r3 : Int) (r4 : Int) (w : World) (h : impl_MeetBox.f k a0_0 a0_1 a0_2 a0_3 a1_0 a1_1 a1_2 a1_3 = some (r1, r2, r3, r4)) :
  Calls Try.prog 153 #[.agg #[.int .i64 a0_0, .int .i64 a0_1, .int .i64 a0_2, .int .i64 a0_3], .agg #[.int .i64 a1_0, .int .i64 a1_1, .int .i64 a1_2, .int .i64 a1_3]] w fun e w' => e = .returned (.agg #[.int .i64 r1, .int .i64 r2, .int .i64 r3, .int .i64 r4]) ∧ Below w.heap.size w w' := by
 have hu43 := Try.underlying43
 have HB := Aside0.mk (Below.refl w.heap.size w)
 have H : ((impl_BoxOk.f a0_0 a0_1 a0_2 a0_3).bind fun t335 => (if t335 = true then ((impl_BoxOk.f a1_0 a1_1 a1_2 a1_3).bind fun t336 => (impl_MeetBox.j0 k (!t336) a0_0 a0_1 a0_2 a0_3 a1_0 a1_1 a1_2 a1_3)) else (impl_MeetBox.j0 k true a0_0 a0_1 a0_2 a0_3 a1_0 a1_1 a1_2 a1_3))) = some (r1, r2, r3, r4) := h
 clear h
 have HC3 := Aside0.mk H
 clear H
 go_enter Try.func153, Try.ntmps153
 go_upto_region 1 with (first | ((with_reducible refine gD 2 ?_); refine bxE #[.int .i64 a0_0, .int .i64 a0_1, .int .i64 a0_2, .int .i64 a0_3] 43 ?_; intro gb332 hg w4 BK332 hb; have GW332 := gE hg; have GE332 := gE hg; replace HB := hB hb; clear hb hg) | ((with_reducible refine gD 3 ?_); refine bxE #[.int .i64 a1_0, .int .i64 a1_1, .int .i64 a1_2, .int .i64 a1_3] 43 ?_; intro gb333 hg w5 BK333 hb; have GW333 := gE hg; have GE333 := gE hg; have NB332_333 := nL (g := gb332) hg; have NB333_332 := nG (g := gb332) hg; replace BK332 := kB (g := gb332) hb; replace HB := hB hb; clear hb hg) | ((with_reducible refine gD 4 ?_); refine bxE #[.int .i64 0, .int .i64 0, .int .i64 0, .int .i64 0] 43 ?_; intro gb334 hg w6 BK334 hb; have GW334 := gE hg; have GE334 := gE hg; have NB332_334 := nL (g := gb332) hg; have NB334_332 := nG (g := gb332) hg; have NB333_334 := nL (g := gb333) hg; have NB334_333 := nG (g := gb333) hg; replace BK332 := kB (g := gb332) hb; replace BK333 := kB (g := gb333) hb; replace HB := hB hb; clear hb hg))
 (try simp only [Act.put, List.setIfInBounds_toArray, List.set_cons_zero, List.set_cons_succ])
 go_cut [13] (fun v13 wc => ∃ (kq : Nat) (x13_2 : Bool), v13 = .bool x13_2 ∧ Aside0 (impl_MeetBox.j0 kq x13_2 a0_0 a0_1 a0_2 a0_3 a1_0 a1_1 a1_2 a1_3 = some (r1, r2, r3, r4)) ∧ Aside0 (kq ≤ k) ∧ Aside0 (wc.heap[gb332]? = some (.cells #[.int .i64 a0_0, .int .i64 a0_1, .int .i64 a0_2, .int .i64 a0_3] 43 (0, 0))) ∧ Aside0 (wc.heap[gb333]? = some (.cells #[.int .i64 a1_0, .int .i64 a1_1, .int .i64 a1_2, .int .i64 a1_3] 43 (0, 0))) ∧ Aside0 (wc.heap[gb334]? = some (.cells #[.int .i64 0, .int .i64 0, .int .i64 0, .int .i64 0] 43 (0, 0))) ∧ Aside0 (Below w.heap.size w wc))
 case first =>
  have H := HC3.out
  clear HC3
  replace H := bN H
  obtain ⟨t335, A7, H⟩ := H
  by_cases c8 : t335 = true
  ·subst c8
   rw [if_pos rfl] at H
   replace H := bN H
   obtain ⟨t336, A9, H⟩ := H
   have H' := Aside0.mk H
   clear H
   have hnb10 := NB332_333.out
   have hnc10 := NB333_332.out
   have hnb11 := NB332_334.out
   have hnc11 := NB334_332.out
   have hcz12_0 : w6.cell? ⟨gb332, 0, none⟩ = some (.int .i64 a0_0) := (blk_cell BK332.out 0).trans rfl
   have hcz12_1 : w6.cell? ⟨gb332, 1, none⟩ = some (.int .i64 a0_1) := (blk_cell BK332.out 1).trans rfl
   have hcz12_2 : w6.cell? ⟨gb332, 2, none⟩ = some (.int .i64 a0_2) := (blk_cell BK332.out 2).trans rfl
   have hcz12_3 : w6.cell? ⟨gb332, 3, none⟩ = some (.int .i64 a0_3) := (blk_cell BK332.out 3).trans rfl
   have hfz12_0 := blk_frozen BK332.out 0
   have hfz12_1 := blk_frozen BK332.out 1
   have hfz12_2 := blk_frozen BK332.out 2
   have hfz12_3 := blk_frozen BK332.out 3
   go_wp2_with (first | ((with_reducible refine gC 152 ?_); refine cL (some 7) Try.func152 #[.agg #[.int .i64 a0_0, .int .i64 a0_1, .int .i64 a0_2, .int .i64 a0_3]] ?_; (with_reducible refine (impl_BoxOk.calls a0_0 a0_1 a0_2 a0_3 _ _ A7.out).mono ?_); rintro e w13 ⟨rfl, hb⟩; refine ⟨_, rfl, ?_⟩; replace BK332 := kB (g := gb332) hb; replace BK333 := kB (g := gb333) hb; replace BK334 := kB (g := gb334) hb; replace HB := hB hb; (try clear hb); (try clear hb2); (try clear hk); (try clear hi); have hnb14 := NB333_334.out; have hnc14 := NB334_333.out; have hcz15_0 : w13.cell? ⟨gb333, 0, none⟩ = some (.int .i64 a1_0) := (blk_cell BK333.out 0).trans rfl; have hcz15_1 : w13.cell? ⟨gb333, 1, none⟩ = some (.int .i64 a1_1) := (blk_cell BK333.out 1).trans rfl; have hcz15_2 : w13.cell? ⟨gb333, 2, none⟩ = some (.int .i64 a1_2) := (blk_cell BK333.out 2).trans rfl; have hcz15_3 : w13.cell? ⟨gb333, 3, none⟩ = some (.int .i64 a1_3) := (blk_cell BK333.out 3).trans rfl; have hfz15_0 := blk_frozen BK333.out 0; have hfz15_1 := blk_frozen BK333.out 1; have hfz15_2 := blk_frozen BK333.out 2; have hfz15_3 := blk_frozen BK333.out 3) | (go_at_call 152; (with_reducible refine (impl_BoxOk.calls a1_0 a1_1 a1_2 a1_3 t336 _ A9.out).mono ?_); rintro e w16 ⟨rfl, hb⟩; replace BK332 := kB (g := gb332) hb; replace BK333 := kB (g := gb333) hb; replace BK334 := kB (g := gb334) hb; replace HB := hB hb; (try clear hb); (try clear hb2); (try clear hk); (try clear hi)))
   go_meet
   case rel => exact ⟨_, (!t336), (by first | rfl | (simp; done) | (simp [*]; done)), H', ⟨by first | omega | exact Nat.le_refl _⟩, ⟨kS⟩, ⟨kS⟩, ⟨kS⟩, ⟨bS⟩⟩
  ·obtain rfl := Bool.eq_false_iff.mpr c8
   rw [if_neg nF] at H
   have H' := Aside0.mk H
   clear H
   have hnb17 := NB332_333.out
   have hnc17 := NB333_332.out
   have hnb18 := NB332_334.out
   have hnc18 := NB334_332.out
   have hcz19_0 : w6.cell? ⟨gb332, 0, none⟩ = some (.int .i64 a0_0) := (blk_cell BK332.out 0).trans rfl
   have hcz19_1 : w6.cell? ⟨gb332, 1, none⟩ = some (.int .i64 a0_1) := (blk_cell BK332.out 1).trans rfl
   have hcz19_2 : w6.cell? ⟨gb332, 2, none⟩ = some (.int .i64 a0_2) := (blk_cell BK332.out 2).trans rfl
   have hcz19_3 : w6.cell? ⟨gb332, 3, none⟩ = some (.int .i64 a0_3) := (blk_cell BK332.out 3).trans rfl
   have hfz19_0 := blk_frozen BK332.out 0
   have hfz19_1 := blk_frozen BK332.out 1
   have hfz19_2 := blk_frozen BK332.out 2
   have hfz19_3 := blk_frozen BK332.out 3
   go_wp2_with (first | ((with_reducible refine gC 152 ?_); refine cL (some 7) Try.func152 #[.agg #[.int .i64 a0_0, .int .i64 a0_1, .int .i64 a0_2, .int .i64 a0_3]] ?_; (with_reducible refine (impl_BoxOk.calls a0_0 a0_1 a0_2 a0_3 _ _ A7.out).mono ?_); rintro e w20 ⟨rfl, hb⟩; refine ⟨_, rfl, ?_⟩; replace BK332 := kB (g := gb332) hb; replace BK333 := kB (g := gb333) hb; replace BK334 := kB (g := gb334) hb; replace HB := hB hb; (try clear hb); (try clear hb2); (try clear hk); (try clear hi)))
   go_meet
   case rel => exact ⟨_, (true), (by first | rfl | (simp; done) | (simp [*]; done)), H', ⟨by first | omega | exact Nat.le_refl _⟩, ⟨kS⟩, ⟨kS⟩, ⟨kS⟩, ⟨bS⟩⟩
 case rest =>
  clear HC3
  try clear c1
  try clear p2
  try clear c8
  try clear c10
  try clear c11
  try clear c14
  try clear c15
  try clear c17
  try clear c18
  try clear hcz12_0
  try clear hcz12_1
  try clear hcz12_2
  try clear hcz12_3
  try clear hcz15_0
  try clear hcz15_1
  try clear hcz15_2
  try clear hcz15_3
  try clear hcz19_0
  try clear hcz19_1
  try clear hcz19_2
  try clear hcz19_3
  try clear hfz12_0
  try clear hfz12_1
  try clear hfz12_2
  try clear hfz12_3
  try clear hfz15_0
  try clear hfz15_1
  try clear hfz15_2
  try clear hfz15_3
  try clear hfz19_0
  try clear hfz19_1
  try clear hfz19_2
  try clear hfz19_3
  obtain ⟨kq, x13_2, rfl, HA, HJ2, BK332, BK333, BK334, HB⟩ := hcut
  cases kq with
  | zero => exact absurd HA.out (by simp [impl_MeetBox.j0])
  | succ kj2 =>
   have H := HA.out
   clear HA
   simp only [impl_MeetBox.j0] at H
   by_cases c21 : x13_2 = true
   ·subst c21
    rw [if_pos rfl] at H
    simp only [Option.some.injEq, Prod.mk.injEq] at H
    obtain ⟨rfl, rfl, rfl, rfl⟩ := H
    have hnb22 := NB334_332.out
    have hnc22 := NB332_334.out
    have hnb23 := NB334_333.out
    have hnc23 := NB333_334.out
    have hz24 := cz4 BK334
    go_wp2
    refine bodyPost_ret (results_cell_row rfl _ _ gb334 43 #[.int .i64 0, .int .i64 0, .int .i64 0, .int .i64 0] (0, 0) _ rfl kS Try.underlying43 rfl (by kernel_rfl)) rfl ?_
    exact ⟨eS, bS⟩
   ·obtain rfl := Bool.eq_false_iff.mpr c21
    rw [if_neg nF] at H
    obtain ⟨ji25, hji25⟩ : ∃ j_ : Int, (mx a0_0 a1_0) = j_ := ⟨_, rfl⟩
    replace H : (if (ji25) ≥ (mn a0_2 a1_2) then (some (0, 0, 0, 0)) else (if (mx a0_1 a1_1) ≥ (mn a0_3 a1_3) then (some (0, 0, 0, 0)) else (some (ji25, mx a0_1 a1_1, mn a0_2 a1_2, mn a0_3 a1_3)))) = some (r1, r2, r3, r4) := by first | (rw [hji25] at H; exact H) | (simp only [hji25] at H ⊢; exact H)
    have hji25_ : (if a0_0 < a1_0 then a1_0 else a0_0) = ji25 := hji25
    obtain ⟨ji26, hji26⟩ : ∃ j_ : Int, (mx a0_1 a1_1) = j_ := ⟨_, rfl⟩
    replace H : (if (ji25) ≥ (mn a0_2 a1_2) then (some (0, 0, 0, 0)) else (if (ji26) ≥ (mn a0_3 a1_3) then (some (0, 0, 0, 0)) else (some (ji25, ji26, mn a0_2 a1_2, mn a0_3 a1_3)))) = some (r1, r2, r3, r4) := by first | (rw [hji26] at H; exact H) | (simp only [hji26] at H ⊢; exact H)
    have hji26_ : (if a0_1 < a1_1 then a1_1 else a0_1) = ji26 := hji26
    obtain ⟨ji27, hji27⟩ : ∃ j_ : Int, (mn a0_2 a1_2) = j_ := ⟨_, rfl⟩
    replace H : (if (ji25) ≥ (ji27) then (some (0, 0, 0, 0)) else (if (ji26) ≥ (mn a0_3 a1_3) then (some (0, 0, 0, 0)) else (some (ji25, ji26, ji27, mn a0_3 a1_3)))) = some (r1, r2, r3, r4) := by first | (rw [hji27] at H; exact H) | (simp only [hji27] at H ⊢; exact H)
    have hji27_ : (if a1_2 < a0_2 then a1_2 else a0_2) = ji27 := hji27
    obtain ⟨ji28, hji28⟩ : ∃ j_ : Int, (mn a0_3 a1_3) = j_ := ⟨_, rfl⟩
    replace H : (if (ji25) ≥ (ji27) then (some (0, 0, 0, 0)) else (if (ji26) ≥ (ji28) then (some (0, 0, 0, 0)) else (some (ji25, ji26, ji27, ji28)))) = some (r1, r2, r3, r4) := by first | (rw [hji28] at H; exact H) | (simp only [hji28] at H ⊢; exact H)
    have hji28_ : (if a1_3 < a0_3 then a1_3 else a0_3) = ji28 := hji28
    by_cases c29 : (ji25) ≥ (ji27)
    ·rw [if_pos c29] at H
     have c29b0 : decide ((ji27) ≤ (ji25)) = true := decide_eq_true c29
     clear c29
     simp only [Option.some.injEq, Prod.mk.injEq] at H
     obtain ⟨rfl, rfl, rfl, rfl⟩ := H
     have hnb30 := NB332_333.out
     have hnc30 := NB333_332.out
     have hnb31 := NB332_334.out
     have hnc31 := NB334_332.out
     have hz32 := cz4 BK332
     have hnb33 := NB333_334.out
     have hnc33 := NB334_333.out
     have hz34 := cz4 BK333
     go_wp2_with (first | ((with_reducible refine gD 5 ?_); refine bxE #[.int .i64 0, .int .i64 0, .int .i64 0, .int .i64 0] 43 ?_; intro gb337 hg w35 BK337 hb; have GW337 := gE hg; have GE337 := gE hg; have NB332_337 := nL (g := gb332) hg; have NB337_332 := nG (g := gb332) hg; have NB333_337 := nL (g := gb333) hg; have NB337_333 := nG (g := gb333) hg; have NB334_337 := nL (g := gb334) hg; have NB337_334 := nG (g := gb334) hg; replace BK332 := kB (g := gb332) hb; replace BK333 := kB (g := gb333) hb; replace BK334 := kB (g := gb334) hb; replace HB := hB hb; clear hb hg; have hnb36 := NB337_332.out; have hnc36 := NB332_337.out; have hnb37 := NB337_333.out; have hnc37 := NB333_337.out; have hnb38 := NB337_334.out; have hnc38 := NB334_337.out; have hz39 := cz4 BK337; have hz40 := cz4 BK334))
     refine bodyPost_ret (results_cell_row rfl _ _ gb334 43 #[.int .i64 0, .int .i64 0, .int .i64 0, .int .i64 0] (0, 0) _ rfl kS Try.underlying43 rfl (by kernel_rfl)) rfl ?_
     exact ⟨by first | rfl | (simp [errW_none, errW_some] <;> rfl) | (simp only [← hji25, ← hji26, ← hji27, ← hji28]; first | rfl | (simp [errW_none, errW_some] <;> rfl)) | (simp [*, errW_none, errW_some] <;> rfl), bS⟩
    ·rw [if_neg c29] at H
     have c29b0 : decide ((ji27) ≤ (ji25)) = false := decide_eq_false c29
     clear c29
     by_cases c41 : (ji26) ≥ (ji28)
     ·rw [if_pos c41] at H
      have c41b0 : decide ((ji28) ≤ (ji26)) = true := decide_eq_true c41
      clear c41
      simp only [Option.some.injEq, Prod.mk.injEq] at H
      obtain ⟨rfl, rfl, rfl, rfl⟩ := H
      have hnb42 := NB332_333.out
      have hnc42 := NB333_332.out
      have hnb43 := NB332_334.out
      have hnc43 := NB334_332.out
      have hz44 := cz4 BK332
      have hnb45 := NB333_334.out
      have hnc45 := NB334_333.out
      have hz46 := cz4 BK333
      go_wp2_with (first | ((with_reducible refine gD 5 ?_); refine bxE #[.int .i64 0, .int .i64 0, .int .i64 0, .int .i64 0] 43 ?_; intro gb337 hg w47 BK337 hb; have GW337 := gE hg; have GE337 := gE hg; have NB332_337 := nL (g := gb332) hg; have NB337_332 := nG (g := gb332) hg; have NB333_337 := nL (g := gb333) hg; have NB337_333 := nG (g := gb333) hg; have NB334_337 := nL (g := gb334) hg; have NB337_334 := nG (g := gb334) hg; replace BK332 := kB (g := gb332) hb; replace BK333 := kB (g := gb333) hb; replace BK334 := kB (g := gb334) hb; replace HB := hB hb; clear hb hg; have hnb48 := NB337_332.out; have hnc48 := NB332_337.out; have hnb49 := NB337_333.out; have hnc49 := NB333_337.out; have hnb50 := NB337_334.out; have hnc50 := NB334_337.out; have hz51 := cz4 BK337; have hz52 := cz4 BK334))
      refine bodyPost_ret (results_cell_row rfl _ _ gb334 43 #[.int .i64 0, .int .i64 0, .int .i64 0, .int .i64 0] (0, 0) _ rfl kS Try.underlying43 rfl (by kernel_rfl)) rfl ?_
      exact ⟨by first | rfl | (simp [errW_none, errW_some] <;> rfl) | (simp only [← hji25, ← hji26, ← hji27, ← hji28]; first | rfl | (simp [errW_none, errW_some] <;> rfl)) | (simp [*, errW_none, errW_some] <;> rfl), bS⟩
     ·rw [if_neg c41] at H
      have c41b0 : decide ((ji28) ≤ (ji26)) = false := decide_eq_false c41
      clear c41
      simp only [Option.some.injEq, Prod.mk.injEq] at H
      obtain ⟨rfl, rfl, rfl, rfl⟩ := H
      have hnb53 := NB332_333.out
      have hnc53 := NB333_332.out
      have hnb54 := NB332_334.out
      have hnc54 := NB334_332.out
      have hz55 := cz4 BK332
      have hnb56 := NB333_334.out
      have hnc56 := NB334_333.out
      have hz57 := cz4 BK333
      go_wp2_with (first | ((with_reducible refine gD 5 ?_); refine bxE #[.int .i64 0, .int .i64 0, .int .i64 0, .int .i64 0] 43 ?_; intro gb337 hg w58 BK337 hb; have GW337 := gE hg; have GE337 := gE hg; have NB332_337 := nL (g := gb332) hg; have NB337_332 := nG (g := gb332) hg; have NB333_337 := nL (g := gb333) hg; have NB337_333 := nG (g := gb333) hg; have NB334_337 := nL (g := gb334) hg; have NB337_334 := nG (g := gb334) hg; replace BK332 := kB (g := gb332) hb; replace BK333 := kB (g := gb333) hb; replace BK334 := kB (g := gb334) hb; replace HB := hB hb; clear hb hg; have hnb59 := NB337_332.out; have hnc59 := NB332_337.out; have hnb60 := NB337_333.out; have hnc60 := NB333_337.out; have hnb61 := NB337_334.out; have hnc61 := NB334_337.out; have hz62 := cz4 BK337; have hz63 := cz4 BK334))
      refine bodyPost_ret (results_cell_row rfl _ _ gb334 43 #[.int .i64 ji25, .int .i64 ji26, .int .i64 ji27, .int .i64 ji28] (0, 0) _ rfl kS Try.underlying43 rfl (by kernel_rfl)) rfl ?_
      exact ⟨by first | rfl | (simp [errW_none, errW_some] <;> rfl) | (simp only [← hji25, ← hji26, ← hji27, ← hji28]; first | rfl | (simp [errW_none, errW_some] <;> rfl)) | (simp [*, errW_none, errW_some] <;> rfl), bS⟩

end Go.Proofs.Ytigodjcnkgebaaa.QFnMemory
