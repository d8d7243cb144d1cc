-- Made out of the translation by a program of this session (a changed copy of the print). Not trusted: Lean checks it.
import Derived.Test.YtcalgoembdmlkaaQFnStoresx0
import Derived.Test.YtcalgoembdmlkaaQFnStoresx1
import Derived.Test.YtcalgoembdmlkaaQFnStoresx2
import Derived.Test.YtcalgoembdmlkaaQFnStoresx4
namespace Go.Proofs.Ytcalgoembdmlkaa.QFnStores
open Go.RowKit Go.Proofs.YtcalgoembdmlkaaW.PrintWords Go.Proofs.YtcalgoembdmlkaaW.PrintLast Go.Proofs.YtcalgoembdmlkaaW.PrintMore
attribute [local go_sem] max2_int min2_int max_two min_two max_three min_three max_four min_four   -- for this text's walks alone
set_option linter.unusedVariables false
set_option linter.unusedSimpArgs false
set_option maxHeartbeats 8000000
set_option maxRecDepth 100000

/-! ### impl_StoreSize: function 69 -/
def impl_StoreSize.l0 : Nat → Int → List (S40) → Int → Int → Option (Int)
  | 0, _, _, _, _ => none
  | k + 1, x3, x6, x7, x8 => if x8 < x7 then (if 0 ≤ x8 then (if x8 < (x6.length : Int) then (impl_StoreSize.l0 k (wrap64 (x3 + (wrap64 (1 + (((rd_T40 x6 x8).f1).length : Int))))) x6 x7 (wrap64 (x8 + 1))) else (none)) else (none)) else (some x3)
def impl_StoreSize.f (k : Nat) (l0 : List (S40)) : Option (Int) := impl_StoreSize.l0 k 0 l0 (l0.length : Int) 0
theorem impl_StoreSize.calls (k : Nat) (A0 : Option Addr) (c0 : Nat) (l0 : List (S40)) (r : Int) (w : World) (hr0 : Kd.C k40 w A0 l0.length l0) (hc0 : l0.length ≤ c0) (h : impl_StoreSize.f k l0 = some r) :
    Calls Try.prog 69 #[.slice A0 l0.length c0] w fun e w' => e = .returned (.int .i64 r) ∧ Below w.heap.size w w' := by
  have hu40 := Try.underlying40
  have HR0 := Aside0.mk hr0
  have HC0 := Aside0.mk hc0
  clear hr0 hc0
  have HB := Aside0.mk (Below.refl w.heap.size w)
  have H : (impl_StoreSize.l0 k 0 l0 (l0.length : Int) 0) = some r := h
  clear h
  have H' := Aside0.mk H
  clear H
  go_enter Try.func69, Try.ntmps69
  go_wp2
  go_loopg [3, 8] k (fun kq v3 v8 w' => ∃ (x3_1 : Int) (x8_1 : Int), v3 = .int .i64 x3_1 ∧ v8 = .int .i64 x8_1 ∧ Aside0 (impl_StoreSize.l0 kq x3_1 l0 (l0.length : Int) x8_1 = some r) ∧ Aside0 (kq ≤ k) ∧ Aside0 (Below w.heap.size w w'))
  case atStart => exact ⟨(0), (0), (by first | rfl | (simp; done) | (simp [*]; done)), (by first | rfl | (simp; done) | (simp [*]; done)), H', ⟨Nat.le_refl _⟩, ⟨bS⟩⟩
  case round =>
    clear H'
    obtain ⟨x3_1, x8_1, rfl, rfl, HA, HK1, HB⟩ := hrel
    cases gk with
    | zero => exact absurd HA.out (by simp [impl_StoreSize.l0])
    | succ k1 =>
      have H := HA.out
      clear HA
      simp only [impl_StoreSize.l0] at H
      by_cases c2 : x8_1 < (l0.length : Int)
      · rw [if_pos c2] at H
        have c2b0 : decide (x8_1 < (l0.length : Int)) = true := decide_eq_true c2
        clear c2
        by_cases c3 : 0 ≤ x8_1
        · rw [if_pos c3] at H
          have c3b0 : decide (0 ≤ x8_1) = true := decide_eq_true c3
          clear c3
          by_cases c4 : x8_1 < (l0.length : Int)
          · rw [if_pos c4] at H
            have c4b0 : decide (x8_1 < (l0.length : Int)) = true := decide_eq_true c4
            clear c4
            have H' := Aside0.mk H
            clear H
            have p266 : 0 ≤ (x8_1 : Int) := of_decide_eq_true (by first | (with_reducible assumption) | assumption)
            have q266 : x8_1 < (l0.length : Int) := of_decide_eq_true (by first | (with_reducible assumption) | assumption)
            obtain ⟨ad266, A266_1, c266_1, e266, hx266_0, hx266_1, hl266_1, hi266_1⟩ := at_T40 HR0.out x8_1 p266 q266
            cases e266
            replace hx266_0 := (HB.out.cell (World.block_lt_of_cell? w _ hx266_0)).trans hx266_0
            replace hx266_1 := (HB.out.cell (World.block_lt_of_cell? w _ hx266_1)).trans hx266_1
            have HR266_1 := Aside0.mk hi266_1
            have HC266_1 := Aside0.mk hl266_1
            clear hi266_1 hl266_1
            replace p266 := eq_true p266
            replace q266 := eq_true q266
            go_wp2_with (first | ((with_reducible refine gD 5 ?_); refine bxE #[.bool false, .slice none 0 0] 40 ?_; intro gb267 hg w5 BK267 hb; have GW267 := gE hg; have GE267 := gE hg; replace HB := hB hb; clear hb hg; have hz6 := cz2 BK267))
            go_roundg k1
            case measure => have := HK1.out; omega
            case rel => exact ⟨(wrap64 (x3_1 + (wrap64 (1 + (((rd_T40 l0 x8_1).f1).length : Int))))), (wrap64 (x8_1 + 1)), (by first | rfl | (simp; done) | (simp [*]; done)), (by first | rfl | (simp; done) | (simp [*]; done)), H', ⟨by have := HK1.out; omega⟩, ⟨bS⟩⟩
          · rw [if_neg c4] at H
            exact absurd H (by simp)
        · rw [if_neg c3] at H
          exact absurd H (by simp)
      · rw [if_neg c2] at H
        have c2b0 : decide (x8_1 < (l0.length : Int)) = false := decide_eq_false c2
        clear c2
        obtain rfl := Option.some.inj H
        go_wp2
        go_ret
        exact ⟨eS, bS⟩

/-! ### laws_FnStores: function 11 -/
def laws_FnStores.l0 : Nat → List (List Int) → List (S40) → List (List Int) → Bool → Int → Option (Bool)
  | 0, _, _, _, _, _ => none
  | k + 1, x3, x4, x5, x6, x7 => if x7 < (x4.length : Int) then (if 0 ≤ x7 then ((impl_UnpackRow.f k ((rd_T40 x4 x7).f0) ((rd_T40 x4 x7).f1)).bind fun bt282 => (if bt282.2 = true then (if x7 ≥ (x3.length : Int) then (some false) else (if x7 < (x3.length : Int) then ((laws_sameInts.f k bt282.1 (rd_L2 x3 x7)).bind fun t287 => (if t287 = true then (if (((rd_T40 x4 x7).f1).length : Int) > 32 then (some false) else (laws_FnStores.l0 k x3 x4 x5 x6 (wrap64 (x7 + 1)))) else (some false))) else (none))) else (some false))) else (none)) else (if x6 = true then (if (x4.length : Int) = (x3.length : Int) then ((impl_SameRows.f k x5 x3).bind fun t279 => (if t279 = true then ((impl_StoreSize.f k x4).bind fun t280 => (some (decide (t280 ≤ (wrap64 ((x3.length : Int) * 33)))))) else (some false))) else (some false)) else (some false))
def laws_FnStores.f (k : Nat) (l0 : List Int) : Option (Bool) := (laws_big.f l0).bind fun t268 => (if t268 = true then (some true) else ((spec_DrawRows.f k l0).bind fun t269 => ((impl_PackRows.f k t269).bind fun t272 => ((impl_UnpackRows.f k t272).bind fun bt275 => (laws_FnStores.l0 k t269 t272 bt275.1 bt275.2 0)))))
theorem laws_FnStores.calls (k : Nat) (A0 : Option Addr) (c0 : Nat) (l0 : List Int) (r : Bool) (w : World) (hr0 : Kd.C (Kd.int .u8) w A0 l0.length l0) (hc0 : l0.length ≤ c0) (h : laws_FnStores.f k l0 = some r) :
    Calls Try.prog 11 #[.slice A0 l0.length c0] w fun e w' => e = .returned (.bool r) ∧ Below w.heap.size w w' := by
  have hu40 := Try.underlying40
  have HR0 := Aside0.mk hr0
  have HC0 := Aside0.mk hc0
  clear hr0 hc0
  have HB := Aside0.mk (Below.refl w.heap.size w)
  have H : ((laws_big.f l0).bind fun t268 => (if t268 = true then (some true) else ((spec_DrawRows.f k l0).bind fun t269 => ((impl_PackRows.f k t269).bind fun t272 => ((impl_UnpackRows.f k t272).bind fun bt275 => (laws_FnStores.l0 k t269 t272 bt275.1 bt275.2 0)))))) = some r := h
  clear h
  replace H := bN H
  obtain ⟨t268, A2, H⟩ := H
  by_cases c3 : t268 = true
  · subst c3
    rw [if_pos rfl] at H
    obtain rfl := Option.some.inj H
    go_enter Try.func11, Try.ntmps11
    go_wp2_with (first | ((with_reducible refine gC 24 ?_); refine cL (some 11) Try.func24 #[.slice A0 l0.length c0] ?_; (with_reducible refine (laws_big.calls _ _ l0 _ _ ?side1 ?side2 A2.out).mono ?_); (case side1 => repeat (first | exact HR0.out | (with_reducible refine Kd.C_alloc ?_ _) | (with_reducible refine Kd.C_drewN ?_ _) | (with_reducible refine Kd.C_drew ?_))); (case side2 => exact HC0.out); rintro e w' ⟨rfl, ⟨nd, rfl⟩⟩; refine ⟨_, rfl, ?_⟩))
    go_ret
    exact ⟨eS, bS⟩
  · obtain rfl := Bool.eq_false_iff.mpr c3
    rw [if_neg nF] at H
    replace H := bN H
    obtain ⟨t269, A4, H⟩ := H
    replace H := bN H
    obtain ⟨t272, A5, H⟩ := H
    replace H := bN H
    obtain ⟨⟨t275, t276⟩, A6, H⟩ := H
    have H' := Aside0.mk H
    clear H
    go_enter Try.func11, Try.ntmps11
    go_wp2_with (first | ((with_reducible refine gC 24 ?_); refine cL (some 11) Try.func24 #[.slice A0 l0.length c0] ?_; (with_reducible refine (laws_big.calls _ _ l0 _ _ ?side1 ?side2 A2.out).mono ?_); (case side1 => repeat (first | exact HR0.out | (with_reducible refine Kd.C_alloc ?_ _) | (with_reducible refine Kd.C_drewN ?_ _) | (with_reducible refine Kd.C_drew ?_))); (case side2 => exact HC0.out); rintro e w' ⟨rfl, ⟨nd, rfl⟩⟩; refine ⟨_, rfl, ?_⟩) | ((with_reducible refine gC 64 ?_); refine cL (some 13) Try.func64 #[.slice A0 l0.length c0] ?_; (with_reducible refine (spec_DrawRows.calls k _ _ l0 t269 _ ?side1 ?side2 A4.out).mono ?_); (case side1 => repeat (first | exact HR0.out | (with_reducible refine Kd.C_alloc ?_ _) | (with_reducible refine Kd.C_drewN ?_ _) | (with_reducible refine Kd.C_drew ?_))); (case side2 => exact HC0.out); rintro e w7 ⟨v270, rfl, ho0, hb⟩; refine ⟨_, rfl, ?_⟩; have HO271 := Aside0.mk (Kd.S_lower ho0 (below_size bS)); replace HB := hB hb; (try clear hb); (try clear hb2); (try clear hk); (try clear hi); (try clear ho0); obtain ⟨Ao8, co8, eo8⟩ := Kd.S_slice HO271.out; subst eo8) | ((with_reducible refine gC 65 ?_); refine cL (some 15) Try.func65 #[.slice Ao8 t269.length co8] ?_; (with_reducible refine (impl_PackRows.calls k _ _ t269 t272 _ ?side1 ?side2 A5.out).mono ?_); (case side1 => exact cS (Kd.S_reads' HO271.out).2.2); (case side2 => exact (Kd.S_reads' HO271.out).2.1); rintro e w9 ⟨v273, rfl, ho0, hb⟩; refine ⟨_, rfl, ?_⟩; have HO274 := Aside0.mk (Kd.S_lower ho0 (below_size bS)); replace HO271 := Aside0.mk (Kd.S_below (by (with_reducible repeat (first | apply Kd.S_alloc | apply Kd.S_drewN | apply Kd.S_drew)); exact HO271.out) hb); replace HB := hB hb; (try clear hb); (try clear hb2); (try clear hk); (try clear hi); (try clear ho0); obtain ⟨Ao10, co10, eo10⟩ := Kd.S_slice HO274.out; subst eo10) | ((with_reducible refine gC 66 ?_); refine cL (some 18) Try.func66 #[.slice Ao10 t272.length co10] ?_; (with_reducible refine (impl_UnpackRows.calls k _ _ t272 t275 t276 _ ?side1 ?side2 A6.out).mono ?_); (case side1 => exact cS (Kd.S_reads' HO274.out).2.2); (case side2 => exact (Kd.S_reads' HO274.out).2.1); rintro e w11 ⟨v277, rfl, ho0, hb⟩; refine ⟨_, rfl, ?_⟩; have HO278 := Aside0.mk (Kd.S_lower (Kd.S_new' ho0 (Kd.S_lt (by (with_reducible repeat (first | apply Kd.S_alloc | apply Kd.S_drewN | apply Kd.S_drew)); exact HO271.out))) (below_size bS)); replace HO271 := Aside0.mk (Kd.S_elder' (by (with_reducible repeat (first | apply Kd.S_alloc | apply Kd.S_drewN | apply Kd.S_drew)); exact HO271.out) (Kd.S_base ho0) hb); replace HO274 := Aside0.mk (Kd.S_below (by (with_reducible repeat (first | apply Kd.S_alloc | apply Kd.S_drewN | apply Kd.S_drew)); exact HO274.out) hb); replace HB := hB hb; (try clear hb); (try clear hb2); (try clear hk); (try clear hi); (try clear ho0)))
    go_loopg [7] k (fun kq v7 w' => ∃ (x7_1 : Int), v7 = .int .i64 x7_1 ∧ Aside0 (laws_FnStores.l0 kq t269 t272 t275 t276 x7_1 = some r) ∧ Aside0 (kq ≤ k) ∧ Aside0 (Kd.S (Kd.slice 3 (Kd.int .i64)) 24 w' w.heap.size (fun k_ => some k_ ≠ (v277 : Value).ownBlock) (.slice Ao8 t269.length co8) t269) ∧ Aside0 (Kd.S k40 40 w' w.heap.size (fun _ => True) (.slice Ao10 t272.length co10) t272) ∧ Aside0 (Kd.S (Kd.slice 3 (Kd.int .i64)) 24 w' w.heap.size (fun k_ => some k_ ≠ ((.slice Ao8 t269.length co8) : Value).ownBlock) v277 t275) ∧ Aside0 (Below w.heap.size w w'))
    case atStart => exact ⟨(0), (by first | rfl | (simp; done) | (simp [*]; done)), H', ⟨Nat.le_refl _⟩, ⟨by (with_reducible repeat (first | apply Kd.S_alloc | apply Kd.S_drewN | apply Kd.S_drew)); exact Kd.S_mono HO271.out (fun _ hk => hk.2)⟩, ⟨by (with_reducible repeat (first | apply Kd.S_alloc | apply Kd.S_drewN | apply Kd.S_drew)); exact HO274.out⟩, ⟨by (with_reducible repeat (first | apply Kd.S_alloc | apply Kd.S_drewN | apply Kd.S_drew)); exact Kd.S_mono HO278.out (fun _ hk => hk.2)⟩, ⟨bS⟩⟩
    case round =>
      clear H'
      try clear c1
      try clear c2
      try clear p2
      try clear c3
      try clear c6
      try clear c11
      obtain ⟨x7_1, rfl, HA, HK1, HO_3, HO_4, HO_5, HB⟩ := hrel
      cases gk with
      | zero => exact absurd HA.out (by simp [laws_FnStores.l0])
      | succ k1 =>
        have H := HA.out
        clear HA
        simp only [laws_FnStores.l0] at H
        by_cases c12 : x7_1 < (t272.length : Int)
        · rw [if_pos c12] at H
          have c12b0 : decide (x7_1 < (t272.length : Int)) = true := decide_eq_true c12
          clear c12
          by_cases c13 : 0 ≤ x7_1
          · rw [if_pos c13] at H
            have c13b0 : decide (0 ≤ x7_1) = true := decide_eq_true c13
            clear c13
            replace H := bN H
            obtain ⟨⟨t282, t285⟩, A14, H⟩ := H
            by_cases c15 : t285 = true
            · subst c15
              rw [if_pos rfl] at H
              by_cases c16 : x7_1 ≥ (t269.length : Int)
              · rw [if_pos c16] at H
                have c16b0 : decide ((t269.length : Int) ≤ x7_1) = true := decide_eq_true c16
                clear c16
                obtain rfl := Option.some.inj H
                have p281 : 0 ≤ (x7_1 : Int) := of_decide_eq_true (by first | (with_reducible assumption) | assumption)
                have q281 : x7_1 < (t272.length : Int) := of_decide_eq_true (by first | (with_reducible assumption) | assumption)
                obtain ⟨ad281, A281_1, c281_1, e281, hx281_0, hx281_1, hl281_1, hi281_1⟩ := at_T40 (Kd.S_reads' HO_4.out).2.2 x7_1 p281 q281
                cases e281
                obtain ⟨ce281, hce281, hMe281, hcc281⟩ := Kd.S_get HO_4.out z40 x7_1 p281 (by first | exact q281 | exact of_decide_eq_true (by first | (with_reducible assumption) | assumption) | (have e_ := (Kd.S_reads' HO_4.out).1; omega))
                obtain ⟨ve281_1, rfl, ge281_1⟩ := k40_openM hMe281
                have hv281_1 := hcc281 1 _ rfl
                rw [add_field _ _ 1 (by omega)] at hv281_1
                replace hv281_1 := Option.some.inj (hv281_1.symm.trans hx281_1)
                rw [hv281_1] at ge281_1
                have HL281_1 := Aside0.mk (show Kd.R (Kd.int .i64) 3 _ _ _ _ ((rd_T40 t272 x7_1).f1) from ge281_1)
                clear hv281_1 ge281_1
                clear hcc281 hce281
                have HR281_1 := Aside0.mk hi281_1
                have HC281_1 := Aside0.mk hl281_1
                clear hi281_1 hl281_1
                replace p281 := eq_true p281
                replace q281 := eq_true q281
                go_wp2_with (first | ((with_reducible refine gC 67 ?_); refine cL (some 32) Try.func67 #[.agg #[.bool ((rd_T40 t272 x7_1).f0), .slice A281_1 ((rd_T40 t272 x7_1).f1).length c281_1]] ?_; (with_reducible refine (impl_UnpackRow.calls k1 ((rd_T40 t272 x7_1).f0) _ _ ((rd_T40 t272 x7_1).f1) t282 _ _ ?side1 ?side2 A14.out).mono ?_); (case side1 => repeat (first | exact (by repeat (first | (with_reducible exact HR281_1.out) | (with_reducible refine Kd.C_alloc ?_ _) | (with_reducible refine Kd.C_drewN ?_ _) | (with_reducible refine Kd.C_drew ?_) | exact HR281_1.out)) | (with_reducible refine Kd.C_alloc ?_ _) | (with_reducible refine Kd.C_drewN ?_ _) | (with_reducible refine Kd.C_drew ?_))); (case side2 => exact HC281_1.out); rintro e w17 ⟨v283, rfl, ho0, hb⟩; refine ⟨_, rfl, ?_⟩; have HO284 := Aside0.mk (Kd.R_lower (Kd.R_new' ho0 (Kd.R_lt (rS HL281_1))) (below_size bS)); replace HO_3 := Aside0.mk (Kd.S_elder' (by (with_reducible repeat (first | apply Kd.S_alloc | apply Kd.S_drewN | apply Kd.S_drew)); exact HO_3.out) (Kd.R_base ho0) hb); replace HO_4 := Aside0.mk (Kd.S_elder' (by (with_reducible repeat (first | apply Kd.S_alloc | apply Kd.S_drewN | apply Kd.S_drew)); exact HO_4.out) (Kd.R_base ho0) hb); replace HO_5 := Aside0.mk (Kd.S_elder' (by (with_reducible repeat (first | apply Kd.S_alloc | apply Kd.S_drewN | apply Kd.S_drew)); exact HO_5.out) (Kd.R_base ho0) hb); replace HL281_1 := Aside0.mk (Kd.R_elder' (rS HL281_1) (Kd.R_base ho0) hb); replace HR281_1 := Aside0.mk (Kd.C_below (by repeat (first | (with_reducible exact HR281_1.out) | (with_reducible refine Kd.C_alloc ?_ _) | (with_reducible refine Kd.C_drewN ?_ _) | (with_reducible refine Kd.C_drew ?_) | exact HR281_1.out)) hb); replace HB := hB hb; (try clear hb); (try clear hb2); (try clear hk); (try clear hi); (try clear ho0)))
                go_ret
                exact ⟨eS, bS⟩
              · rw [if_neg c16] at H
                have c16b0 : decide ((t269.length : Int) ≤ x7_1) = false := decide_eq_false c16
                clear c16
                by_cases c18 : x7_1 < (t269.length : Int)
                · rw [if_pos c18] at H
                  have c18b0 : decide (x7_1 < (t269.length : Int)) = true := decide_eq_true c18
                  clear c18
                  replace H := bN H
                  obtain ⟨t287, A19, H⟩ := H
                  by_cases c20 : t287 = true
                  · subst c20
                    rw [if_pos rfl] at H
                    by_cases c21 : (((rd_T40 t272 x7_1).f1).length : Int) > 32
                    · rw [if_pos c21] at H
                      have c21b0 : decide (32 < (((rd_T40 t272 x7_1).f1).length : Int)) = true := decide_eq_true c21
                      have c21b1 : decide (32 < ((rd_T40 t272 x7_1).f1).length) = true := decide_eq_true (by omega)
                      clear c21
                      obtain rfl := Option.some.inj H
                      have p281 : 0 ≤ (x7_1 : Int) := of_decide_eq_true (by first | (with_reducible assumption) | assumption)
                      have q281 : x7_1 < (t272.length : Int) := of_decide_eq_true (by first | (with_reducible assumption) | assumption)
                      obtain ⟨ad281, A281_1, c281_1, e281, hx281_0, hx281_1, hl281_1, hi281_1⟩ := at_T40 (Kd.S_reads' HO_4.out).2.2 x7_1 p281 q281
                      cases e281
                      obtain ⟨ce281, hce281, hMe281, hcc281⟩ := Kd.S_get HO_4.out z40 x7_1 p281 (by first | exact q281 | exact of_decide_eq_true (by first | (with_reducible assumption) | assumption) | (have e_ := (Kd.S_reads' HO_4.out).1; omega))
                      obtain ⟨ve281_1, rfl, ge281_1⟩ := k40_openM hMe281
                      have hv281_1 := hcc281 1 _ rfl
                      rw [add_field _ _ 1 (by omega)] at hv281_1
                      replace hv281_1 := Option.some.inj (hv281_1.symm.trans hx281_1)
                      rw [hv281_1] at ge281_1
                      have HL281_1 := Aside0.mk (show Kd.R (Kd.int .i64) 3 _ _ _ _ ((rd_T40 t272 x7_1).f1) from ge281_1)
                      clear hv281_1 ge281_1
                      clear hcc281 hce281
                      have HR281_1 := Aside0.mk hi281_1
                      have HC281_1 := Aside0.mk hl281_1
                      clear hi281_1 hl281_1
                      replace p281 := eq_true p281
                      replace q281 := eq_true q281
                      go_wp2_with (first | ((with_reducible refine gC 67 ?_); refine cL (some 32) Try.func67 #[.agg #[.bool ((rd_T40 t272 x7_1).f0), .slice A281_1 ((rd_T40 t272 x7_1).f1).length c281_1]] ?_; (with_reducible refine (impl_UnpackRow.calls k1 ((rd_T40 t272 x7_1).f0) _ _ ((rd_T40 t272 x7_1).f1) t282 _ _ ?side1 ?side2 A14.out).mono ?_); (case side1 => repeat (first | exact (by repeat (first | (with_reducible exact HR281_1.out) | (with_reducible refine Kd.C_alloc ?_ _) | (with_reducible refine Kd.C_drewN ?_ _) | (with_reducible refine Kd.C_drew ?_) | exact HR281_1.out)) | (with_reducible refine Kd.C_alloc ?_ _) | (with_reducible refine Kd.C_drewN ?_ _) | (with_reducible refine Kd.C_drew ?_))); (case side2 => exact HC281_1.out); rintro e w22 ⟨v283, rfl, ho0, hb⟩; refine ⟨_, rfl, ?_⟩; have HO284 := Aside0.mk (Kd.R_lower (Kd.R_new' ho0 (Kd.R_lt (rS HL281_1))) (below_size bS)); replace HO_3 := Aside0.mk (Kd.S_elder' (by (with_reducible repeat (first | apply Kd.S_alloc | apply Kd.S_drewN | apply Kd.S_drew)); exact HO_3.out) (Kd.R_base ho0) hb); replace HO_4 := Aside0.mk (Kd.S_elder' (by (with_reducible repeat (first | apply Kd.S_alloc | apply Kd.S_drewN | apply Kd.S_drew)); exact HO_4.out) (Kd.R_base ho0) hb); replace HO_5 := Aside0.mk (Kd.S_elder' (by (with_reducible repeat (first | apply Kd.S_alloc | apply Kd.S_drewN | apply Kd.S_drew)); exact HO_5.out) (Kd.R_base ho0) hb); replace HL281_1 := Aside0.mk (Kd.R_elder' (rS HL281_1) (Kd.R_base ho0) hb); replace HR281_1 := Aside0.mk (Kd.C_below (by repeat (first | (with_reducible exact HR281_1.out) | (with_reducible refine Kd.C_alloc ?_ _) | (with_reducible refine Kd.C_drewN ?_ _) | (with_reducible refine Kd.C_drew ?_) | exact HR281_1.out)) hb); replace HB := hB hb; (try clear hb); (try clear hb2); (try clear hk); (try clear hi); (try clear ho0); have p286 : 0 ≤ (x7_1 : Int) := of_decide_eq_true (by first | (with_reducible assumption) | assumption); have q286 : x7_1 < (t269.length : Int) := of_decide_eq_true (by first | (with_reducible assumption) | assumption); obtain ⟨ad286, A286_0, c286_0, e286, hx286_0, hl286_0, hi286_0⟩ := at_L2 (Kd.S_reads' HO_3.out).2.2 x7_1 p286 q286; cases e286; obtain ⟨ce286, hce286, hMe286, hcc286⟩ := Kd.S_get HO_3.out [] x7_1 p286 (by first | exact q286 | exact of_decide_eq_true (by first | (with_reducible assumption) | assumption) | (have e_ := (Kd.S_reads' HO_3.out).1; omega)); obtain ⟨ve286_0, rfl, ge286_0⟩ := hMe286; have hv286_0 := hcc286 0 _ rfl; rw [Nat.add_zero, show ((Kd.slice 3 (Kd.int .i64))).sz = 1 from rfl, Nat.mul_one] at hv286_0; replace hv286_0 := Option.some.inj (hv286_0.symm.trans hx286_0); rw [hv286_0] at ge286_0; have HL286_0 := Aside0.mk (show Kd.R (Kd.int .i64) 3 _ _ _ _ (rd_L2 t269 x7_1) from ge286_0); clear hv286_0 ge286_0; clear hcc286 hce286; have HR286_0 := Aside0.mk hi286_0; have HC286_0 := Aside0.mk hl286_0; clear hi286_0 hl286_0; replace p286 := eq_true p286; replace q286 := eq_true q286; obtain ⟨Ao23, co23, eo23⟩ := Kd.R_slice HO284.out; subst eo23) | (go_at_call 30; (with_reducible refine (laws_sameInts.calls k1 _ _ t282 _ _ (rd_L2 t269 x7_1) _ _ ?side1 ?side2 ?side3 ?side4 A19.out).mono ?_); (case side1 => exact cS (Kd.R_reads' HO284.out).2.2); (case side2 => exact (Kd.R_reads' HO284.out).2.1); (case side3 => repeat (first | exact (by repeat (first | (with_reducible exact HR286_0.out) | (with_reducible refine Kd.C_alloc ?_ _) | (with_reducible refine Kd.C_drewN ?_ _) | (with_reducible refine Kd.C_drew ?_) | exact HR286_0.out)) | (with_reducible refine Kd.C_alloc ?_ _) | (with_reducible refine Kd.C_drewN ?_ _) | (with_reducible refine Kd.C_drew ?_))); (case side4 => exact HC286_0.out); rintro e w' ⟨rfl, ⟨nd, rfl⟩⟩; have p288 : 0 ≤ (x7_1 : Int) := of_decide_eq_true (by first | (with_reducible assumption) | assumption); have q288 : x7_1 < (t272.length : Int) := of_decide_eq_true (by first | (with_reducible assumption) | assumption); obtain ⟨ad288, A288_1, c288_1, e288, hx288_0, hx288_1, hl288_1, hi288_1⟩ := at_T40 (Kd.S_reads' HO_4.out).2.2 x7_1 p288 q288; obtain rfl : ad281 = ad288 := (by injection e288); obtain ⟨ce288, hce288, hMe288, hcc288⟩ := Kd.S_get HO_4.out z40 x7_1 p288 (by first | exact q288 | exact of_decide_eq_true (by first | (with_reducible assumption) | assumption) | (have e_ := (Kd.S_reads' HO_4.out).1; omega)); obtain ⟨ve288_1, rfl, ge288_1⟩ := k40_openM hMe288; have hv288_1 := hcc288 1 _ rfl; rw [add_field _ _ 1 (by omega)] at hv288_1; replace hv288_1 := Option.some.inj (hv288_1.symm.trans hx288_1); rw [hv288_1] at ge288_1; have HL288_1 := Aside0.mk (show Kd.R (Kd.int .i64) 3 _ _ _ _ ((rd_T40 t272 x7_1).f1) from ge288_1); clear hv288_1 ge288_1; clear hcc288 hce288; have HR288_1 := Aside0.mk hi288_1; have HC288_1 := Aside0.mk hl288_1; clear hi288_1 hl288_1; replace p288 := eq_true p288; replace q288 := eq_true q288))
                      go_ret
                      exact ⟨eS, bS⟩
                    · rw [if_neg c21] at H
                      have c21b0 : decide (32 < (((rd_T40 t272 x7_1).f1).length : Int)) = false := decide_eq_false c21
                      have c21b1 : decide (32 < ((rd_T40 t272 x7_1).f1).length) = false := decide_eq_false (by omega)
                      clear c21
                      have H' := Aside0.mk H
                      clear H
                      have p281 : 0 ≤ (x7_1 : Int) := of_decide_eq_true (by first | (with_reducible assumption) | assumption)
                      have q281 : x7_1 < (t272.length : Int) := of_decide_eq_true (by first | (with_reducible assumption) | assumption)
                      obtain ⟨ad281, A281_1, c281_1, e281, hx281_0, hx281_1, hl281_1, hi281_1⟩ := at_T40 (Kd.S_reads' HO_4.out).2.2 x7_1 p281 q281
                      cases e281
                      obtain ⟨ce281, hce281, hMe281, hcc281⟩ := Kd.S_get HO_4.out z40 x7_1 p281 (by first | exact q281 | exact of_decide_eq_true (by first | (with_reducible assumption) | assumption) | (have e_ := (Kd.S_reads' HO_4.out).1; omega))
                      obtain ⟨ve281_1, rfl, ge281_1⟩ := k40_openM hMe281
                      have hv281_1 := hcc281 1 _ rfl
                      rw [add_field _ _ 1 (by omega)] at hv281_1
                      replace hv281_1 := Option.some.inj (hv281_1.symm.trans hx281_1)
                      rw [hv281_1] at ge281_1
                      have HL281_1 := Aside0.mk (show Kd.R (Kd.int .i64) 3 _ _ _ _ ((rd_T40 t272 x7_1).f1) from ge281_1)
                      clear hv281_1 ge281_1
                      clear hcc281 hce281
                      have HR281_1 := Aside0.mk hi281_1
                      have HC281_1 := Aside0.mk hl281_1
                      clear hi281_1 hl281_1
                      replace p281 := eq_true p281
                      replace q281 := eq_true q281
                      go_wp2_with (first | ((with_reducible refine gC 67 ?_); refine cL (some 32) Try.func67 #[.agg #[.bool ((rd_T40 t272 x7_1).f0), .slice A281_1 ((rd_T40 t272 x7_1).f1).length c281_1]] ?_; (with_reducible refine (impl_UnpackRow.calls k1 ((rd_T40 t272 x7_1).f0) _ _ ((rd_T40 t272 x7_1).f1) t282 _ _ ?side1 ?side2 A14.out).mono ?_); (case side1 => repeat (first | exact (by repeat (first | (with_reducible exact HR281_1.out) | (with_reducible refine Kd.C_alloc ?_ _) | (with_reducible refine Kd.C_drewN ?_ _) | (with_reducible refine Kd.C_drew ?_) | exact HR281_1.out)) | (with_reducible refine Kd.C_alloc ?_ _) | (with_reducible refine Kd.C_drewN ?_ _) | (with_reducible refine Kd.C_drew ?_))); (case side2 => exact HC281_1.out); rintro e w24 ⟨v283, rfl, ho0, hb⟩; refine ⟨_, rfl, ?_⟩; have HO284 := Aside0.mk (Kd.R_lower (Kd.R_new' ho0 (Kd.R_lt (rS HL281_1))) (below_size bS)); replace HO_3 := Aside0.mk (Kd.S_elder' (by (with_reducible repeat (first | apply Kd.S_alloc | apply Kd.S_drewN | apply Kd.S_drew)); exact HO_3.out) (Kd.R_base ho0) hb); replace HO_4 := Aside0.mk (Kd.S_elder' (by (with_reducible repeat (first | apply Kd.S_alloc | apply Kd.S_drewN | apply Kd.S_drew)); exact HO_4.out) (Kd.R_base ho0) hb); replace HO_5 := Aside0.mk (Kd.S_elder' (by (with_reducible repeat (first | apply Kd.S_alloc | apply Kd.S_drewN | apply Kd.S_drew)); exact HO_5.out) (Kd.R_base ho0) hb); replace HL281_1 := Aside0.mk (Kd.R_elder' (rS HL281_1) (Kd.R_base ho0) hb); replace HR281_1 := Aside0.mk (Kd.C_below (by repeat (first | (with_reducible exact HR281_1.out) | (with_reducible refine Kd.C_alloc ?_ _) | (with_reducible refine Kd.C_drewN ?_ _) | (with_reducible refine Kd.C_drew ?_) | exact HR281_1.out)) hb); replace HB := hB hb; (try clear hb); (try clear hb2); (try clear hk); (try clear hi); (try clear ho0); have p286 : 0 ≤ (x7_1 : Int) := of_decide_eq_true (by first | (with_reducible assumption) | assumption); have q286 : x7_1 < (t269.length : Int) := of_decide_eq_true (by first | (with_reducible assumption) | assumption); obtain ⟨ad286, A286_0, c286_0, e286, hx286_0, hl286_0, hi286_0⟩ := at_L2 (Kd.S_reads' HO_3.out).2.2 x7_1 p286 q286; cases e286; obtain ⟨ce286, hce286, hMe286, hcc286⟩ := Kd.S_get HO_3.out [] x7_1 p286 (by first | exact q286 | exact of_decide_eq_true (by first | (with_reducible assumption) | assumption) | (have e_ := (Kd.S_reads' HO_3.out).1; omega)); obtain ⟨ve286_0, rfl, ge286_0⟩ := hMe286; have hv286_0 := hcc286 0 _ rfl; rw [Nat.add_zero, show ((Kd.slice 3 (Kd.int .i64))).sz = 1 from rfl, Nat.mul_one] at hv286_0; replace hv286_0 := Option.some.inj (hv286_0.symm.trans hx286_0); rw [hv286_0] at ge286_0; have HL286_0 := Aside0.mk (show Kd.R (Kd.int .i64) 3 _ _ _ _ (rd_L2 t269 x7_1) from ge286_0); clear hv286_0 ge286_0; clear hcc286 hce286; have HR286_0 := Aside0.mk hi286_0; have HC286_0 := Aside0.mk hl286_0; clear hi286_0 hl286_0; replace p286 := eq_true p286; replace q286 := eq_true q286; obtain ⟨Ao25, co25, eo25⟩ := Kd.R_slice HO284.out; subst eo25) | (go_at_call 30; (with_reducible refine (laws_sameInts.calls k1 _ _ t282 _ _ (rd_L2 t269 x7_1) _ _ ?side1 ?side2 ?side3 ?side4 A19.out).mono ?_); (case side1 => exact cS (Kd.R_reads' HO284.out).2.2); (case side2 => exact (Kd.R_reads' HO284.out).2.1); (case side3 => repeat (first | exact (by repeat (first | (with_reducible exact HR286_0.out) | (with_reducible refine Kd.C_alloc ?_ _) | (with_reducible refine Kd.C_drewN ?_ _) | (with_reducible refine Kd.C_drew ?_) | exact HR286_0.out)) | (with_reducible refine Kd.C_alloc ?_ _) | (with_reducible refine Kd.C_drewN ?_ _) | (with_reducible refine Kd.C_drew ?_))); (case side4 => exact HC286_0.out); rintro e w' ⟨rfl, ⟨nd, rfl⟩⟩; have p288 : 0 ≤ (x7_1 : Int) := of_decide_eq_true (by first | (with_reducible assumption) | assumption); have q288 : x7_1 < (t272.length : Int) := of_decide_eq_true (by first | (with_reducible assumption) | assumption); obtain ⟨ad288, A288_1, c288_1, e288, hx288_0, hx288_1, hl288_1, hi288_1⟩ := at_T40 (Kd.S_reads' HO_4.out).2.2 x7_1 p288 q288; obtain rfl : ad281 = ad288 := (by injection e288); obtain ⟨ce288, hce288, hMe288, hcc288⟩ := Kd.S_get HO_4.out z40 x7_1 p288 (by first | exact q288 | exact of_decide_eq_true (by first | (with_reducible assumption) | assumption) | (have e_ := (Kd.S_reads' HO_4.out).1; omega)); obtain ⟨ve288_1, rfl, ge288_1⟩ := k40_openM hMe288; have hv288_1 := hcc288 1 _ rfl; rw [add_field _ _ 1 (by omega)] at hv288_1; replace hv288_1 := Option.some.inj (hv288_1.symm.trans hx288_1); rw [hv288_1] at ge288_1; have HL288_1 := Aside0.mk (show Kd.R (Kd.int .i64) 3 _ _ _ _ ((rd_T40 t272 x7_1).f1) from ge288_1); clear hv288_1 ge288_1; clear hcc288 hce288; have HR288_1 := Aside0.mk hi288_1; have HC288_1 := Aside0.mk hl288_1; clear hi288_1 hl288_1; replace p288 := eq_true p288; replace q288 := eq_true q288))
                      go_roundg k1
                      case measure => have := HK1.out; omega
                      case rel => exact ⟨(wrap64 (x7_1 + 1)), (by first | rfl | (simp; done) | (simp [*]; done)), H', ⟨by have := HK1.out; omega⟩, ⟨by (with_reducible repeat (first | apply Kd.S_alloc | apply Kd.S_drewN | apply Kd.S_drew)); exact Kd.S_mono HO_3.out (fun _ hk => hk.1)⟩, ⟨by (with_reducible repeat (first | apply Kd.S_alloc | apply Kd.S_drewN | apply Kd.S_drew)); exact Kd.S_mono HO_4.out (fun _ hk => trivial)⟩, ⟨by (with_reducible repeat (first | apply Kd.S_alloc | apply Kd.S_drewN | apply Kd.S_drew)); exact Kd.S_mono HO_5.out (fun _ hk => hk.1)⟩, ⟨bS⟩⟩
                  · obtain rfl := Bool.eq_false_iff.mpr c20
                    rw [if_neg nF] at H
                    obtain rfl := Option.some.inj H
                    have p281 : 0 ≤ (x7_1 : Int) := of_decide_eq_true (by first | (with_reducible assumption) | assumption)
                    have q281 : x7_1 < (t272.length : Int) := of_decide_eq_true (by first | (with_reducible assumption) | assumption)
                    obtain ⟨ad281, A281_1, c281_1, e281, hx281_0, hx281_1, hl281_1, hi281_1⟩ := at_T40 (Kd.S_reads' HO_4.out).2.2 x7_1 p281 q281
                    cases e281
                    obtain ⟨ce281, hce281, hMe281, hcc281⟩ := Kd.S_get HO_4.out z40 x7_1 p281 (by first | exact q281 | exact of_decide_eq_true (by first | (with_reducible assumption) | assumption) | (have e_ := (Kd.S_reads' HO_4.out).1; omega))
                    obtain ⟨ve281_1, rfl, ge281_1⟩ := k40_openM hMe281
                    have hv281_1 := hcc281 1 _ rfl
                    rw [add_field _ _ 1 (by omega)] at hv281_1
                    replace hv281_1 := Option.some.inj (hv281_1.symm.trans hx281_1)
                    rw [hv281_1] at ge281_1
                    have HL281_1 := Aside0.mk (show Kd.R (Kd.int .i64) 3 _ _ _ _ ((rd_T40 t272 x7_1).f1) from ge281_1)
                    clear hv281_1 ge281_1
                    clear hcc281 hce281
                    have HR281_1 := Aside0.mk hi281_1
                    have HC281_1 := Aside0.mk hl281_1
                    clear hi281_1 hl281_1
                    replace p281 := eq_true p281
                    replace q281 := eq_true q281
                    go_wp2_with (first | ((with_reducible refine gC 67 ?_); refine cL (some 32) Try.func67 #[.agg #[.bool ((rd_T40 t272 x7_1).f0), .slice A281_1 ((rd_T40 t272 x7_1).f1).length c281_1]] ?_; (with_reducible refine (impl_UnpackRow.calls k1 ((rd_T40 t272 x7_1).f0) _ _ ((rd_T40 t272 x7_1).f1) t282 _ _ ?side1 ?side2 A14.out).mono ?_); (case side1 => repeat (first | exact (by repeat (first | (with_reducible exact HR281_1.out) | (with_reducible refine Kd.C_alloc ?_ _) | (with_reducible refine Kd.C_drewN ?_ _) | (with_reducible refine Kd.C_drew ?_) | exact HR281_1.out)) | (with_reducible refine Kd.C_alloc ?_ _) | (with_reducible refine Kd.C_drewN ?_ _) | (with_reducible refine Kd.C_drew ?_))); (case side2 => exact HC281_1.out); rintro e w26 ⟨v283, rfl, ho0, hb⟩; refine ⟨_, rfl, ?_⟩; have HO284 := Aside0.mk (Kd.R_lower (Kd.R_new' ho0 (Kd.R_lt (rS HL281_1))) (below_size bS)); replace HO_3 := Aside0.mk (Kd.S_elder' (by (with_reducible repeat (first | apply Kd.S_alloc | apply Kd.S_drewN | apply Kd.S_drew)); exact HO_3.out) (Kd.R_base ho0) hb); replace HO_4 := Aside0.mk (Kd.S_elder' (by (with_reducible repeat (first | apply Kd.S_alloc | apply Kd.S_drewN | apply Kd.S_drew)); exact HO_4.out) (Kd.R_base ho0) hb); replace HO_5 := Aside0.mk (Kd.S_elder' (by (with_reducible repeat (first | apply Kd.S_alloc | apply Kd.S_drewN | apply Kd.S_drew)); exact HO_5.out) (Kd.R_base ho0) hb); replace HL281_1 := Aside0.mk (Kd.R_elder' (rS HL281_1) (Kd.R_base ho0) hb); replace HR281_1 := Aside0.mk (Kd.C_below (by repeat (first | (with_reducible exact HR281_1.out) | (with_reducible refine Kd.C_alloc ?_ _) | (with_reducible refine Kd.C_drewN ?_ _) | (with_reducible refine Kd.C_drew ?_) | exact HR281_1.out)) hb); replace HB := hB hb; (try clear hb); (try clear hb2); (try clear hk); (try clear hi); (try clear ho0); have p286 : 0 ≤ (x7_1 : Int) := of_decide_eq_true (by first | (with_reducible assumption) | assumption); have q286 : x7_1 < (t269.length : Int) := of_decide_eq_true (by first | (with_reducible assumption) | assumption); obtain ⟨ad286, A286_0, c286_0, e286, hx286_0, hl286_0, hi286_0⟩ := at_L2 (Kd.S_reads' HO_3.out).2.2 x7_1 p286 q286; cases e286; obtain ⟨ce286, hce286, hMe286, hcc286⟩ := Kd.S_get HO_3.out [] x7_1 p286 (by first | exact q286 | exact of_decide_eq_true (by first | (with_reducible assumption) | assumption) | (have e_ := (Kd.S_reads' HO_3.out).1; omega)); obtain ⟨ve286_0, rfl, ge286_0⟩ := hMe286; have hv286_0 := hcc286 0 _ rfl; rw [Nat.add_zero, show ((Kd.slice 3 (Kd.int .i64))).sz = 1 from rfl, Nat.mul_one] at hv286_0; replace hv286_0 := Option.some.inj (hv286_0.symm.trans hx286_0); rw [hv286_0] at ge286_0; have HL286_0 := Aside0.mk (show Kd.R (Kd.int .i64) 3 _ _ _ _ (rd_L2 t269 x7_1) from ge286_0); clear hv286_0 ge286_0; clear hcc286 hce286; have HR286_0 := Aside0.mk hi286_0; have HC286_0 := Aside0.mk hl286_0; clear hi286_0 hl286_0; replace p286 := eq_true p286; replace q286 := eq_true q286; obtain ⟨Ao27, co27, eo27⟩ := Kd.R_slice HO284.out; subst eo27) | (go_at_call 30; (with_reducible refine (laws_sameInts.calls k1 _ _ t282 _ _ (rd_L2 t269 x7_1) _ _ ?side1 ?side2 ?side3 ?side4 A19.out).mono ?_); (case side1 => exact cS (Kd.R_reads' HO284.out).2.2); (case side2 => exact (Kd.R_reads' HO284.out).2.1); (case side3 => repeat (first | exact (by repeat (first | (with_reducible exact HR286_0.out) | (with_reducible refine Kd.C_alloc ?_ _) | (with_reducible refine Kd.C_drewN ?_ _) | (with_reducible refine Kd.C_drew ?_) | exact HR286_0.out)) | (with_reducible refine Kd.C_alloc ?_ _) | (with_reducible refine Kd.C_drewN ?_ _) | (with_reducible refine Kd.C_drew ?_))); (case side4 => exact HC286_0.out); rintro e w' ⟨rfl, ⟨nd, rfl⟩⟩))
                    go_ret
                    exact ⟨eS, bS⟩
                · rw [if_neg c18] at H
                  exact absurd H (by simp)
            · obtain rfl := Bool.eq_false_iff.mpr c15
              rw [if_neg nF] at H
              obtain rfl := Option.some.inj H
              have p281 : 0 ≤ (x7_1 : Int) := of_decide_eq_true (by first | (with_reducible assumption) | assumption)
              have q281 : x7_1 < (t272.length : Int) := of_decide_eq_true (by first | (with_reducible assumption) | assumption)
              obtain ⟨ad281, A281_1, c281_1, e281, hx281_0, hx281_1, hl281_1, hi281_1⟩ := at_T40 (Kd.S_reads' HO_4.out).2.2 x7_1 p281 q281
              cases e281
              obtain ⟨ce281, hce281, hMe281, hcc281⟩ := Kd.S_get HO_4.out z40 x7_1 p281 (by first | exact q281 | exact of_decide_eq_true (by first | (with_reducible assumption) | assumption) | (have e_ := (Kd.S_reads' HO_4.out).1; omega))
              obtain ⟨ve281_1, rfl, ge281_1⟩ := k40_openM hMe281
              have hv281_1 := hcc281 1 _ rfl
              rw [add_field _ _ 1 (by omega)] at hv281_1
              replace hv281_1 := Option.some.inj (hv281_1.symm.trans hx281_1)
              rw [hv281_1] at ge281_1
              have HL281_1 := Aside0.mk (show Kd.R (Kd.int .i64) 3 _ _ _ _ ((rd_T40 t272 x7_1).f1) from ge281_1)
              clear hv281_1 ge281_1
              clear hcc281 hce281
              have HR281_1 := Aside0.mk hi281_1
              have HC281_1 := Aside0.mk hl281_1
              clear hi281_1 hl281_1
              replace p281 := eq_true p281
              replace q281 := eq_true q281
              go_wp2_with (first | ((with_reducible refine gC 67 ?_); refine cL (some 32) Try.func67 #[.agg #[.bool ((rd_T40 t272 x7_1).f0), .slice A281_1 ((rd_T40 t272 x7_1).f1).length c281_1]] ?_; (with_reducible refine (impl_UnpackRow.calls k1 ((rd_T40 t272 x7_1).f0) _ _ ((rd_T40 t272 x7_1).f1) t282 _ _ ?side1 ?side2 A14.out).mono ?_); (case side1 => repeat (first | exact (by repeat (first | (with_reducible exact HR281_1.out) | (with_reducible refine Kd.C_alloc ?_ _) | (with_reducible refine Kd.C_drewN ?_ _) | (with_reducible refine Kd.C_drew ?_) | exact HR281_1.out)) | (with_reducible refine Kd.C_alloc ?_ _) | (with_reducible refine Kd.C_drewN ?_ _) | (with_reducible refine Kd.C_drew ?_))); (case side2 => exact HC281_1.out); rintro e w28 ⟨v283, rfl, ho0, hb⟩; refine ⟨_, rfl, ?_⟩; have HO284 := Aside0.mk (Kd.R_lower (Kd.R_new' ho0 (Kd.R_lt (rS HL281_1))) (below_size bS)); replace HO_3 := Aside0.mk (Kd.S_elder' (by (with_reducible repeat (first | apply Kd.S_alloc | apply Kd.S_drewN | apply Kd.S_drew)); exact HO_3.out) (Kd.R_base ho0) hb); replace HO_4 := Aside0.mk (Kd.S_elder' (by (with_reducible repeat (first | apply Kd.S_alloc | apply Kd.S_drewN | apply Kd.S_drew)); exact HO_4.out) (Kd.R_base ho0) hb); replace HO_5 := Aside0.mk (Kd.S_elder' (by (with_reducible repeat (first | apply Kd.S_alloc | apply Kd.S_drewN | apply Kd.S_drew)); exact HO_5.out) (Kd.R_base ho0) hb); replace HL281_1 := Aside0.mk (Kd.R_elder' (rS HL281_1) (Kd.R_base ho0) hb); replace HR281_1 := Aside0.mk (Kd.C_below (by repeat (first | (with_reducible exact HR281_1.out) | (with_reducible refine Kd.C_alloc ?_ _) | (with_reducible refine Kd.C_drewN ?_ _) | (with_reducible refine Kd.C_drew ?_) | exact HR281_1.out)) hb); replace HB := hB hb; (try clear hb); (try clear hb2); (try clear hk); (try clear hi); (try clear ho0)))
              go_ret
              exact ⟨eS, bS⟩
          · rw [if_neg c13] at H
            exact absurd H (by simp)
        · rw [if_neg c12] at H
          have c12b0 : decide (x7_1 < (t272.length : Int)) = false := decide_eq_false c12
          clear c12
          by_cases c29 : t276 = true
          · subst c29
            rw [if_pos rfl] at H
            by_cases c30 : (t272.length : Int) = (t269.length : Int)
            · rw [if_pos c30] at H
              have c30b0 : ((t272.length : Int) == (t269.length : Int)) = true := beq_iff_eq.mpr c30
              have c30b1 : ((t272.length : Int) != (t269.length : Int)) = false := bne_eq_false_iff_eq.mpr c30
              have c30b2 : (t272.length == t269.length) = true := by first | simpa using c30 | (simp at c30 ⊢; omega)
              clear c30
              replace H := bN H
              obtain ⟨t279, A31, H⟩ := H
              by_cases c32 : t279 = true
              · subst c32
                rw [if_pos rfl] at H
                replace H := bN H
                obtain ⟨t280, A33, H⟩ := H
                obtain rfl := Option.some.inj H
                obtain ⟨Ao34, co34, eo34⟩ := Kd.S_slice HO_5.out
                subst eo34
                go_wp2_with (first | (go_at_call 68; (with_reducible refine (impl_SameRows.calls k1 _ _ t275 _ _ t269 _ _ ?side1 ?side2 ?side3 ?side4 A31.out).mono ?_); (case side1 => exact cS (Kd.S_reads' HO_5.out).2.2); (case side2 => exact (Kd.S_reads' HO_5.out).2.1); (case side3 => exact cS (Kd.S_reads' HO_3.out).2.2); (case side4 => exact (Kd.S_reads' HO_3.out).2.1); rintro e w' ⟨rfl, ⟨nd, rfl⟩⟩) | (go_at_call 69; (with_reducible refine (impl_StoreSize.calls k1 _ _ t272 t280 _ ?side1 ?side2 A33.out).mono ?_); (case side1 => exact cS (Kd.S_reads' HO_4.out).2.2); (case side2 => exact (Kd.S_reads' HO_4.out).2.1); rintro e w35 ⟨rfl, hb⟩; replace HO_3 := Aside0.mk (Kd.S_below (by (with_reducible repeat (first | apply Kd.S_alloc | apply Kd.S_drewN | apply Kd.S_drew)); exact HO_3.out) hb); replace HO_4 := Aside0.mk (Kd.S_below (by (with_reducible repeat (first | apply Kd.S_alloc | apply Kd.S_drewN | apply Kd.S_drew)); exact HO_4.out) hb); replace HO_5 := Aside0.mk (Kd.S_below (by (with_reducible repeat (first | apply Kd.S_alloc | apply Kd.S_drewN | apply Kd.S_drew)); exact HO_5.out) hb); replace HB := hB hb; (try clear hb); (try clear hb2); (try clear hk); (try clear hi)))
                go_ret
                exact ⟨eS, bS⟩
              · obtain rfl := Bool.eq_false_iff.mpr c32
                rw [if_neg nF] at H
                obtain rfl := Option.some.inj H
                obtain ⟨Ao36, co36, eo36⟩ := Kd.S_slice HO_5.out
                subst eo36
                go_wp2_with (first | (go_at_call 68; (with_reducible refine (impl_SameRows.calls k1 _ _ t275 _ _ t269 _ _ ?side1 ?side2 ?side3 ?side4 A31.out).mono ?_); (case side1 => exact cS (Kd.S_reads' HO_5.out).2.2); (case side2 => exact (Kd.S_reads' HO_5.out).2.1); (case side3 => exact cS (Kd.S_reads' HO_3.out).2.2); (case side4 => exact (Kd.S_reads' HO_3.out).2.1); rintro e w' ⟨rfl, ⟨nd, rfl⟩⟩))
                go_ret
                exact ⟨eS, bS⟩
            · rw [if_neg c30] at H
              have c30b0 : ((t272.length : Int) == (t269.length : Int)) = false := beq_eq_false_iff_ne.mpr c30
              have c30b1 : ((t272.length : Int) != (t269.length : Int)) = true := bne_iff_ne.mpr c30
              have c30b2 : (t272.length == t269.length) = false := by first | simpa using c30 | (simp at c30 ⊢; omega)
              obtain rfl := Option.some.inj H
              go_wp2
              go_ret
              exact ⟨eS, bS⟩
          · obtain rfl := Bool.eq_false_iff.mpr c29
            rw [if_neg nF] at H
            obtain rfl := Option.some.inj H
            go_wp2
            go_ret
            exact ⟨eS, bS⟩

end Go.Proofs.Ytcalgoembdmlkaa.QFnStores
