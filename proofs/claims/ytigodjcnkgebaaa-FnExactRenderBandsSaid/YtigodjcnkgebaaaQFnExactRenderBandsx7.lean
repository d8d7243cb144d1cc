-- Made out of the translation by a program of this session (a changed copy of the print). Not trusted: Lean checks it.
import Derived.Test.YtigodjcnkgebaaaQFnExactRenderBandsx0
import Derived.Test.YtigodjcnkgebaaaQFnExactRenderBandsx1
import Derived.Test.YtigodjcnkgebaaaQFnExactRenderBandsx4
import Derived.Test.YtigodjcnkgebaaaQFnExactRenderBandsx6
namespace Go.Proofs.Ytigodjcnkgebaaa.QFnExactRenderBands
open Go.RowKit Go.Proofs.YtigodjcnkgebaaaW.PrintWords Go.Proofs.YtigodjcnkgebaaaW.PrintLast Go.Proofs.YtigodjcnkgebaaaW.PrintMore
attribute [local go_sem] max2_int min2_int max_two min_two max_three min_three max_four min_four   -- for this text's walks alone
set_option linter.unusedVariables false
set_option linter.unusedSimpArgs false
set_option maxHeartbeats 8000000
set_option maxRecDepth 100000

/-! ### impl_RenderBand: function 60 -/
mutual
def impl_RenderBand.j0 : Nat → List (S45) → Int → Int → Bool → Option ((List (List Int)))
 | 0, _, _, _, _ => none
 | k + 1, x0, x1, x2, x20 => if x20 = true then (some ([] : List (List Int))) else ((impl_WhiteRows.f k x1).bind fun t224 => (impl_RenderBand.l0 k x1 x2 t224 x0 (x0.length : Int) 0))
def impl_RenderBand.l0 : Nat → Int → Int → List (List Int) → List (S45) → Int → Int → Option ((List (List Int)))
 | 0, _, _, _, _, _, _ => none
 | k + 1, x1, x2, x7, x23, x24, x25 => if x25 < x24 then (if 0 ≤ x25 then (if x25 < (x23.length : Int) then ((impl_ObjectOk.f k ((rd_T45 x23 x25).f0) ((rd_T45 x23 x25).f1) ((rd_T45 x23 x25).f2.f0) ((rd_T45 x23 x25).f2.f1) ((rd_T45 x23 x25).f2.f2) ((rd_T45 x23 x25).f2.f3)).bind fun t229 => (if t229 = true then ((impl_paint.f k x7 (wrap64 (x2 * x1)) ((rd_T45 x23 x25).f0) ((rd_T45 x23 x25).f1) ((rd_T45 x23 x25).f2.f0) ((rd_T45 x23 x25).f2.f1) ((rd_T45 x23 x25).f2.f2) ((rd_T45 x23 x25).f2.f3)).bind fun t230 => (impl_RenderBand.l0 k x1 x2 t230 x23 x24 (wrap64 (x25 + 1)))) else (impl_RenderBand.l0 k x1 x2 x7 x23 x24 (wrap64 (x25 + 1))))) else (none)) else (none)) else (some x7)
end
def impl_RenderBand.f (k : Nat) (l0 : List (S45)) (a1 : Int) (a2 : Int) : Option ((List (List Int))) := (impl_IsHeight.f a1).bind fun t221 => (if t221 = true then ((impl_CountBands.f a1).bind fun t222 => ((impl_within.f a2 0 (wrap64 (t222 - 1))).bind fun t223 => (impl_RenderBand.j0 k l0 a1 a2 (!t223)))) else (impl_RenderBand.j0 k l0 a1 a2 true))
theorem impl_RenderBand.calls (k : Nat) (A0 : Option Addr) (c0 : Nat) (l0 : List (S45)) (a1 : Int) (a2 : Int) (r : List (List Int)) (w : World) (hr0 : Kd.C k45 w A0 l0.length l0) (hc0 : l0.length ≤ c0) (h : impl_RenderBand.f k l0 a1 a2 = some r) :
  Calls Try.prog 60 #[.slice A0 l0.length c0, .int .i64 a1, .int .i64 a2] w fun e w' => ∃ v0_ : Value, e = .returned (v0_) ∧ Kd.S (Kd.slice 3 (Kd.int .i64)) 71 w' w.heap.size (fun _ => True) v0_ r ∧ Below w.heap.size w w' := by
 have hu45 := Try.underlying45
 have HR0 := Aside0.mk hr0
 have HC0 := Aside0.mk hc0
 clear hr0 hc0
 have HB := Aside0.mk (Below.refl w.heap.size w)
 have H : ((impl_IsHeight.f a1).bind fun t221 => (if t221 = true then ((impl_CountBands.f a1).bind fun t222 => ((impl_within.f a2 0 (wrap64 (t222 - 1))).bind fun t223 => (impl_RenderBand.j0 k l0 a1 a2 (!t223)))) else (impl_RenderBand.j0 k l0 a1 a2 true))) = some r := h
 clear h
 have HC4 := Aside0.mk H
 clear H
 go_enter Try.func60, Try.ntmps60
 go_upto_region 1 with (fail)
 go_cut [20] (fun v20 wc => ∃ (kq : Nat) (x20_3 : Bool), v20 = .bool x20_3 ∧ Aside0 (impl_RenderBand.j0 kq l0 a1 a2 x20_3 = some r) ∧ Aside0 (kq ≤ k) ∧ Aside0 (Below w.heap.size w wc))
 case first =>
  have H := HC4.out
  clear HC4
  replace H := bN H
  obtain ⟨t221, A5, H⟩ := H
  by_cases c6 : t221 = true
  ·subst c6
   rw [if_pos rfl] at H
   replace H := bN H
   obtain ⟨t222, A7, H⟩ := H
   replace H := bN H
   obtain ⟨t223, A8, H⟩ := H
   have H' := Aside0.mk H
   clear H
   go_wp2_with (first | ((with_reducible refine gC 20 ?_); refine cL (some 11) Try.func20 #[.int .i64 a1] ?_; (with_reducible refine (impl_IsHeight.calls a1 _ _ A5.out).mono ?_); rintro e w' ⟨rfl, ⟨nd, rfl⟩⟩; refine ⟨_, rfl, ?_⟩) | (go_at_call 21; (with_reducible refine (impl_CountBands.calls a1 t222 _ A7.out).mono ?_); rintro e w' ⟨rfl, ⟨nd, rfl⟩⟩) | (go_at_call 126; (with_reducible refine (impl_within.calls a2 0 (wrap64 (t222 - 1)) t223 _ A8.out).mono ?_); rintro e w' ⟨rfl, ⟨nd, rfl⟩⟩))
   go_meet
   case rel => exact ⟨_, (!t223), fS, H', ⟨by first | omega | exact Nat.le_refl _⟩, ⟨bS⟩⟩
  ·obtain rfl := Bool.eq_false_iff.mpr c6
   rw [if_neg nF] at H
   have H' := Aside0.mk H
   clear H
   go_wp2_with (first | ((with_reducible refine gC 20 ?_); refine cL (some 11) Try.func20 #[.int .i64 a1] ?_; (with_reducible refine (impl_IsHeight.calls a1 _ _ A5.out).mono ?_); rintro e w' ⟨rfl, ⟨nd, rfl⟩⟩; refine ⟨_, rfl, ?_⟩))
   go_meet
   case rel => exact ⟨_, (true), fS, H', ⟨by first | omega | exact Nat.le_refl _⟩, ⟨bS⟩⟩
 case rest =>
  clear HC4
  try clear c2
  try clear p2
  try clear c6
  try clear p6
  obtain ⟨kq, x20_3, rfl, HA, HJ3, HB⟩ := hcut
  cases kq with
  | zero => exact absurd HA.out (by simp [impl_RenderBand.j0])
  | succ kj3 =>
   have H := HA.out
   clear HA
   simp only [impl_RenderBand.j0] at H
   by_cases c9 : x20_3 = true
   ·subst c9
    rw [if_pos rfl] at H
    obtain rfl := Option.some.inj H
    go_wp2
    go_ret
    exact ⟨_, eS, by first | exact Kd.S_nil _ _ _ _ _ | exact Kd.N_nil _ _ _ _ _ | exact Kd.V_nil _ _ _ _ _ | exact Kd.Q_nil _ _ _ _ _ | exact Kd.R_nil _ _ _ _ _, bS⟩
   ·obtain rfl := Bool.eq_false_iff.mpr c9
    rw [if_neg nF] at H
    replace H := bN H
    obtain ⟨t224, A10, H⟩ := H
    have H' := Aside0.mk H
    clear H
    go_wp2_with (first | ((with_reducible refine gC 74 ?_); refine cL (some 22) Try.func74 #[.int .i64 a1] ?_; (with_reducible refine (impl_WhiteRows.calls kj3 a1 t224 _ A10.out).mono ?_); rintro e w11 ⟨v225, rfl, ho0, hb⟩; refine ⟨_, rfl, ?_⟩; have HO226 := Aside0.mk (Kd.S_lower ho0 (below_size bS)); replace HB := hB hb; (try clear hb); (try clear hb2); (try clear hk); (try clear hi); (try clear ho0)))
    go_loopg [25] kj3 (fun kq v25 w' => ∃ (x7_2 : List (List Int)) (x25_2 : Int), v25 = .int .i64 x25_2 ∧ Aside0 (impl_RenderBand.l0 kq a1 a2 x7_2 l0 (l0.length : Int) x25_2 = some r) ∧ Aside0 (kq ≤ kj3) ∧ Aside0 (Kd.S (Kd.slice 3 (Kd.int .i64)) 71 w' w.heap.size (fun _ => True) v225 x7_2) ∧ Aside0 (Below w.heap.size w w'))
    case atStart => exact ⟨(t224), (0), fS, H', ⟨Nat.le_refl _⟩, ⟨sS HO226⟩, ⟨bS⟩⟩
    case round =>
     clear H'
     try clear c2
     try clear p2
     try clear c6
     try clear p6
     try clear c7
     try clear c9
     try clear p2
     try clear p6
     obtain ⟨x7_2, x25_2, rfl, HA, HK2, HO_7, HB⟩ := hrel
     cases gk with
     | zero => exact absurd HA.out (by simp [impl_RenderBand.l0])
     | succ k2 =>
      have H := HA.out
      clear HA
      simp only [impl_RenderBand.l0] at H
      rcases iD H with ⟨c12b0, H⟩ | ⟨c12b0, H⟩
      ·obtain ⟨c13b0, H⟩ := iT H
       obtain ⟨c14b0, H⟩ := iT H
       replace H := bN H
       obtain ⟨t229, A15, H⟩ := H
       by_cases c16 : t229 = true
       ·subst c16
        rw [if_pos rfl] at H
        replace H := bN H
        obtain ⟨t230, A17, H⟩ := H
        have H' := Aside0.mk H
        clear H
        have p227 : 0 ≤ (x25_2 : Int) := dA
        have q227 : x25_2 < (l0.length : Int) := dA
        obtain ⟨ad227, A227_0, c227_0, e227, hx227_0, hx227_1, hx227_2, hx227_3, hx227_4, hx227_5, hl227_0, hi227_0⟩ := at_T45 HR0.out x25_2 p227 q227
        cases e227
        replace hx227_0 := cB HB hx227_0
        replace hx227_1 := cB HB hx227_1
        replace hx227_2 := cB HB hx227_2
        replace hx227_3 := cB HB hx227_3
        replace hx227_4 := cB HB hx227_4
        replace hx227_5 := cB HB hx227_5
        have HR227_0 := Aside0.mk hi227_0
        have HC227_0 := Aside0.mk hl227_0
        clear hi227_0 hl227_0
        replace p227 := eq_true p227
        replace q227 := eq_true q227
        go_wp2_with (first | ((with_reducible refine gD 9 ?_); refine bxE #[.slice none 0 0, .int .i64 0, .int .i64 0, .int .i64 0, .int .i64 0, .int .i64 0] 45 ?_; intro gb228 hg w18 BK228 hb; have GW228 := gE hg; have GE228 := gE hg; replace HO_7 := sB HO_7 hb; replace HB := hB hb; clear hb hg; have hz19 := cz6 BK228) | ((with_reducible refine gC 87 ?_); refine cL (some 30) Try.func87 #[.agg #[.slice A227_0 ((rd_T45 l0 x25_2).f0).length c227_0, .int .i64 ((rd_T45 l0 x25_2).f1), .int .i64 ((rd_T45 l0 x25_2).f2.f0), .int .i64 ((rd_T45 l0 x25_2).f2.f1), .int .i64 ((rd_T45 l0 x25_2).f2.f2), .int .i64 ((rd_T45 l0 x25_2).f2.f3)]] ?_; (with_reducible refine (impl_ObjectOk.calls k2 _ _ ((rd_T45 l0 x25_2).f0) ((rd_T45 l0 x25_2).f1) ((rd_T45 l0 x25_2).f2.f0) ((rd_T45 l0 x25_2).f2.f1) ((rd_T45 l0 x25_2).f2.f2) ((rd_T45 l0 x25_2).f2.f3) _ _ (Kd.C_below HR227_0.out bS) HC227_0.out A15.out).mono ?_); rintro e w20 ⟨rfl, hb⟩; refine ⟨_, rfl, ?_⟩; replace HO_7 := Aside0.mk (Kd.S_below (by exact sT (Kd.S_mono (Kd.S_far (p := ⟨gb228, 5, none⟩) (Kd.S_far (p := ⟨gb228, 4, none⟩) (Kd.S_far (p := ⟨gb228, 3, none⟩) (Kd.S_far (p := ⟨gb228, 2, none⟩) (Kd.S_far (p := ⟨gb228, 1, none⟩) (Kd.S_far (p := ⟨gb228, 0, none⟩) (Kd.S_types HO_7.out BK228.out (by decide)) (fun _ hk => hk.2) (.slice A227_0 ((rd_T45 l0 x25_2).f0).length c227_0)) (fun _ hk => hk.2) (.int .i64 ((rd_T45 l0 x25_2).f1))) (fun _ hk => hk.2) (.int .i64 ((rd_T45 l0 x25_2).f2.f0))) (fun _ hk => hk.2) (.int .i64 ((rd_T45 l0 x25_2).f2.f1))) (fun _ hk => hk.2) (.int .i64 ((rd_T45 l0 x25_2).f2.f2))) (fun _ hk => hk.2) (.int .i64 ((rd_T45 l0 x25_2).f2.f3))) (fun _ h_ => h_.1))) hb); replace BK228 := Aside0.mk (blk_below (g := gb228) (o := .cells #[.slice A227_0 ((rd_T45 l0 x25_2).f0).length c227_0, .int .i64 ((rd_T45 l0 x25_2).f1), .int .i64 ((rd_T45 l0 x25_2).f2.f0), .int .i64 ((rd_T45 l0 x25_2).f2.f1), .int .i64 ((rd_T45 l0 x25_2).f2.f2), .int .i64 ((rd_T45 l0 x25_2).f2.f3)] 45 (0, 0)) kS hb); replace HB := hB hb; (try clear hb); (try clear hb2); (try clear hk); (try clear hi); have hz21 := cz6 BK228; obtain ⟨Ao22, co22, eo22⟩ := Kd.S_slice HO_7.out; subst eo22) | ((with_reducible refine gC 75 ?_); refine cL (some 36) Try.func75 #[.slice Ao22 x7_2.length co22, .int .i64 (wrap64 (a2 * a1)), .agg #[.slice A227_0 ((rd_T45 l0 x25_2).f0).length c227_0, .int .i64 ((rd_T45 l0 x25_2).f1), .int .i64 ((rd_T45 l0 x25_2).f2.f0), .int .i64 ((rd_T45 l0 x25_2).f2.f1), .int .i64 ((rd_T45 l0 x25_2).f2.f2), .int .i64 ((rd_T45 l0 x25_2).f2.f3)]] ?_; (with_reducible refine (impl_paint.calls k2 (fun k_ => w.heap.size ≤ k_ ∧ ∃ q_, q_ ∈ 71 :: (Kd.slice 3 (Kd.int .i64)).E ∧ ∃ c_, w20.heap[k_]? = some (.cells c_ q_ (0, 0))) (.slice Ao22 x7_2.length co22) x7_2 (wrap64 (a2 * a1)) _ _ ((rd_T45 l0 x25_2).f0) ((rd_T45 l0 x25_2).f1) ((rd_T45 l0 x25_2).f2.f0) ((rd_T45 l0 x25_2).f2.f1) ((rd_T45 l0 x25_2).f2.f2) ((rd_T45 l0 x25_2).f2.f3) t230 w _ ?side1 ?side2 ?side3 ?side4 A17.out).mono ?_); (case side1 => repeat (first | (with_reducible first | exact HB.out | apply below_alloc | apply pw_below_drewN | apply below_drew1 | refine below_set ?_ GE228.out) | exact HB.out)); (case side2 => (with_reducible repeat (first | apply Kd.S_alloc | apply Kd.S_drewN | apply Kd.S_drew)); exact Kd.S_mono (Kd.S_bound HO_7.out) (fun k_ h_ => ⟨h_.2.1, h_.2.2.2⟩)); (case side3 => exact Kd.C_kept_came k171_heap HR227_0.out bS (fun k_ hs_ => (fun e_ => e_.1) hs_)); (case side4 => exact HC227_0.out); rintro e w23 ⟨rfl, hy0, hb, hkp⟩; refine ⟨_, rfl, ?_⟩; replace HO_7 := Aside0.mk (Kd.S_mono hy0 (fun _ _ => trivial)); replace BK228 := Aside0.mk (blk_kept (g := gb228) kS hkp (fun hs_ => (fun e_ => typed_one (by exact BK228.out) e_.2 (by decide)) hs_)); replace HB := Aside0.mk (hb); (try clear hb); (try clear hkp); (try clear hy0)))
        go_roundg k2
        case measure => have := HJ3.out; have := HK2.out; omega
        case rel => exact ⟨(t230), (wrap64 (x25_2 + 1)), fS, H', ⟨by have := HJ3.out; have := HK2.out; omega⟩, ⟨sS HO_7⟩, ⟨bS⟩⟩
       ·obtain rfl := Bool.eq_false_iff.mpr c16
        rw [if_neg nF] at H
        have H' := Aside0.mk H
        clear H
        have p227 : 0 ≤ (x25_2 : Int) := dA
        have q227 : x25_2 < (l0.length : Int) := dA
        obtain ⟨ad227, A227_0, c227_0, e227, hx227_0, hx227_1, hx227_2, hx227_3, hx227_4, hx227_5, hl227_0, hi227_0⟩ := at_T45 HR0.out x25_2 p227 q227
        cases e227
        replace hx227_0 := cB HB hx227_0
        replace hx227_1 := cB HB hx227_1
        replace hx227_2 := cB HB hx227_2
        replace hx227_3 := cB HB hx227_3
        replace hx227_4 := cB HB hx227_4
        replace hx227_5 := cB HB hx227_5
        have HR227_0 := Aside0.mk hi227_0
        have HC227_0 := Aside0.mk hl227_0
        clear hi227_0 hl227_0
        replace p227 := eq_true p227
        replace q227 := eq_true q227
        go_wp2_with (first | ((with_reducible refine gD 9 ?_); refine bxE #[.slice none 0 0, .int .i64 0, .int .i64 0, .int .i64 0, .int .i64 0, .int .i64 0] 45 ?_; intro gb228 hg w24 BK228 hb; have GW228 := gE hg; have GE228 := gE hg; replace HO_7 := sB HO_7 hb; replace HB := hB hb; clear hb hg; have hz25 := cz6 BK228) | ((with_reducible refine gC 87 ?_); refine cL (some 30) Try.func87 #[.agg #[.slice A227_0 ((rd_T45 l0 x25_2).f0).length c227_0, .int .i64 ((rd_T45 l0 x25_2).f1), .int .i64 ((rd_T45 l0 x25_2).f2.f0), .int .i64 ((rd_T45 l0 x25_2).f2.f1), .int .i64 ((rd_T45 l0 x25_2).f2.f2), .int .i64 ((rd_T45 l0 x25_2).f2.f3)]] ?_; (with_reducible refine (impl_ObjectOk.calls k2 _ _ ((rd_T45 l0 x25_2).f0) ((rd_T45 l0 x25_2).f1) ((rd_T45 l0 x25_2).f2.f0) ((rd_T45 l0 x25_2).f2.f1) ((rd_T45 l0 x25_2).f2.f2) ((rd_T45 l0 x25_2).f2.f3) _ _ (Kd.C_below HR227_0.out bS) HC227_0.out A15.out).mono ?_); rintro e w26 ⟨rfl, hb⟩; refine ⟨_, rfl, ?_⟩; replace HO_7 := Aside0.mk (Kd.S_below (by exact sT (Kd.S_mono (Kd.S_far (p := ⟨gb228, 5, none⟩) (Kd.S_far (p := ⟨gb228, 4, none⟩) (Kd.S_far (p := ⟨gb228, 3, none⟩) (Kd.S_far (p := ⟨gb228, 2, none⟩) (Kd.S_far (p := ⟨gb228, 1, none⟩) (Kd.S_far (p := ⟨gb228, 0, none⟩) (Kd.S_types HO_7.out BK228.out (by decide)) (fun _ hk => hk.2) (.slice A227_0 ((rd_T45 l0 x25_2).f0).length c227_0)) (fun _ hk => hk.2) (.int .i64 ((rd_T45 l0 x25_2).f1))) (fun _ hk => hk.2) (.int .i64 ((rd_T45 l0 x25_2).f2.f0))) (fun _ hk => hk.2) (.int .i64 ((rd_T45 l0 x25_2).f2.f1))) (fun _ hk => hk.2) (.int .i64 ((rd_T45 l0 x25_2).f2.f2))) (fun _ hk => hk.2) (.int .i64 ((rd_T45 l0 x25_2).f2.f3))) (fun _ h_ => h_.1))) hb); replace BK228 := Aside0.mk (blk_below (g := gb228) (o := .cells #[.slice A227_0 ((rd_T45 l0 x25_2).f0).length c227_0, .int .i64 ((rd_T45 l0 x25_2).f1), .int .i64 ((rd_T45 l0 x25_2).f2.f0), .int .i64 ((rd_T45 l0 x25_2).f2.f1), .int .i64 ((rd_T45 l0 x25_2).f2.f2), .int .i64 ((rd_T45 l0 x25_2).f2.f3)] 45 (0, 0)) kS hb); replace HB := hB hb; (try clear hb); (try clear hb2); (try clear hk); (try clear hi)))
        go_roundg k2
        case measure => have := HJ3.out; have := HK2.out; omega
        case rel => exact ⟨(x7_2), (wrap64 (x25_2 + 1)), fS, H', ⟨by have := HJ3.out; have := HK2.out; omega⟩, ⟨sS HO_7⟩, ⟨bS⟩⟩
      ·obtain rfl := Option.some.inj H
       go_wp2
       go_ret
       exact ⟨_, eS, sS HO_7, bS⟩

/-! ### impl_CountDots: function 163 -/
def impl_CountDots.f (a0_0 : Int) (a0_1 : Int) (a0_2 : Int) (a0_3 : Int) : Option (Int) := (impl_BoxOk.f a0_0 a0_1 a0_2 a0_3).bind fun t232 => (if t232 = true then (some (wrap64 ((wrap64 (a0_2 - a0_0)) * (wrap64 (a0_3 - a0_1))))) else (some 0))
theorem impl_CountDots.calls (a0_0 : Int) (a0_1 : Int) (a0_2 : Int) (a0_3 : Int) (r : Int) (w : World) (h : impl_CountDots.f a0_0 a0_1 a0_2 a0_3 = some r) :
  Calls Try.prog 163 #[.agg #[.int .i64 a0_0, .int .i64 a0_1, .int .i64 a0_2, .int .i64 a0_3]] w fun e w' => e = .returned (.int .i64 r) ∧ Below w.heap.size w w' := by
 have hu43 := Try.underlying43
 have HB := Aside0.mk (Below.refl w.heap.size w)
 have H : ((impl_BoxOk.f a0_0 a0_1 a0_2 a0_3).bind fun t232 => (if t232 = true then (some (wrap64 ((wrap64 (a0_2 - a0_0)) * (wrap64 (a0_3 - a0_1))))) else (some 0))) = some r := h
 clear h
 replace H := bN H
 obtain ⟨t232, A2, H⟩ := H
 by_cases c3 : t232 = true
 ·subst c3
  rw [if_pos rfl] at H
  obtain rfl := Option.some.inj H
  go_enter Try.func163, Try.ntmps163
  go_wp2_with (first | ((with_reducible refine gD 1 ?_); refine bxE #[.int .i64 a0_0, .int .i64 a0_1, .int .i64 a0_2, .int .i64 a0_3] 43 ?_; intro gb231 hg w4 BK231 hb; have GW231 := gE hg; have GE231 := gE hg; replace HB := hB hb; clear hb hg; have hz5 := cz4 BK231) | ((with_reducible refine gC 152 ?_); refine cL (some 4) Try.func152 #[.agg #[.int .i64 a0_0, .int .i64 a0_1, .int .i64 a0_2, .int .i64 a0_3]] ?_; (with_reducible refine (impl_BoxOk.calls a0_0 a0_1 a0_2 a0_3 _ _ A2.out).mono ?_); rintro e w6 ⟨rfl, hb⟩; refine ⟨_, rfl, ?_⟩; replace BK231 := kB (g := gb231) hb; replace HB := hB hb; (try clear hb); (try clear hb2); (try clear hk); (try clear hi); have hz7 := cz4 BK231))
  go_ret
  exact ⟨eS, bS⟩
 ·obtain rfl := Bool.eq_false_iff.mpr c3
  rw [if_neg nF] at H
  obtain rfl := Option.some.inj H
  go_enter Try.func163, Try.ntmps163
  go_wp2_with (first | ((with_reducible refine gD 1 ?_); refine bxE #[.int .i64 a0_0, .int .i64 a0_1, .int .i64 a0_2, .int .i64 a0_3] 43 ?_; intro gb231 hg w8 BK231 hb; have GW231 := gE hg; have GE231 := gE hg; replace HB := hB hb; clear hb hg; have hz9 := cz4 BK231) | ((with_reducible refine gC 152 ?_); refine cL (some 4) Try.func152 #[.agg #[.int .i64 a0_0, .int .i64 a0_1, .int .i64 a0_2, .int .i64 a0_3]] ?_; (with_reducible refine (impl_BoxOk.calls a0_0 a0_1 a0_2 a0_3 _ _ A2.out).mono ?_); rintro e w10 ⟨rfl, hb⟩; refine ⟨_, rfl, ?_⟩; replace BK231 := kB (g := gb231) hb; replace HB := hB hb; (try clear hb); (try clear hb2); (try clear hk); (try clear hi)))
  go_ret
  exact ⟨eS, bS⟩

/-! ### impl_TouchesBand: function 102 -/
def impl_TouchesBand.j0 : Nat → Int → Int → Bool → List (S171) → Int → Int → Int → Int → Int → Option (Bool)
 | 0, _, _, _, _, _, _, _, _, _ => none
 | k + 1, x1, x2, x18, x234000, x234001, x234002, x234003, x234004, x234005 => if x18 = true then (some false) else ((impl_ObjectBox.f k x234000 x234001 x234002 x234003 x234004 x234005).bind fun bt237 => ((impl_CountDots.f bt237.1 bt237.2.1 bt237.2.2.1 bt237.2.2.2).bind fun t242 => (if t242 > 0 then (if bt237.2.1 < (wrap64 ((wrap64 (x2 * x1)) + x1)) then (some (decide (bt237.2.2.2 > (wrap64 (x2 * x1))))) else (some false)) else (some false))))
def impl_TouchesBand.f (k : Nat) (l0_0 : List (S171)) (a0_1 : Int) (a0_2 : Int) (a0_3 : Int) (a0_4 : Int) (a0_5 : Int) (a1 : Int) (a2 : Int) : Option (Bool) := (impl_IsHeight.f a1).bind fun t234 => (if t234 = true then ((impl_CountBands.f a1).bind fun t235 => ((impl_within.f a2 0 (wrap64 (t235 - 1))).bind fun t236 => (impl_TouchesBand.j0 k a1 a2 (!t236) l0_0 a0_1 a0_2 a0_3 a0_4 a0_5))) else (impl_TouchesBand.j0 k a1 a2 true l0_0 a0_1 a0_2 a0_3 a0_4 a0_5))
theorem impl_TouchesBand.calls (k : Nat) (A0_0 : Option Addr) (c0_0 : Nat) (l0_0 : List (S171)) (a0_1 : Int) (a0_2 : Int) (a0_3 : Int) (a0_4 : Int) (a0_5 : Int) (a1 : Int) (a2 : Int) (r : Bool) (w : World) (hr0_0 : Kd.C k171 w A0_0 l0_0.length l0_0) (hc0_0 : l0_0.length ≤ c0_0) (h : impl_TouchesBand.f k l0_0 a0_1 a0_2 a0_3 a0_4 a0_5 a1 a2 = some r) :
  Calls Try.prog 102 #[.agg #[.slice A0_0 l0_0.length c0_0, .int .i64 a0_1, .int .i64 a0_2, .int .i64 a0_3, .int .i64 a0_4, .int .i64 a0_5], .int .i64 a1, .int .i64 a2] w fun e w' => e = .returned (.bool r) ∧ Below w.heap.size w w' := by
 have hu45 := Try.underlying45
 have hu43 := Try.underlying43
 have HR0_0 := Aside0.mk hr0_0
 have HC0_0 := Aside0.mk hc0_0
 clear hr0_0 hc0_0
 have HB := Aside0.mk (Below.refl w.heap.size w)
 have H : ((impl_IsHeight.f a1).bind fun t234 => (if t234 = true then ((impl_CountBands.f a1).bind fun t235 => ((impl_within.f a2 0 (wrap64 (t235 - 1))).bind fun t236 => (impl_TouchesBand.j0 k a1 a2 (!t236) l0_0 a0_1 a0_2 a0_3 a0_4 a0_5))) else (impl_TouchesBand.j0 k a1 a2 true l0_0 a0_1 a0_2 a0_3 a0_4 a0_5))) = some r := h
 clear h
 have HC4 := Aside0.mk H
 clear H
 go_enter Try.func102, Try.ntmps102
 go_upto_region 1 with (first | ((with_reducible refine gD 3 ?_); refine bxE #[.slice A0_0 l0_0.length c0_0, .int .i64 a0_1, .int .i64 a0_2, .int .i64 a0_3, .int .i64 a0_4, .int .i64 a0_5] 45 ?_; intro gb233 hg w5 BK233 hb; have GW233 := gE hg; have GE233 := gE hg; replace HB := hB hb; clear hb hg))
 (try simp only [Act.put, List.setIfInBounds_toArray, List.set_cons_zero, List.set_cons_succ])
 go_cut [18] (fun v18 wc => ∃ (kq : Nat) (x18_3 : Bool), v18 = .bool x18_3 ∧ Aside0 (impl_TouchesBand.j0 kq a1 a2 x18_3 l0_0 a0_1 a0_2 a0_3 a0_4 a0_5 = some r) ∧ Aside0 (kq ≤ k) ∧ Aside0 (wc.heap[gb233]? = some (.cells #[(.slice A0_0 l0_0.length c0_0), .int .i64 a0_1, .int .i64 a0_2, .int .i64 a0_3, .int .i64 a0_4, .int .i64 a0_5] 45 (0, 0))) ∧ Aside0 (Below w.heap.size w wc))
 case first =>
  have H := HC4.out
  clear HC4
  replace H := bN H
  obtain ⟨t234, A6, H⟩ := H
  by_cases c7 : t234 = true
  ·subst c7
   rw [if_pos rfl] at H
   replace H := bN H
   obtain ⟨t235, A8, H⟩ := H
   replace H := bN H
   obtain ⟨t236, A9, H⟩ := H
   have H' := Aside0.mk H
   clear H
   go_wp2_with (first | ((with_reducible refine gC 20 ?_); refine cL (some 9) Try.func20 #[.int .i64 a1] ?_; (with_reducible refine (impl_IsHeight.calls a1 _ _ A6.out).mono ?_); rintro e w' ⟨rfl, ⟨nd, rfl⟩⟩; refine ⟨_, rfl, ?_⟩) | (go_at_call 21; (with_reducible refine (impl_CountBands.calls a1 t235 _ A8.out).mono ?_); rintro e w' ⟨rfl, ⟨nd, rfl⟩⟩) | (go_at_call 126; (with_reducible refine (impl_within.calls a2 0 (wrap64 (t235 - 1)) t236 _ A9.out).mono ?_); rintro e w' ⟨rfl, ⟨nd, rfl⟩⟩))
   go_meet
   case rel => exact ⟨_, (!t236), fS, H', ⟨by first | omega | exact Nat.le_refl _⟩, ⟨kS⟩, ⟨bS⟩⟩
  ·obtain rfl := Bool.eq_false_iff.mpr c7
   rw [if_neg nF] at H
   have H' := Aside0.mk H
   clear H
   go_wp2_with (first | ((with_reducible refine gC 20 ?_); refine cL (some 9) Try.func20 #[.int .i64 a1] ?_; (with_reducible refine (impl_IsHeight.calls a1 _ _ A6.out).mono ?_); rintro e w' ⟨rfl, ⟨nd, rfl⟩⟩; refine ⟨_, rfl, ?_⟩))
   go_meet
   case rel => exact ⟨_, (true), fS, H', ⟨by first | omega | exact Nat.le_refl _⟩, ⟨kS⟩, ⟨bS⟩⟩
 case rest =>
  clear HC4
  try clear c1
  try clear c2
  try clear p2
  try clear p6
  try clear c7
  obtain ⟨kq, x18_3, rfl, HA, HJ3, BK233, HB⟩ := hcut
  cases kq with
  | zero => exact absurd HA.out (by simp [impl_TouchesBand.j0])
  | succ kj3 =>
   have H := HA.out
   clear HA
   simp only [impl_TouchesBand.j0] at H
   by_cases c10 : x18_3 = true
   ·subst c10
    rw [if_pos rfl] at H
    obtain rfl := Option.some.inj H
    go_wp2
    go_ret
    exact ⟨eS, bS⟩
   ·obtain rfl := Bool.eq_false_iff.mpr c10
    rw [if_neg nF] at H
    replace H := bN H
    obtain ⟨⟨t237, t238, t239, t240⟩, A11, H⟩ := H
    replace H := bN H
    obtain ⟨t242, A12, H⟩ := H
    by_cases c13 : t242 > 0
    ·rw [if_pos c13] at H
     have c13b0 : decide (0 < t242) = true := decide_eq_true c13
     clear c13
     rcases iD H with ⟨c14b0, H⟩ | ⟨c14b0, H⟩
     ·obtain rfl := Option.some.inj H
      have hz15 := cz6 BK233
      go_wp2_with (first | ((with_reducible refine gC 88 ?_); refine cL (some 20) Try.func88 #[.agg #[.slice A0_0 l0_0.length c0_0, .int .i64 a0_1, .int .i64 a0_2, .int .i64 a0_3, .int .i64 a0_4, .int .i64 a0_5]] ?_; (with_reducible refine (impl_ObjectBox.calls kj3 _ _ l0_0 a0_1 a0_2 a0_3 a0_4 a0_5 t237 t238 t239 t240 _ (cS (Kd.C_below HR0_0.out HB.out)) HC0_0.out A11.out).mono ?_); rintro e w16 ⟨rfl, hb⟩; refine ⟨_, rfl, ?_⟩; replace BK233 := kB (g := gb233) hb; replace HB := hB hb; (try clear hb); (try clear hb2); (try clear hk); (try clear hi)) | ((with_reducible refine gD 7 ?_); refine bxE #[.int .i64 0, .int .i64 0, .int .i64 0, .int .i64 0] 43 ?_; intro gb241 hg w17 BK241 hb; have GW241 := gE hg; have GE241 := gE hg; have NB233_241 := nL (g := gb233) hg; have NB241_233 := nG (g := gb233) hg; replace BK233 := kB (g := gb233) hb; replace HB := hB hb; clear hb hg; have hnb18 := NB241_233.out; have hnc18 := NB233_241.out; have hz19 := cz4 BK241) | ((with_reducible refine gC 163 ?_); refine cL (some 22) Try.func163 #[.agg #[.int .i64 t237, .int .i64 t238, .int .i64 t239, .int .i64 t240]] ?_; (with_reducible refine (impl_CountDots.calls t237 t238 t239 t240 t242 _ A12.out).mono ?_); rintro e w20 ⟨rfl, hb⟩; refine ⟨_, rfl, ?_⟩; replace BK233 := kB (g := gb233) hb; replace BK241 := Aside0.mk (blk_below (g := gb241) (o := .cells #[.int .i64 t237, .int .i64 t238, .int .i64 t239, .int .i64 t240] 43 (0, 0)) kS hb); replace HB := hB hb; (try clear hb); (try clear hb2); (try clear hk); (try clear hi); have hz21 := cz4 BK241))
      go_ret
      exact ⟨eS, bS⟩
     ·obtain rfl := Option.some.inj H
      have hz22 := cz6 BK233
      go_wp2_with (first | ((with_reducible refine gC 88 ?_); refine cL (some 20) Try.func88 #[.agg #[.slice A0_0 l0_0.length c0_0, .int .i64 a0_1, .int .i64 a0_2, .int .i64 a0_3, .int .i64 a0_4, .int .i64 a0_5]] ?_; (with_reducible refine (impl_ObjectBox.calls kj3 _ _ l0_0 a0_1 a0_2 a0_3 a0_4 a0_5 t237 t238 t239 t240 _ (cS (Kd.C_below HR0_0.out HB.out)) HC0_0.out A11.out).mono ?_); rintro e w23 ⟨rfl, hb⟩; refine ⟨_, rfl, ?_⟩; replace BK233 := kB (g := gb233) hb; replace HB := hB hb; (try clear hb); (try clear hb2); (try clear hk); (try clear hi)) | ((with_reducible refine gD 7 ?_); refine bxE #[.int .i64 0, .int .i64 0, .int .i64 0, .int .i64 0] 43 ?_; intro gb241 hg w24 BK241 hb; have GW241 := gE hg; have GE241 := gE hg; have NB233_241 := nL (g := gb233) hg; have NB241_233 := nG (g := gb233) hg; replace BK233 := kB (g := gb233) hb; replace HB := hB hb; clear hb hg; have hnb25 := NB241_233.out; have hnc25 := NB233_241.out; have hz26 := cz4 BK241) | ((with_reducible refine gC 163 ?_); refine cL (some 22) Try.func163 #[.agg #[.int .i64 t237, .int .i64 t238, .int .i64 t239, .int .i64 t240]] ?_; (with_reducible refine (impl_CountDots.calls t237 t238 t239 t240 t242 _ A12.out).mono ?_); rintro e w27 ⟨rfl, hb⟩; refine ⟨_, rfl, ?_⟩; replace BK233 := kB (g := gb233) hb; replace BK241 := Aside0.mk (blk_below (g := gb241) (o := .cells #[.int .i64 t237, .int .i64 t238, .int .i64 t239, .int .i64 t240] 43 (0, 0)) kS hb); replace HB := hB hb; (try clear hb); (try clear hb2); (try clear hk); (try clear hi); have hz28 := cz4 BK241))
      go_ret
      exact ⟨eS, bS⟩
    ·rw [if_neg c13] at H
     have c13b0 : decide (0 < t242) = false := decide_eq_false c13
     clear c13
     obtain rfl := Option.some.inj H
     have hz29 := cz6 BK233
     go_wp2_with (first | ((with_reducible refine gC 88 ?_); refine cL (some 20) Try.func88 #[.agg #[.slice A0_0 l0_0.length c0_0, .int .i64 a0_1, .int .i64 a0_2, .int .i64 a0_3, .int .i64 a0_4, .int .i64 a0_5]] ?_; (with_reducible refine (impl_ObjectBox.calls kj3 _ _ l0_0 a0_1 a0_2 a0_3 a0_4 a0_5 t237 t238 t239 t240 _ (cS (Kd.C_below HR0_0.out HB.out)) HC0_0.out A11.out).mono ?_); rintro e w30 ⟨rfl, hb⟩; refine ⟨_, rfl, ?_⟩; replace BK233 := kB (g := gb233) hb; replace HB := hB hb; (try clear hb); (try clear hb2); (try clear hk); (try clear hi)) | ((with_reducible refine gD 7 ?_); refine bxE #[.int .i64 0, .int .i64 0, .int .i64 0, .int .i64 0] 43 ?_; intro gb241 hg w31 BK241 hb; have GW241 := gE hg; have GE241 := gE hg; have NB233_241 := nL (g := gb233) hg; have NB241_233 := nG (g := gb233) hg; replace BK233 := kB (g := gb233) hb; replace HB := hB hb; clear hb hg; have hnb32 := NB241_233.out; have hnc32 := NB233_241.out; have hz33 := cz4 BK241) | ((with_reducible refine gC 163 ?_); refine cL (some 22) Try.func163 #[.agg #[.int .i64 t237, .int .i64 t238, .int .i64 t239, .int .i64 t240]] ?_; (with_reducible refine (impl_CountDots.calls t237 t238 t239 t240 t242 _ A12.out).mono ?_); rintro e w34 ⟨rfl, hb⟩; refine ⟨_, rfl, ?_⟩; replace BK233 := kB (g := gb233) hb; replace BK241 := Aside0.mk (blk_below (g := gb241) (o := .cells #[.int .i64 t237, .int .i64 t238, .int .i64 t239, .int .i64 t240] 43 (0, 0)) kS hb); replace HB := hB hb; (try clear hb); (try clear hb2); (try clear hk); (try clear hi)))
     go_ret
     exact ⟨eS, bS⟩

/-! ### impl_Point: function 176 -/
def impl_Point.f (l0 : List (S171)) : Option ((List (S171))) := (some (([] : List (S171)) : List (S171))).bind fun y243 => (if y243.length + l0.length < 8796093022208 then (some (y243 ++ l0)) else (none))
theorem impl_Point.calls (A0 : Option Addr) (c0 : Nat) (l0 : List (S171)) (r : List (S171)) (w : World) (hr0 : Kd.C k171 w A0 l0.length l0) (hc0 : l0.length ≤ c0) (h : impl_Point.f l0 = some r) :
  Calls Try.prog 176 #[.slice A0 l0.length c0] w fun e w' => ∃ v0_ : Value, e = .returned (v0_) ∧ Kd.R k171 171 w' w.heap.size (fun _ => True) v0_ r ∧ Below w.heap.size w w' := by
 obtain _ | A0 := A0
 ·have hl0 : l0 = [] := by
   rcases Nat.eq_zero_or_pos l0.length with h0 | h0
   ·exact List.eq_nil_of_length_eq_zero h0
   ·obtain ⟨ad, e, _⟩ := hr0.2.2 h0
    cases e
  subst hl0
  have hr_ : r = [] := by
   have h_ := h
   simp [impl_Point.f] at h_
   first | exact h_ | exact h_.symm
  subst hr_
  have he_ : ∀ w : World, (binOp .eql 42 (.slice none 0 c0) (.slice none 0 0)).run Try.prog w = .ok (.bool true) w := fun _ => rfl
  go_enter Try.func176, Try.ntmps176
  go_wp2
  go_ret
  exact ⟨_, rfl, Kd.R_nil _ _ _ _ _, Below.refl _ _⟩
 have he_ : ∀ w : World, (binOp .eql 42 (.slice (some A0) l0.length c0) (.slice none 0 0)).run Try.prog w = .ok (.bool false) w := fun _ => rfl
 have HR0 := Aside0.mk hr0
 have HC0 := Aside0.mk hc0
 clear hr0 hc0
 have HB := Aside0.mk (Below.refl w.heap.size w)
 have H : ((some (([] : List (S171)) : List (S171))).bind fun y243 => (if y243.length + l0.length < 8796093022208 then (some (y243 ++ l0)) else (none))) = some r := h
 clear h
 obtain ⟨y243, hy243⟩ : ∃ y_ : List (S171), y_ = (([] : List (S171))) := ⟨_, rfl⟩
 replace H : (if y243.length + l0.length < 8796093022208 then (some (y243 ++ l0)) else (none)) = some r := by first | (rw [hy243]; with_reducible exact H) | (have H2_ := (Option.bind_some _ _).symm.trans H; rw [hy243]; with_reducible exact H2_) | (have H2_ := (Option.bind_some _ _).symm.trans H; with_reducible exact H2_) | with_reducible exact H | (rw [hy243]; exact H) | exact H
 have Ny243 := Aside0.mk hy243
 clear hy243
 by_cases c2 : y243.length + l0.length < 8796093022208
 ·rw [if_pos c2] at H
  have LMc2 := Aside0.mk c2
  clear c2
  obtain ⟨y246, hy246⟩ : ∃ y_ : List (S171), y_ = (y243 ++ l0) := ⟨_, rfl⟩
  replace H : (some y246) = some r := by first | (rw [hy246]; with_reducible exact H) | (have H2_ := (Option.bind_some _ _).symm.trans H; rw [hy246]; with_reducible exact H2_) | (have H2_ := (Option.bind_some _ _).symm.trans H; with_reducible exact H2_) | with_reducible exact H | (rw [hy246]; exact H) | exact H
  have Ny246 := Aside0.mk hy246
  clear hy246
  obtain rfl := Option.some.inj H
  go_enter Try.func176, Try.ntmps176
  go_wp2_with (first | ((with_reducible refine gate_dst (N := 5) rfl ?_); refine Kd.R_lit k171 _ 171 ?hg (N := 5) ?hd (xs := ([] : List (S171))) (inner := []) (ok := fun _ => True) (okp := fun _ => True) ?hr ?hp (fun _ hk => hk) trivial (Below.refl _ _) (Nat.le_refl _) (by simp) ?_; (case hd => rfl); (case hg => rfl); (case hr => first | (go_simp; done) | (go_simp; rfl)); (case hp => exact (Reps.none _ _)); intro v244 w3 ho4 hb hg_ hnew_; clear hg_ hnew_; (first | rw [← Ny243.out] at ho4 | (simp only [Int.reduceToNat] at ho4; rw [← Ny243.out] at ho4)); have HO245 := Aside0.mk (Kd.R_lower ho4 (below_size bS)); replace HB := hB hb; clear hb ho4) | ((with_reducible refine gate_builtin (b := .append) (xs := #[.tmp 5, .tmp 6]) rfl ?_); at_builtin; refine Kd.R_append_rows k171 (w0 := w) w.heap.size rfl (.tmp 5) (.tmp 6) 42 171 (.agg #[(.int .i64 0), (.int .i64 0)]) 16 rfl Try.underlying42 info171 rfl (by decide) (by omega) v244 y243 l0 _ _ _ (fun _ => True) (fun _ => False) rfl rfl ?aO ?aR (fun _ _ h => h) (fun _ h => h.elim) ?aF ?aB ?aS ?aL ?_; (case aR => exact cS (Kd.C_below HR0.out HB.out)); (case aB => exact bS); (case aF => exact (fun _ _ => trivial)); (case aO => exact (rS HO245)); (case aS => exact (below_size bS)); (case aL => have := LMc2.out; omega); intro v247 w5 ho hb hg hat; rw [← Ny246.out] at ho; have HO248 := Aside0.mk (ho); replace HB := Aside0.mk (hb); clear HO245; clear ho hb hg hat))
  go_ret
  exact ⟨_, eS, rS HO248, bS⟩
 ·rw [if_neg c2] at H
  exact absurd H (by simp)

/-! ### impl_copyObject: function 138 -/
def impl_copyObject.f (l0_0 : List (S171)) (a0_1 : Int) (a0_2 : Int) (a0_3 : Int) (a0_4 : Int) (a0_5 : Int) : Option ((List (S171)) × Int × Int × Int × Int × Int) := (impl_Point.f l0_0).bind fun t251 => (some (t251, a0_1, a0_2, a0_3, a0_4, a0_5))
theorem impl_copyObject.calls (A0_0 : Option Addr) (c0_0 : Nat) (l0_0 : List (S171)) (a0_1 : Int) (a0_2 : Int) (a0_3 : Int) (a0_4 : Int) (a0_5 : Int) (r1 : List (S171)) (r2 : Int) (r3 : Int) (r4 : Int) (r5 : Int) (r6 : Int) (w : World) (hr0_0 : Kd.C k171 w A0_0 l0_0.length l0_0) (hc0_0 : l0_0.length ≤ c0_0) (h : impl_copyObject.f l0_0 a0_1 a0_2 a0_3 a0_4 a0_5 = some (r1, r2, r3, r4, r5, r6)) :
  Calls Try.prog 138 #[.agg #[.slice A0_0 l0_0.length c0_0, .int .i64 a0_1, .int .i64 a0_2, .int .i64 a0_3, .int .i64 a0_4, .int .i64 a0_5]] w fun e w' => ∃ v0_ : Value, e = .returned (.agg #[v0_, .int .i64 r2, .int .i64 r3, .int .i64 r4, .int .i64 r5, .int .i64 r6]) ∧ Kd.R k171 171 w' w.heap.size (fun _ => True) v0_ r1 ∧ Below w.heap.size w w' := by
 have hu45 := Try.underlying45
 have HR0_0 := Aside0.mk hr0_0
 have HC0_0 := Aside0.mk hc0_0
 clear hr0_0 hc0_0
 have HB := Aside0.mk (Below.refl w.heap.size w)
 have H : ((impl_Point.f l0_0).bind fun t251 => (some (t251, a0_1, a0_2, a0_3, a0_4, a0_5))) = some (r1, r2, r3, r4, r5, r6) := h
 clear h
 replace H := bN H
 obtain ⟨t251, A2, H⟩ := H
 obtain ⟨rfl, rfl, rfl, rfl, rfl, rfl⟩ := sI6 H
 go_enter Try.func138, Try.ntmps138
 go_wp2_with (first | ((with_reducible refine gD 1 ?_); refine bxE #[.slice A0_0 l0_0.length c0_0, .int .i64 a0_1, .int .i64 a0_2, .int .i64 a0_3, .int .i64 a0_4, .int .i64 a0_5] 45 ?_; intro gb249 hg w3 BK249 hb; have GW249 := gE hg; have GE249 := gE hg; replace HB := hB hb; clear hb hg) | ((with_reducible refine gD 2 ?_); refine bxE #[.slice none 0 0, .int .i64 0, .int .i64 0, .int .i64 0, .int .i64 0, .int .i64 0] 45 ?_; intro gb250 hg w4 BK250 hb; have GW250 := gE hg; have GE250 := gE hg; have NB249_250 := nL (g := gb249) hg; have NB250_249 := nG (g := gb249) hg; replace BK249 := kB (g := gb249) hb; replace HB := hB hb; clear hb hg; have hnb5 := NB249_250.out; have hnc5 := NB250_249.out; have hz6 := cz6 BK249) | ((with_reducible refine gC 176 ?_); refine cL (some 5) Try.func176 #[.slice A0_0 l0_0.length c0_0] ?_; (with_reducible refine (impl_Point.calls _ _ l0_0 t251 _ (cS (Kd.C_below HR0_0.out HB.out)) HC0_0.out A2.out).mono ?_); rintro e w7 ⟨v252, rfl, ho0, hb⟩; refine ⟨_, rfl, ?_⟩; have HO253 := Aside0.mk (Kd.R_lower ho0 (below_size bS)); replace BK249 := kB (g := gb249) hb; replace BK250 := kB (g := gb250) hb; replace HB := hB hb; (try clear hb); (try clear hb2); (try clear hk); (try clear hi); (try clear ho0); obtain ⟨Ao8, co8, eo8⟩ := Kd.R_slice HO253.out; subst eo8; have hz9 := cz6 BK249; have hz10 := cz6 BK250))
 refine bodyPost_ret (results_cell_row rfl _ _ gb250 45 #[.slice Ao8 t251.length co8, .int .i64 a0_1, .int .i64 a0_2, .int .i64 a0_3, .int .i64 a0_4, .int .i64 a0_5] (0, 0) _ rfl kS Try.underlying45 rfl (by kernel_rfl)) rfl ?_
 exact ⟨_, eS, by exact rT (Kd.R_mono (Kd.R_far (p := ⟨gb250, 5, none⟩) (Kd.R_far (p := ⟨gb250, 4, none⟩) (Kd.R_far (p := ⟨gb250, 3, none⟩) (Kd.R_far (p := ⟨gb250, 2, none⟩) (Kd.R_far (p := ⟨gb250, 1, none⟩) (Kd.R_far (p := ⟨gb250, 0, none⟩) (Kd.R_far (p := ⟨gb249, 0, none⟩) (Kd.R_types (Kd.R_types HO253.out BK249.out (by decide)) BK250.out (by decide)) (fun _ hk => hk.1.2) (.slice Ao8 t251.length co8)) (fun _ hk => hk.2) (.slice Ao8 t251.length co8)) (fun _ hk => hk.2) (.int .i64 a0_1)) (fun _ hk => hk.2) (.int .i64 a0_2)) (fun _ hk => hk.2) (.int .i64 a0_3)) (fun _ hk => hk.2) (.int .i64 a0_4)) (fun _ hk => hk.2) (.int .i64 a0_5)) (fun _ hk => trivial)), bS⟩

/-! ### impl_ObjectsOfBand: function 76 -/
def impl_ObjectsOfBand.l0 : Nat → Int → Int → List (S45) → List (S45) → Int → Int → Option ((List (S45)))
 | 0, _, _, _, _, _, _ => none
 | k + 1, x1, x2, x7, x10, x11, x12 => if x12 < x11 then (if 0 ≤ x12 then (if x12 < (x10.length : Int) then ((impl_ObjectOk.f k ((rd_T45 x10 x12).f0) ((rd_T45 x10 x12).f1) ((rd_T45 x10 x12).f2.f0) ((rd_T45 x10 x12).f2.f1) ((rd_T45 x10 x12).f2.f2) ((rd_T45 x10 x12).f2.f3)).bind fun t256 => (if t256 = true then ((impl_TouchesBand.f k ((rd_T45 x10 x12).f0) ((rd_T45 x10 x12).f1) ((rd_T45 x10 x12).f2.f0) ((rd_T45 x10 x12).f2.f1) ((rd_T45 x10 x12).f2.f2) ((rd_T45 x10 x12).f2.f3) x1 x2).bind fun t257 => (if t257 = true then ((impl_copyObject.f ((rd_T45 x10 x12).f0) ((rd_T45 x10 x12).f1) ((rd_T45 x10 x12).f2.f0) ((rd_T45 x10 x12).f2.f1) ((rd_T45 x10 x12).f2.f2) ((rd_T45 x10 x12).f2.f3)).bind fun bt258 => (if x7.length < 2199023255552 then (impl_ObjectsOfBand.l0 k x1 x2 (x7 ++ [(⟨bt258.1, bt258.2.1, (⟨bt258.2.2.1, bt258.2.2.2.1, bt258.2.2.2.2.1, bt258.2.2.2.2.2⟩ : S43)⟩ : S45)]) x10 x11 (wrap64 (x12 + 1))) else (none))) else (impl_ObjectsOfBand.l0 k x1 x2 x7 x10 x11 (wrap64 (x12 + 1))))) else (impl_ObjectsOfBand.l0 k x1 x2 x7 x10 x11 (wrap64 (x12 + 1))))) else (none)) else (none)) else (some x7)
def impl_ObjectsOfBand.f (k : Nat) (l0 : List (S45)) (a1 : Int) (a2 : Int) : Option ((List (S45))) := impl_ObjectsOfBand.l0 k a1 a2 ([] : List (S45)) l0 (l0.length : Int) 0
theorem impl_ObjectsOfBand.calls (k : Nat) (A0 : Option Addr) (c0 : Nat) (l0 : List (S45)) (a1 : Int) (a2 : Int) (r : List (S45)) (w : World) (hr0 : Kd.C k45 w A0 l0.length l0) (hc0 : l0.length ≤ c0) (h : impl_ObjectsOfBand.f k l0 a1 a2 = some r) :
  Calls Try.prog 76 #[.slice A0 l0.length c0, .int .i64 a1, .int .i64 a2] w fun e w' => ∃ v0_ : Value, e = .returned (v0_) ∧ Kd.S k45 45 w' w.heap.size (fun _ => True) v0_ r ∧ Below w.heap.size w w' := by
 have hu45 := Try.underlying45
 have HR0 := Aside0.mk hr0
 have HC0 := Aside0.mk hc0
 clear hr0 hc0
 have HB := Aside0.mk (Below.refl w.heap.size w)
 have H : (impl_ObjectsOfBand.l0 k a1 a2 ([] : List (S45)) l0 (l0.length : Int) 0) = some r := h
 clear h
 have H' := Aside0.mk H
 clear H
 go_enter Try.func76, Try.ntmps76
 go_wp2
 go_loopg [7, 12] k (fun kq v7 v12 w' => ∃ (x7_1 : List (S45)) (x12_1 : Int), v12 = .int .i64 x12_1 ∧ Aside0 (impl_ObjectsOfBand.l0 kq a1 a2 x7_1 l0 (l0.length : Int) x12_1 = some r) ∧ Aside0 (kq ≤ k) ∧ Aside0 (Kd.S k45 45 w' w.heap.size (fun _ => True) v7 x7_1) ∧ Aside0 (Below w.heap.size w w'))
 case atStart => exact ⟨(([] : List (S45))), (0), fS, H', ⟨Nat.le_refl _⟩, ⟨by first | exact Kd.S_nil _ _ _ _ _ | exact Kd.N_nil _ _ _ _ _ | exact Kd.V_nil _ _ _ _ _ | exact Kd.Q_nil _ _ _ _ _ | exact Kd.R_nil _ _ _ _ _⟩, ⟨bS⟩⟩
 case round =>
  clear H'
  try clear p2
  obtain ⟨x7_1, x12_1, rfl, HA, HK1, HO_7, HB⟩ := hrel
  cases gk with
  | zero => exact absurd HA.out (by simp [impl_ObjectsOfBand.l0])
  | succ k1 =>
   have H := HA.out
   clear HA
   simp only [impl_ObjectsOfBand.l0] at H
   rcases iD H with ⟨c4b0, H⟩ | ⟨c4b0, H⟩
   ·obtain ⟨c5b0, H⟩ := iT H
    obtain ⟨c6b0, H⟩ := iT H
    replace H := bN H
    obtain ⟨t256, A7, H⟩ := H
    by_cases c8 : t256 = true
    ·subst c8
     rw [if_pos rfl] at H
     replace H := bN H
     obtain ⟨t257, A9, H⟩ := H
     by_cases c10 : t257 = true
     ·subst c10
      rw [if_pos rfl] at H
      replace H := bN H
      obtain ⟨⟨t258, t261, t262, t263, t264, t265⟩, A11, H⟩ := H
      obtain ⟨LMc12, H⟩ := iL H
      obtain ⟨y266, hy266⟩ : ∃ y_ : List (S45), y_ = (x7_1 ++ [(⟨t258, t261, (⟨t262, t263, t264, t265⟩ : S43)⟩ : S45)]) := ⟨_, rfl⟩
      replace H : (impl_ObjectsOfBand.l0 k1 a1 a2 y266 l0 (l0.length : Int) (wrap64 (x12_1 + 1))) = some r := by first | (rw [hy266]; with_reducible exact H) | (have H2_ := (Option.bind_some _ _).symm.trans H; rw [hy266]; with_reducible exact H2_) | (have H2_ := (Option.bind_some _ _).symm.trans H; with_reducible exact H2_) | with_reducible exact H | (rw [hy266]; exact H) | exact H
      have Ny266 := Aside0.mk hy266
      clear hy266
      have H' := Aside0.mk H
      clear H
      have p254 : 0 ≤ (x12_1 : Int) := dA
      have q254 : x12_1 < (l0.length : Int) := dA
      obtain ⟨ad254, A254_0, c254_0, e254, hx254_0, hx254_1, hx254_2, hx254_3, hx254_4, hx254_5, hl254_0, hi254_0⟩ := at_T45 HR0.out x12_1 p254 q254
      cases e254
      replace hx254_0 := cB HB hx254_0
      replace hx254_1 := cB HB hx254_1
      replace hx254_2 := cB HB hx254_2
      replace hx254_3 := cB HB hx254_3
      replace hx254_4 := cB HB hx254_4
      replace hx254_5 := cB HB hx254_5
      have HR254_0 := Aside0.mk hi254_0
      have HC254_0 := Aside0.mk hl254_0
      clear hi254_0 hl254_0
      replace p254 := eq_true p254
      replace q254 := eq_true q254
      go_wp2_with (first | ((with_reducible refine gD 9 ?_); refine bxE #[.slice none 0 0, .int .i64 0, .int .i64 0, .int .i64 0, .int .i64 0, .int .i64 0] 45 ?_; intro gb255 hg w13 BK255 hb; have GW255 := gE hg; have GE255 := gE hg; replace HO_7 := Aside0.mk (Kd.S_below (Kd.S_elderB (sS HO_7) gb255 (Nat.le_of_eq hg.symm)) hb); replace HB := hB hb; clear hb hg; have hz14 := cz6 BK255) | ((with_reducible refine gC 87 ?_); refine cL (some 17) Try.func87 #[.agg #[.slice A254_0 ((rd_T45 l0 x12_1).f0).length c254_0, .int .i64 ((rd_T45 l0 x12_1).f1), .int .i64 ((rd_T45 l0 x12_1).f2.f0), .int .i64 ((rd_T45 l0 x12_1).f2.f1), .int .i64 ((rd_T45 l0 x12_1).f2.f2), .int .i64 ((rd_T45 l0 x12_1).f2.f3)]] ?_; (with_reducible refine (impl_ObjectOk.calls k1 _ _ ((rd_T45 l0 x12_1).f0) ((rd_T45 l0 x12_1).f1) ((rd_T45 l0 x12_1).f2.f0) ((rd_T45 l0 x12_1).f2.f1) ((rd_T45 l0 x12_1).f2.f2) ((rd_T45 l0 x12_1).f2.f3) _ _ (Kd.C_below HR254_0.out bS) HC254_0.out A7.out).mono ?_); rintro e w15 ⟨rfl, hb⟩; refine ⟨_, rfl, ?_⟩; replace HO_7 := Aside0.mk (Kd.S_below (by exact sT (Kd.S_mono (Kd.S_far (p := ⟨gb255, 5, none⟩) (Kd.S_far (p := ⟨gb255, 4, none⟩) (Kd.S_far (p := ⟨gb255, 3, none⟩) (Kd.S_far (p := ⟨gb255, 2, none⟩) (Kd.S_far (p := ⟨gb255, 1, none⟩) (Kd.S_far (p := ⟨gb255, 0, none⟩) (Kd.S_mono HO_7.out (fun k_ hk => (⟨hk, hk.2⟩ : _ ∧ k_ ≠ gb255))) (fun _ hk => hk.2) (.slice A254_0 ((rd_T45 l0 x12_1).f0).length c254_0)) (fun _ hk => hk.2) (.int .i64 ((rd_T45 l0 x12_1).f1))) (fun _ hk => hk.2) (.int .i64 ((rd_T45 l0 x12_1).f2.f0))) (fun _ hk => hk.2) (.int .i64 ((rd_T45 l0 x12_1).f2.f1))) (fun _ hk => hk.2) (.int .i64 ((rd_T45 l0 x12_1).f2.f2))) (fun _ hk => hk.2) (.int .i64 ((rd_T45 l0 x12_1).f2.f3))) (fun _ h_ => h_.1))) hb); replace BK255 := Aside0.mk (blk_below (g := gb255) (o := .cells #[.slice A254_0 ((rd_T45 l0 x12_1).f0).length c254_0, .int .i64 ((rd_T45 l0 x12_1).f1), .int .i64 ((rd_T45 l0 x12_1).f2.f0), .int .i64 ((rd_T45 l0 x12_1).f2.f1), .int .i64 ((rd_T45 l0 x12_1).f2.f2), .int .i64 ((rd_T45 l0 x12_1).f2.f3)] 45 (0, 0)) kS hb); replace HB := hB hb; (try clear hb); (try clear hb2); (try clear hk); (try clear hi); have hz16 := cz6 BK255) | (go_at_call 102; (with_reducible refine (impl_TouchesBand.calls k1 _ _ ((rd_T45 l0 x12_1).f0) ((rd_T45 l0 x12_1).f1) ((rd_T45 l0 x12_1).f2.f0) ((rd_T45 l0 x12_1).f2.f1) ((rd_T45 l0 x12_1).f2.f2) ((rd_T45 l0 x12_1).f2.f3) a1 a2 _ _ (cS (Kd.C_below HR254_0.out HB.out)) HC254_0.out A9.out).mono ?_); rintro e w17 ⟨rfl, hb⟩; replace HO_7 := sB HO_7 hb; replace BK255 := kB (g := gb255) hb; replace HB := hB hb; (try clear hb); (try clear hb2); (try clear hk); (try clear hi); have hz18 := cz6 BK255) | ((with_reducible refine gC 138 ?_); refine cL (some 26) Try.func138 #[.agg #[.slice A254_0 ((rd_T45 l0 x12_1).f0).length c254_0, .int .i64 ((rd_T45 l0 x12_1).f1), .int .i64 ((rd_T45 l0 x12_1).f2.f0), .int .i64 ((rd_T45 l0 x12_1).f2.f1), .int .i64 ((rd_T45 l0 x12_1).f2.f2), .int .i64 ((rd_T45 l0 x12_1).f2.f3)]] ?_; (with_reducible refine (impl_copyObject.calls _ _ ((rd_T45 l0 x12_1).f0) ((rd_T45 l0 x12_1).f1) ((rd_T45 l0 x12_1).f2.f0) ((rd_T45 l0 x12_1).f2.f1) ((rd_T45 l0 x12_1).f2.f2) ((rd_T45 l0 x12_1).f2.f3) t258 t261 t262 t263 t264 t265 _ (cS (Kd.C_below HR254_0.out HB.out)) HC254_0.out A11.out).mono ?_); rintro e w19 ⟨v259, rfl, ho0, hb⟩; refine ⟨_, rfl, ?_⟩; have HO260 := Aside0.mk (Kd.R_lower ho0 (below_size bS)); replace HO_7 := Aside0.mk (Kd.S_elder' (sS HO_7) (Kd.R_base ho0) hb); replace BK255 := kB (g := gb255) hb; replace HB := hB hb; (try clear hb); (try clear hb2); (try clear hk); (try clear hi); (try clear ho0); obtain ⟨Ao21, co21, eo21⟩ := Kd.R_slice HO260.out; subst eo21) | ((with_reducible refine gate_builtin (b := .append) (xs := #[.tmp 24, .tmp 27]) rfl ?_); at_builtin; refine Kd.S_append k45 (w0 := w) w.heap.size rfl (.tmp 24) (.tmp 27) 24 45 (.agg #[(.slice none 0 0), (.int .i64 0), (.int .i64 0), (.int .i64 0), (.int .i64 0), (.int .i64 0)]) 64 rfl Try.underlying24 info45 rfl (by decide) (by omega) u7 x7_1 (⟨t258, t261, (⟨t262, t263, t264, t265⟩ : S43)⟩ : S45) [.slice Ao21 t258.length co21, .int .i64 t261, .int .i64 t262, .int .i64 t263, .int .i64 t264, .int .i64 t265] (fun k_ => k_ ≠ gb255) (fun k_ => some k_ = (.slice Ao21 t258.length co21 : Value).ownBlock) rfl rfl ?aP (fun k_ hk_ => ((Kd.R_mono (ok' := fun k_ => ((fun k_ => k_ ≠ gb255)) k_ ∧ some k_ ≠ (u7 : Value).ownBlock) (Kd.R_types (Kd.R_apart' (HO260.out) (Kd.S_typed HO_7.out) (by decide)) BK255.out (by decide)) (fun k_ hk => ⟨hk.2, hk.1.2⟩))).1 k_ hk_.symm) ?aF ?aO ?aB ?aS ?aL ?_; (case aP => exact k45_mkM _ _ _ (⟨t258, t261, (⟨t262, t263, t264, t265⟩ : S43)⟩ : S45) (Kd.R_mono (Kd.R_tight rfl (Kd.R_mono (ok' := fun k_ => ((fun k_ => k_ ≠ gb255)) k_ ∧ some k_ ≠ (u7 : Value).ownBlock) (Kd.R_types (Kd.R_apart' (HO260.out) (Kd.S_typed HO_7.out) (by decide)) BK255.out (by decide)) (fun k_ hk => ⟨hk.2, hk.1.2⟩))) (fun _ h_ => h_))); (case aB => exact bS); (case aF => exact (fun k_ hk => Kd.freshB (g := gb255) kS k_ hk)); (case aO => exact (by exact sT (Kd.S_mono HO_7.out (fun k_ hk => ⟨hk.1.2, fun e_ => hk.2 e_⟩)))); (case aS => exact (below_size bS)); (case aL => have := LMc12.out; omega); intro v267 w20 ho hb hg hat; rw [← Ny266.out] at ho; have HO268 := Aside0.mk (ho); replace BK255 := Aside0.mk (blk_grown (g := gb255) kS hg (Kd.S_away HO_7.out (fun _ hk => hk.1.2))); replace HB := Aside0.mk (hb); clear HO_7 HO260; clear ho hb hg hat))
      go_roundg k1
      case measure => have := HK1.out; omega
      case rel => exact ⟨(y266), (wrap64 (x12_1 + 1)), fS, H', ⟨by have := HK1.out; omega⟩, ⟨by exact sT (Kd.S_mono HO268.out (fun _ hk => trivial))⟩, ⟨bS⟩⟩
     ·obtain rfl := Bool.eq_false_iff.mpr c10
      rw [if_neg nF] at H
      have H' := Aside0.mk H
      clear H
      have p254 : 0 ≤ (x12_1 : Int) := dA
      have q254 : x12_1 < (l0.length : Int) := dA
      obtain ⟨ad254, A254_0, c254_0, e254, hx254_0, hx254_1, hx254_2, hx254_3, hx254_4, hx254_5, hl254_0, hi254_0⟩ := at_T45 HR0.out x12_1 p254 q254
      cases e254
      replace hx254_0 := cB HB hx254_0
      replace hx254_1 := cB HB hx254_1
      replace hx254_2 := cB HB hx254_2
      replace hx254_3 := cB HB hx254_3
      replace hx254_4 := cB HB hx254_4
      replace hx254_5 := cB HB hx254_5
      have HR254_0 := Aside0.mk hi254_0
      have HC254_0 := Aside0.mk hl254_0
      clear hi254_0 hl254_0
      replace p254 := eq_true p254
      replace q254 := eq_true q254
      go_wp2_with (first | ((with_reducible refine gD 9 ?_); refine bxE #[.slice none 0 0, .int .i64 0, .int .i64 0, .int .i64 0, .int .i64 0, .int .i64 0] 45 ?_; intro gb255 hg w22 BK255 hb; have GW255 := gE hg; have GE255 := gE hg; replace HO_7 := Aside0.mk (Kd.S_below (Kd.S_elderB (sS HO_7) gb255 (Nat.le_of_eq hg.symm)) hb); replace HB := hB hb; clear hb hg; have hz23 := cz6 BK255) | ((with_reducible refine gC 87 ?_); refine cL (some 17) Try.func87 #[.agg #[.slice A254_0 ((rd_T45 l0 x12_1).f0).length c254_0, .int .i64 ((rd_T45 l0 x12_1).f1), .int .i64 ((rd_T45 l0 x12_1).f2.f0), .int .i64 ((rd_T45 l0 x12_1).f2.f1), .int .i64 ((rd_T45 l0 x12_1).f2.f2), .int .i64 ((rd_T45 l0 x12_1).f2.f3)]] ?_; (with_reducible refine (impl_ObjectOk.calls k1 _ _ ((rd_T45 l0 x12_1).f0) ((rd_T45 l0 x12_1).f1) ((rd_T45 l0 x12_1).f2.f0) ((rd_T45 l0 x12_1).f2.f1) ((rd_T45 l0 x12_1).f2.f2) ((rd_T45 l0 x12_1).f2.f3) _ _ (Kd.C_below HR254_0.out bS) HC254_0.out A7.out).mono ?_); rintro e w24 ⟨rfl, hb⟩; refine ⟨_, rfl, ?_⟩; replace HO_7 := Aside0.mk (Kd.S_below (by exact sT (Kd.S_mono (Kd.S_far (p := ⟨gb255, 5, none⟩) (Kd.S_far (p := ⟨gb255, 4, none⟩) (Kd.S_far (p := ⟨gb255, 3, none⟩) (Kd.S_far (p := ⟨gb255, 2, none⟩) (Kd.S_far (p := ⟨gb255, 1, none⟩) (Kd.S_far (p := ⟨gb255, 0, none⟩) (Kd.S_mono HO_7.out (fun k_ hk => (⟨hk, hk.2⟩ : _ ∧ k_ ≠ gb255))) (fun _ hk => hk.2) (.slice A254_0 ((rd_T45 l0 x12_1).f0).length c254_0)) (fun _ hk => hk.2) (.int .i64 ((rd_T45 l0 x12_1).f1))) (fun _ hk => hk.2) (.int .i64 ((rd_T45 l0 x12_1).f2.f0))) (fun _ hk => hk.2) (.int .i64 ((rd_T45 l0 x12_1).f2.f1))) (fun _ hk => hk.2) (.int .i64 ((rd_T45 l0 x12_1).f2.f2))) (fun _ hk => hk.2) (.int .i64 ((rd_T45 l0 x12_1).f2.f3))) (fun _ h_ => h_.1))) hb); replace BK255 := Aside0.mk (blk_below (g := gb255) (o := .cells #[.slice A254_0 ((rd_T45 l0 x12_1).f0).length c254_0, .int .i64 ((rd_T45 l0 x12_1).f1), .int .i64 ((rd_T45 l0 x12_1).f2.f0), .int .i64 ((rd_T45 l0 x12_1).f2.f1), .int .i64 ((rd_T45 l0 x12_1).f2.f2), .int .i64 ((rd_T45 l0 x12_1).f2.f3)] 45 (0, 0)) kS hb); replace HB := hB hb; (try clear hb); (try clear hb2); (try clear hk); (try clear hi); have hz25 := cz6 BK255) | (go_at_call 102; (with_reducible refine (impl_TouchesBand.calls k1 _ _ ((rd_T45 l0 x12_1).f0) ((rd_T45 l0 x12_1).f1) ((rd_T45 l0 x12_1).f2.f0) ((rd_T45 l0 x12_1).f2.f1) ((rd_T45 l0 x12_1).f2.f2) ((rd_T45 l0 x12_1).f2.f3) a1 a2 _ _ (cS (Kd.C_below HR254_0.out HB.out)) HC254_0.out A9.out).mono ?_); rintro e w26 ⟨rfl, hb⟩; replace HO_7 := sB HO_7 hb; replace BK255 := kB (g := gb255) hb; replace HB := hB hb; (try clear hb); (try clear hb2); (try clear hk); (try clear hi)))
      go_roundg k1
      case measure => have := HK1.out; omega
      case rel => exact ⟨(x7_1), (wrap64 (x12_1 + 1)), fS, H', ⟨by have := HK1.out; omega⟩, ⟨by exact sT (Kd.S_mono HO_7.out (fun _ hk => trivial))⟩, ⟨bS⟩⟩
    ·obtain rfl := Bool.eq_false_iff.mpr c8
     rw [if_neg nF] at H
     have H' := Aside0.mk H
     clear H
     have p254 : 0 ≤ (x12_1 : Int) := dA
     have q254 : x12_1 < (l0.length : Int) := dA
     obtain ⟨ad254, A254_0, c254_0, e254, hx254_0, hx254_1, hx254_2, hx254_3, hx254_4, hx254_5, hl254_0, hi254_0⟩ := at_T45 HR0.out x12_1 p254 q254
     cases e254
     replace hx254_0 := cB HB hx254_0
     replace hx254_1 := cB HB hx254_1
     replace hx254_2 := cB HB hx254_2
     replace hx254_3 := cB HB hx254_3
     replace hx254_4 := cB HB hx254_4
     replace hx254_5 := cB HB hx254_5
     have HR254_0 := Aside0.mk hi254_0
     have HC254_0 := Aside0.mk hl254_0
     clear hi254_0 hl254_0
     replace p254 := eq_true p254
     replace q254 := eq_true q254
     go_wp2_with (first | ((with_reducible refine gD 9 ?_); refine bxE #[.slice none 0 0, .int .i64 0, .int .i64 0, .int .i64 0, .int .i64 0, .int .i64 0] 45 ?_; intro gb255 hg w27 BK255 hb; have GW255 := gE hg; have GE255 := gE hg; replace HO_7 := Aside0.mk (Kd.S_below (Kd.S_elderB (sS HO_7) gb255 (Nat.le_of_eq hg.symm)) hb); replace HB := hB hb; clear hb hg; have hz28 := cz6 BK255) | ((with_reducible refine gC 87 ?_); refine cL (some 17) Try.func87 #[.agg #[.slice A254_0 ((rd_T45 l0 x12_1).f0).length c254_0, .int .i64 ((rd_T45 l0 x12_1).f1), .int .i64 ((rd_T45 l0 x12_1).f2.f0), .int .i64 ((rd_T45 l0 x12_1).f2.f1), .int .i64 ((rd_T45 l0 x12_1).f2.f2), .int .i64 ((rd_T45 l0 x12_1).f2.f3)]] ?_; (with_reducible refine (impl_ObjectOk.calls k1 _ _ ((rd_T45 l0 x12_1).f0) ((rd_T45 l0 x12_1).f1) ((rd_T45 l0 x12_1).f2.f0) ((rd_T45 l0 x12_1).f2.f1) ((rd_T45 l0 x12_1).f2.f2) ((rd_T45 l0 x12_1).f2.f3) _ _ (Kd.C_below HR254_0.out bS) HC254_0.out A7.out).mono ?_); rintro e w29 ⟨rfl, hb⟩; refine ⟨_, rfl, ?_⟩; replace HO_7 := Aside0.mk (Kd.S_below (by exact sT (Kd.S_mono (Kd.S_far (p := ⟨gb255, 5, none⟩) (Kd.S_far (p := ⟨gb255, 4, none⟩) (Kd.S_far (p := ⟨gb255, 3, none⟩) (Kd.S_far (p := ⟨gb255, 2, none⟩) (Kd.S_far (p := ⟨gb255, 1, none⟩) (Kd.S_far (p := ⟨gb255, 0, none⟩) (Kd.S_mono HO_7.out (fun k_ hk => (⟨hk, hk.2⟩ : _ ∧ k_ ≠ gb255))) (fun _ hk => hk.2) (.slice A254_0 ((rd_T45 l0 x12_1).f0).length c254_0)) (fun _ hk => hk.2) (.int .i64 ((rd_T45 l0 x12_1).f1))) (fun _ hk => hk.2) (.int .i64 ((rd_T45 l0 x12_1).f2.f0))) (fun _ hk => hk.2) (.int .i64 ((rd_T45 l0 x12_1).f2.f1))) (fun _ hk => hk.2) (.int .i64 ((rd_T45 l0 x12_1).f2.f2))) (fun _ hk => hk.2) (.int .i64 ((rd_T45 l0 x12_1).f2.f3))) (fun _ h_ => h_.1))) hb); replace BK255 := Aside0.mk (blk_below (g := gb255) (o := .cells #[.slice A254_0 ((rd_T45 l0 x12_1).f0).length c254_0, .int .i64 ((rd_T45 l0 x12_1).f1), .int .i64 ((rd_T45 l0 x12_1).f2.f0), .int .i64 ((rd_T45 l0 x12_1).f2.f1), .int .i64 ((rd_T45 l0 x12_1).f2.f2), .int .i64 ((rd_T45 l0 x12_1).f2.f3)] 45 (0, 0)) kS hb); replace HB := hB hb; (try clear hb); (try clear hb2); (try clear hk); (try clear hi)))
     go_roundg k1
     case measure => have := HK1.out; omega
     case rel => exact ⟨(x7_1), (wrap64 (x12_1 + 1)), fS, H', ⟨by have := HK1.out; omega⟩, ⟨by exact sT (Kd.S_mono HO_7.out (fun _ hk => trivial))⟩, ⟨bS⟩⟩
   ·obtain rfl := Option.some.inj H
    go_wp2
    go_ret
    exact ⟨_, eS, sS HO_7, bS⟩

/-! ### impl_RenderBands: function 19 -/
def impl_RenderBands.l0 : Nat → List (S45) → Int → List (List Int) → Int → Option ((List (List Int)))
 | 0, _, _, _, _ => none
 | k + 1, x0, x1, x5, x6 => (impl_CountBands.f x1).bind fun t269 => (if x6 < t269 then ((impl_ObjectsOfBand.f k x0 x1 x6).bind fun t270 => ((impl_RenderBand.f k t270 x1 x6).bind fun t273 => (if x5.length + t273.length < 5864062014805 then (impl_RenderBands.l0 k x0 x1 (x5 ++ t273) (wrap64 (x6 + 1))) else (none)))) else (some x5))
def impl_RenderBands.f (k : Nat) (l0 : List (S45)) (a1 : Int) : Option ((List (List Int))) := impl_RenderBands.l0 k l0 a1 ([] : List (List Int)) 0
theorem impl_RenderBands.calls (k : Nat) (A0 : Option Addr) (c0 : Nat) (l0 : List (S45)) (a1 : Int) (r : List (List Int)) (w : World) (hr0 : Kd.C k45 w A0 l0.length l0) (hc0 : l0.length ≤ c0) (h : impl_RenderBands.f k l0 a1 = some r) :
  Calls Try.prog 19 #[.slice A0 l0.length c0, .int .i64 a1] w fun e w' => ∃ v0_ : Value, e = .returned (v0_) ∧ Kd.S (Kd.slice 3 (Kd.int .i64)) 71 w' w.heap.size (fun _ => True) v0_ r ∧ Below w.heap.size w w' := by
 have HR0 := Aside0.mk hr0
 have HC0 := Aside0.mk hc0
 clear hr0 hc0
 have HB := Aside0.mk (Below.refl w.heap.size w)
 have H : (impl_RenderBands.l0 k l0 a1 ([] : List (List Int)) 0) = some r := h
 clear h
 have H' := Aside0.mk H
 clear H
 go_enter Try.func19, Try.ntmps19
 go_wp2
 go_loopg [5, 6] k (fun kq v5 v6 w' => ∃ (x5_1 : List (List Int)) (x6_1 : Int), v6 = .int .i64 x6_1 ∧ Aside0 (impl_RenderBands.l0 kq l0 a1 x5_1 x6_1 = some r) ∧ Aside0 (kq ≤ k) ∧ Aside0 (Kd.S (Kd.slice 3 (Kd.int .i64)) 71 w' w.heap.size (fun _ => True) v5 x5_1) ∧ Aside0 (Below w.heap.size w w'))
 case atStart => exact ⟨(([] : List (List Int))), (0), fS, H', ⟨Nat.le_refl _⟩, ⟨by first | exact Kd.S_nil _ _ _ _ _ | exact Kd.N_nil _ _ _ _ _ | exact Kd.V_nil _ _ _ _ _ | exact Kd.Q_nil _ _ _ _ _ | exact Kd.R_nil _ _ _ _ _⟩, ⟨bS⟩⟩
 case round =>
  clear H'
  try clear c1
  try clear p2
  obtain ⟨x5_1, x6_1, rfl, HA, HK1, HO_5, HB⟩ := hrel
  cases gk with
  | zero => exact absurd HA.out (by simp [impl_RenderBands.l0])
  | succ k1 =>
   have H := HA.out
   clear HA
   simp only [impl_RenderBands.l0] at H
   replace H := bN H
   obtain ⟨t269, A3, H⟩ := H
   rcases iD H with ⟨c4b0, H⟩ | ⟨c4b0, H⟩
   ·replace H := bN H
    obtain ⟨t270, A5, H⟩ := H
    replace H := bN H
    obtain ⟨t273, A6, H⟩ := H
    obtain ⟨LMc7, H⟩ := iL H
    obtain ⟨y276, hy276⟩ : ∃ y_ : List (List Int), y_ = (x5_1 ++ t273) := ⟨_, rfl⟩
    replace H : (impl_RenderBands.l0 k1 l0 a1 y276 (wrap64 (x6_1 + 1))) = some r := by first | (rw [hy276]; with_reducible exact H) | (have H2_ := (Option.bind_some _ _).symm.trans H; rw [hy276]; with_reducible exact H2_) | (have H2_ := (Option.bind_some _ _).symm.trans H; with_reducible exact H2_) | with_reducible exact H | (rw [hy276]; exact H) | exact H
    have Ny276 := Aside0.mk hy276
    clear hy276
    have H' := Aside0.mk H
    clear H
    go_wp2_with (first | ((with_reducible refine gC 21 ?_); refine cL (some 9) Try.func21 #[.int .i64 a1] ?_; (with_reducible refine (impl_CountBands.calls a1 t269 _ A3.out).mono ?_); rintro e w' ⟨rfl, ⟨nd, rfl⟩⟩; refine ⟨_, rfl, ?_⟩) | ((with_reducible refine gC 76 ?_); refine cL (some 17) Try.func76 #[.slice A0 l0.length c0, .int .i64 a1, .int .i64 x6_1] ?_; (with_reducible refine (impl_ObjectsOfBand.calls k1 _ _ l0 a1 x6_1 t270 _ (cS (Kd.C_below HR0.out bS)) HC0.out A5.out).mono ?_); rintro e w8 ⟨v271, rfl, ho0, hb⟩; refine ⟨_, rfl, ?_⟩; have HO272 := Aside0.mk ho0; replace HO_5 := sB HO_5 hb; replace HB := hB hb; clear hb ho0; obtain ⟨Ao9, co9, eo9⟩ := Kd.S_slice HO272.out; subst eo9) | ((with_reducible refine gC 60 ?_); refine cL (some 20) Try.func60 #[.slice Ao9 t270.length co9, .int .i64 a1, .int .i64 x6_1] ?_; (with_reducible refine (impl_RenderBand.calls k1 _ _ t270 a1 x6_1 t273 _ (cS (Kd.S_reads' HO272.out).2.2) ((Kd.S_reads' HO272.out).2.1) A6.out).mono ?_); rintro e w10 ⟨v274, rfl, ho0, hb⟩; refine ⟨_, rfl, ?_⟩; obtain ⟨bX, HZX, hzX⟩ := S_born ho0; have HLX := Aside0.mk (show w.heap.size ≤ bX from by rw [HZX.out]; exact (below_size bS)); replace HO_5 := Aside0.mk (S_oldB (sS HO_5) hb HZX.out); have HO275 := Aside0.mk hzX; replace HB := hB hb; clear hb ho0 hzX; obtain ⟨Ao12, co12, eo12⟩ := Kd.S_slice HO275.out; subst eo12) | ((with_reducible refine gate_builtin (b := .append) (xs := #[.tmp 13, .tmp 20]) rfl ?_); at_builtin; refine S_append_rows (Kd.slice 3 (Kd.int .i64)) (w0 := w) w.heap.size rfl (.tmp 13) (.tmp 20) 27 71 (.slice none 0 0) 24 rfl Try.underlying27 info71 rfl (by decide) (by omega) u5 x5_1 t273 _ _ _ (fun _ => True) (fun k_ => bX ≤ k_) rfl rfl ?aO ?aR (fun _ _ => trivial) (fun _ _ => trivial) ?aB ?aS ?aL ?_; (case aO => (with_reducible repeat (first | apply Kd.S_alloc | apply Kd.S_drewN | apply Kd.S_drew)); exact Kd.S_mono HO_5.out (fun k_ hk => ⟨trivial, Nat.not_le.2 hk.2⟩)); (case aR => (with_reducible repeat (first | apply Kd.S_alloc | apply Kd.S_drewN | apply Kd.S_drew)); exact Kd.S_lower (Kd.S_mono (Kd.S_bound HO275.out) (fun k_ hk => hk.2.1)) HLX.out); (case aB => exact bS); (case aS => exact (below_size bS)); (case aL => have := LMc7.out; omega); intro v277 w11 ho hb hg hat; rw [← Ny276.out] at ho; have HO278 := Aside0.mk ho; replace HB := Aside0.mk hb; clear ho hb hg hat))
    go_roundg k1
    case measure => have := HK1.out; omega
    case rel => exact ⟨(y276), (wrap64 (x6_1 + 1)), fS, H', ⟨by have := HK1.out; omega⟩, ⟨sS HO278⟩, ⟨bS⟩⟩
   ·obtain rfl := Option.some.inj H
    go_wp2_with (first | ((with_reducible refine gC 21 ?_); refine cL (some 9) Try.func21 #[.int .i64 a1] ?_; (with_reducible refine (impl_CountBands.calls a1 t269 _ A3.out).mono ?_); rintro e w' ⟨rfl, ⟨nd, rfl⟩⟩; refine ⟨_, rfl, ?_⟩))
    go_ret
    exact ⟨_, eS, sS HO_5, bS⟩

/-! ### laws_szPointS: function 80 -/
def laws_szPointS.f (l0 : List (S173)) (a1 : Int) : Option (Int) := if (wrap64 (a1 - (l0.length : Int))) < 0 then (some (-1)) else (some (wrap64 (a1 - (l0.length : Int))))
theorem laws_szPointS.calls (A0 : Option Addr) (c0 : Nat) (l0 : List (S173)) (a1 : Int) (r : Int) (w : World) (hr0 : Kd.C k173 w A0 l0.length l0) (hc0 : l0.length ≤ c0) (h : laws_szPointS.f l0 a1 = some r) :
  Calls Try.prog 80 #[.slice A0 l0.length c0, .int .i64 a1] w fun e w' => e = .returned (.int .i64 r) ∧ Drawn0 w w' := by
 have HR0 := Aside0.mk hr0
 have HC0 := Aside0.mk hc0
 clear hr0 hc0
 have H : (if (wrap64 (a1 - (l0.length : Int))) < 0 then (some (-1)) else (some (wrap64 (a1 - (l0.length : Int))))) = some r := h
 clear h
 rcases iD H with ⟨c3b0, H⟩ | ⟨c3b0, H⟩
 ·obtain rfl := Option.some.inj H
  go_enter Try.func80, Try.ntmps80
  go_wp2
  go_ret
  exact ⟨fS, dS⟩
 ·obtain rfl := Option.some.inj H
  go_enter Try.func80, Try.ntmps80
  go_wp2
  go_ret
  exact ⟨fS, dS⟩

/-! ### laws_szObject: function 23 -/
def laws_szObject.f (l0_0 : List (S173)) (a0_1 : Int) (a0_2 : Int) (a0_3 : Int) (a0_4 : Int) (a0_5 : Int) (a1 : Int) : Option (Int) := (laws_szPointS.f l0_0 a1).bind fun t280 => (if t280 < 0 then (some (-1)) else (some t280))
theorem laws_szObject.lf0 {p : Prop} (h : p := by
 go_enter Try.func23, Try.ntmps23
 go_wp2_with (first | ((with_reducible refine gD 2 ?_); refine bxE #[.slice A0_0 l0_0.length c0_0, .int .i64 a0_1, .int .i64 a0_2, .int .i64 a0_3, .int .i64 a0_4, .int .i64 a0_5] 38 ?_; intro gb279 hg w5 BK279 hb; have GW279 := gE hg; have GE279 := gE hg; replace HB := hB hb; clear hb hg; have hz6 := cz6 BK279) | ((with_reducible refine gC 80 ?_); refine cL (some 8) Try.func80 #[.slice A0_0 l0_0.length c0_0, .int .i64 a1] ?_; (with_reducible refine (laws_szPointS.calls _ _ l0_0 a1 t280 _ (cS (Kd.C_below HR0_0.out HB.out)) HC0_0.out A3.out).mono ?_); rintro e w' ⟨rfl, ⟨nd, rfl⟩⟩; refine ⟨_, rfl, ?_⟩))
 go_ret
 exact ⟨eS, bS⟩) : p := h
theorem laws_szObject.calls (A0_0 : Option Addr) (c0_0 : Nat) (l0_0 : List (S173)) (a0_1 : Int) (a0_2 : Int) (a0_3 : Int) (a0_4 : Int) (a0_5 : Int) (a1 : Int) (r : Int) (w : World) (hr0_0 : Kd.C k173 w A0_0 l0_0.length l0_0) (hc0_0 : l0_0.length ≤ c0_0) (h : laws_szObject.f l0_0 a0_1 a0_2 a0_3 a0_4 a0_5 a1 = some r) :
  Calls Try.prog 23 #[.agg #[.slice A0_0 l0_0.length c0_0, .int .i64 a0_1, .int .i64 a0_2, .int .i64 a0_3, .int .i64 a0_4, .int .i64 a0_5], .int .i64 a1] w fun e w' => e = .returned (.int .i64 r) ∧ Below w.heap.size w w' := by
 have hu38 := Try.underlying38
 have HR0_0 := Aside0.mk hr0_0
 have HC0_0 := Aside0.mk hc0_0
 clear hr0_0 hc0_0
 have HB := Aside0.mk (Below.refl w.heap.size w)
 have H : ((laws_szPointS.f l0_0 a1).bind fun t280 => (if t280 < 0 then (some (-1)) else (some t280))) = some r := h
 clear h
 replace H := bN H
 obtain ⟨t280, A3, H⟩ := H
 rcases iD H with ⟨c4b0, H⟩ | ⟨c4b0, H⟩
 ·obtain rfl := Option.some.inj H
  exact laws_szObject.lf0
 ·obtain rfl := Option.some.inj H
  exact laws_szObject.lf0

end Go.Proofs.Ytigodjcnkgebaaa.QFnExactRenderBands
