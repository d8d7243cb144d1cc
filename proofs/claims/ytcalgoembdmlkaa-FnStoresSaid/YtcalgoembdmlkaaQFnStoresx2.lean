-- Made out of the translation by a program of this session (a changed copy of the print). Not trusted: Lean checks it.
import Derived.Test.YtcalgoembdmlkaaQFnStoresx0
import Derived.Test.YtcalgoembdmlkaaQFnStoresx1
namespace Go.Proofs.Ytcalgoembdmlkaa.QFnStores
open Go.RowKit Go.Proofs.YtcalgoembdmlkaaW.PrintWords Go.Proofs.YtcalgoembdmlkaaW.PrintLast Go.Proofs.YtcalgoembdmlkaaW.PrintMore
attribute [local go_sem] max2_int min2_int max_two min_two max_three min_three max_four min_four   -- for this text's walks alone
set_option linter.unusedVariables false
set_option linter.unusedSimpArgs false
set_option maxHeartbeats 8000000
set_option maxRecDepth 100000

/-! ### impl_RunsOf: function 27 -/
def impl_RunsOf.l0 : Nat → List (S112) → List Int → Int → Int → Option ((List (S112)))
  | 0, _, _, _, _ => none
  | k + 1, x3, x9, x10, x11 => if x11 < x10 then (if 0 ≤ x11 then (if x11 < (x9.length : Int) then ((impl_within.f (rd x9 x11) 0 255).bind fun t172 => (if t172 = true then (if (x3.length : Int) > 0 then (if 0 ≤ (wrap64 ((x3.length : Int) - 1)) then (if (wrap64 ((x3.length : Int) - 1)) < (x3.length : Int) then (if ((rd_T112 x3 (wrap64 ((x3.length : Int) - 1))).f0) = (rd x9 x11) then (impl_RunsOf.l0 k (x3.set ((wrap64 ((x3.length : Int) - 1)) : Int).toNat (⟨(rd_T112 x3 (wrap64 ((x3.length : Int) - 1))).f0, wrap64 (((rd_T112 x3 (wrap64 ((x3.length : Int) - 1))).f1) + 1)⟩ : S112)) x9 x10 (wrap64 (x11 + 1))) else (if x3.length < 8796093022208 then (impl_RunsOf.l0 k (x3 ++ [(⟨rd x9 x11, 1⟩ : S112)]) x9 x10 (wrap64 (x11 + 1))) else (none))) else (none)) else (none)) else (if x3.length < 8796093022208 then (impl_RunsOf.l0 k (x3 ++ [(⟨rd x9 x11, 1⟩ : S112)]) x9 x10 (wrap64 (x11 + 1))) else (none))) else (some ([] : List (S112))))) else (none)) else (none)) else (some x3)
def impl_RunsOf.f (k : Nat) (l0 : List Int) : Option ((List (S112))) := if (l0.length : Int) > 32 then (some ([] : List (S112))) else (impl_RunsOf.l0 k ([] : List (S112)) l0 (l0.length : Int) 0)
theorem impl_RunsOf.calls (k : Nat) (A0 : Option Addr) (c0 : Nat) (l0 : List Int) (r : List (S112)) (w : World) (hr0 : Kd.C (Kd.int .i64) w A0 l0.length l0) (hc0 : l0.length ≤ c0) (h : impl_RunsOf.f k l0 = some r) :
    Calls Try.prog 27 #[.slice A0 l0.length c0] w fun e w' => ∃ v0_ : Value, e = .returned (v0_) ∧ Kd.R k112 112 w' w.heap.size (fun _ => True) v0_ r ∧ Below w.heap.size w w' := by
  have hu112 := Try.underlying112
  have HR0 := Aside0.mk hr0
  have HC0 := Aside0.mk hc0
  clear hr0 hc0
  have HB := Aside0.mk (Below.refl w.heap.size w)
  have H : (if (l0.length : Int) > 32 then (some ([] : List (S112))) else (impl_RunsOf.l0 k ([] : List (S112)) l0 (l0.length : Int) 0)) = some r := h
  clear h
  by_cases c2 : (l0.length : Int) > 32
  · rw [if_pos c2] at H
    have c2b0 : decide (32 < (l0.length : Int)) = true := decide_eq_true c2
    have c2b1 : decide (32 < l0.length) = true := decide_eq_true (by omega)
    clear c2
    obtain rfl := Option.some.inj H
    go_enter Try.func27, Try.ntmps27
    go_wp2
    go_ret
    exact ⟨_, eS, by first | exact Kd.R_nil _ _ _ _ _ | exact Kd.N_nil _ _ _ _ _ | exact Kd.V_nil _ _ _ _ _ | exact Kd.Q_nil _ _ _ _ _ | exact Kd.S_nil _ _ _ _ _, bS⟩
  · rw [if_neg c2] at H
    have c2b0 : decide (32 < (l0.length : Int)) = false := decide_eq_false c2
    have c2b1 : decide (32 < l0.length) = false := decide_eq_false (by omega)
    clear c2
    have H' := Aside0.mk H
    clear H
    go_enter Try.func27, Try.ntmps27
    go_wp2
    go_loopg [3, 11] k (fun kq v3 v11 w' => ∃ (x3_1 : List (S112)) (x11_1 : Int), v11 = .int .i64 x11_1 ∧ Aside0 (impl_RunsOf.l0 kq x3_1 l0 (l0.length : Int) x11_1 = some r) ∧ Aside0 (kq ≤ k) ∧ Aside0 (Kd.R k112 112 w' w.heap.size (fun _ => True) v3 x3_1) ∧ Aside0 (Below w.heap.size w w'))
    case atStart => exact ⟨(([] : List (S112))), (0), (by first | rfl | (simp; done) | (simp [*]; done)), H', ⟨Nat.le_refl _⟩, ⟨by first | exact Kd.R_nil _ _ _ _ _ | exact Kd.N_nil _ _ _ _ _ | exact Kd.V_nil _ _ _ _ _ | exact Kd.Q_nil _ _ _ _ _ | exact Kd.S_nil _ _ _ _ _⟩, ⟨bS⟩⟩
    case round =>
      clear H'
      try clear c2
      try clear c2b0
      try clear c2b1
      try clear p2
      obtain ⟨x3_1, x11_1, rfl, HA, HK1, HO_3, HB⟩ := hrel
      cases gk with
      | zero => exact absurd HA.out (by simp [impl_RunsOf.l0])
      | succ k1 =>
        have H := HA.out
        clear HA
        simp only [impl_RunsOf.l0] at H
        by_cases c3 : x11_1 < (l0.length : Int)
        · rw [if_pos c3] at H
          have c3b0 : decide (x11_1 < (l0.length : Int)) = true := decide_eq_true c3
          clear c3
          by_cases c4 : 0 ≤ x11_1
          · rw [if_pos c4] at H
            have c4b0 : decide (0 ≤ x11_1) = true := decide_eq_true c4
            clear c4
            by_cases c5 : x11_1 < (l0.length : Int)
            · rw [if_pos c5] at H
              have c5b0 : decide (x11_1 < (l0.length : Int)) = true := decide_eq_true c5
              clear c5
              replace H := bN H
              obtain ⟨t172, A6, H⟩ := H
              by_cases c7 : t172 = true
              · subst c7
                rw [if_pos rfl] at H
                by_cases c8 : (x3_1.length : Int) > 0
                · rw [if_pos c8] at H
                  have c8b0 : decide (0 < (x3_1.length : Int)) = true := decide_eq_true c8
                  have c8b1 : decide (0 < x3_1.length) = true := decide_eq_true (by omega)
                  clear c8
                  obtain ⟨ji9, hji9⟩ : ∃ j_ : Int, (wrap64 ((x3_1.length : Int) - 1)) = j_ := ⟨_, rfl⟩
                  replace H : (if 0 ≤ (ji9) then (if (ji9) < (x3_1.length : Int) then (if ((rd_T112 x3_1 (ji9)).f0) = (rd l0 x11_1) then (impl_RunsOf.l0 k1 (x3_1.set ((ji9) : Int).toNat (⟨(rd_T112 x3_1 (ji9)).f0, wrap64 (((rd_T112 x3_1 (ji9)).f1) + 1)⟩ : S112)) l0 (l0.length : Int) (wrap64 (x11_1 + 1))) else (if x3_1.length < 8796093022208 then (impl_RunsOf.l0 k1 (x3_1 ++ [(⟨rd l0 x11_1, 1⟩ : S112)]) l0 (l0.length : Int) (wrap64 (x11_1 + 1))) else (none))) else (none)) else (none)) = some r := by first | (rw [hji9] at H; exact H) | (simp only [hji9] at H ⊢; exact H)
                  (try rw [hji9] at A6)
                  have hji9w : (IntKind.i64.wrap ((x3_1.length : Int) - 1)) = ji9 := (i64_w _).trans hji9
                  by_cases c10 : 0 ≤ (ji9)
                  · rw [if_pos c10] at H
                    have c10b0 : decide (0 ≤ (ji9)) = true := decide_eq_true c10
                    clear c10
                    by_cases c11 : (ji9) < (x3_1.length : Int)
                    · rw [if_pos c11] at H
                      have c11b0 : decide ((ji9) < (x3_1.length : Int)) = true := decide_eq_true c11
                      clear c11
                      by_cases c12 : ((rd_T112 x3_1 (ji9)).f0) = (rd l0 x11_1)
                      · rw [if_pos c12] at H
                        have c12b0 : (((rd_T112 x3_1 (ji9)).f0) == (rd l0 x11_1)) = true := beq_iff_eq.mpr c12
                        have c12b1 : (((rd_T112 x3_1 (ji9)).f0) != (rd l0 x11_1)) = false := bne_eq_false_iff_eq.mpr c12
                        clear c12
                        obtain ⟨y175, hy175⟩ : ∃ y_ : List (S112), y_ = (x3_1.set ((ji9) : Int).toNat (⟨(rd_T112 x3_1 (ji9)).f0, wrap64 (((rd_T112 x3_1 (ji9)).f1) + 1)⟩ : S112)) := ⟨_, rfl⟩
                        replace H : (impl_RunsOf.l0 k1 y175 l0 (l0.length : Int) (wrap64 (x11_1 + 1))) = some r := by first | (rw [hy175]; with_reducible exact H) | (have H2_ := (Option.bind_some _ _).symm.trans H; rw [hy175]; with_reducible exact H2_) | (have H2_ := (Option.bind_some _ _).symm.trans H; with_reducible exact H2_) | with_reducible exact H | (rw [hy175]; exact H) | exact H
                        have Ny175 := Aside0.mk hy175
                        clear hy175
                        have H' := Aside0.mk H
                        clear H
                        have p171 : 0 ≤ (x11_1 : Int) := of_decide_eq_true (by first | (with_reducible assumption) | assumption)
                        have q171 : x11_1 < (l0.length : Int) := of_decide_eq_true (by first | (with_reducible assumption) | assumption)
                        obtain ⟨ad171, e171, hx171_0⟩ := Kd.at_int HR0.out x11_1 p171 q171
                        cases e171
                        replace hx171_0 := (HB.out.cell (World.block_lt_of_cell? w _ hx171_0)).trans hx171_0
                        replace p171 := eq_true p171
                        replace q171 := eq_true q171
                        go_wp2_with (first | ((with_reducible refine gC 96 ?_); refine cL (some 16) Try.func96 #[.int .i64 (rd l0 x11_1), .int .i64 0, .int .i64 255] ?_; (with_reducible refine (impl_within.calls (rd l0 x11_1) 0 255 _ _ A6.out).mono ?_); rintro e w' ⟨rfl, ⟨nd, rfl⟩⟩; refine ⟨_, rfl, ?_⟩; (try (rw [drewN_self wr]; generalize hq_ : World.drewN wr _ = wr; replace HO_3 : Aside0 (Kd.R k112 112 wr w.heap.size (fun _ => True) u3 x3_1) := ⟨by rw [← hq_]; exact (rS HO_3)⟩; replace HB : Aside0 (Below w.heap.size w wr) := ⟨by rw [← hq_]; exact bS⟩; clear hq_)); obtain ⟨Ao14, co14, eo14⟩ := Kd.R_slice HO_3.out; subst eo14; have p173 : 0 ≤ ((ji9) : Int) := of_decide_eq_true (by first | (with_reducible assumption) | assumption); have q173 : (ji9) < (x3_1.length : Int) := of_decide_eq_true (by first | (with_reducible assumption) | assumption); obtain ⟨ad173, e173, hx173_0, hx173_1⟩ := at_T112 (Kd.R_reads' HO_3.out).2.2 (ji9) p173 q173; cases e173; replace p173 := eq_true p173; replace q173 := eq_true q173; have p174 : 0 ≤ ((ji9) : Int) := of_decide_eq_true (by first | (with_reducible assumption) | assumption); have q174 : (ji9) < (x3_1.length : Int) := of_decide_eq_true (by first | (with_reducible assumption) | assumption); obtain ⟨ad174, e174, hx174_0, hx174_1⟩ := at_T112 (Kd.R_reads' HO_3.out).2.2 (ji9) p174 q174; obtain rfl : ad173 = ad174 := (by injection e174); replace p174 := eq_true p174; replace q174 := eq_true q174; have p13 : 0 ≤ ((ji9) : Int) := of_decide_eq_true (by first | (with_reducible assumption) | assumption); have q13 : ((ji9) : Int) < ((x3_1.length : Int) : Int) := of_decide_eq_true (by first | (with_reducible assumption) | assumption); obtain ⟨go13, co13, eo13, gb13, gl13, cl13, HG13⟩ := Kd.R_form HO_3.out (by omega); (first | cases eo13 | (injection eo13 with ea_ en_ ec_; (first | subst ea_ | (injection ea_ with ea_; subst ea_)); subst ec_; clear en_)); have GB13 := Aside0.mk gb13; have GG13 := Aside0.mk HG13; clear gb13 gl13 HG13; (first | simp only [add_plain] at hx173_0 | skip); (first | simp only [add_plain] at hx173_1 | skip); (first | simp only [add_plain] at hx174_0 | skip); (first | simp only [add_plain] at hx174_1 | skip); obtain ⟨ce13, hcl13, hM13, hcc13, hfr13⟩ := Kd.R_elem HO_3.out z112 ((ji9) : Int) p13 q13; obtain rfl := k112_openM hM13; have hx13_0 : wr.cell? ⟨go13, ((ji9) : Int).toNat * 2, none⟩ = some (.int .i64 ((rd_T112 x3_1 (ji9)).f0)) := hcc13 0 _ rfl; have hx13_1 : wr.cell? ⟨go13, ((ji9) : Int).toNat * 2 + 1, none⟩ = some (.int .i64 ((rd_T112 x3_1 (ji9)).f1)) := hcc13 1 _ rfl; have hf13_0 : wr.frozen? ⟨go13, ((ji9) : Int).toNat * 2, none⟩ = false := hfr13 0; have hf13_1 : wr.frozen? ⟨go13, ((ji9) : Int).toNat * 2 + 1, none⟩ = false := hfr13 1; (try clear hM13); clear hcl13 hcc13 hfr13; replace p13 := eq_true p13; replace q13 := eq_true q13; have HX15 := Aside0.mk (show Kd.R k112 112 wr w.heap.size (fun _ => True) (.slice (some ⟨go13, 0, none⟩) x3_1.length co14) x3_1 from (rS HO_3)); obtain ⟨ce15, hcl15, hM15, hcc15, hfr15⟩ := Kd.R_elem HX15.out z112 ((ji9) : Int) (of_decide_eq_true (by first | (with_reducible assumption) | assumption)) (by have h_ : ((ji9) : Int) < ((x3_1.length : Int) : Int) := of_decide_eq_true (by first | (with_reducible assumption) | assumption); first | exact h_ | (have e_ := (Kd.R_reads' HO_3.out).1; omega) | simpa using h_); obtain rfl := k112_openM hM15; have HP15 := Kd.R_seg HX15.out ((ji9) : Int) (of_decide_eq_true (by first | (with_reducible assumption) | assumption)) (by have h_ : ((ji9) : Int) < ((x3_1.length : Int) : Int) := of_decide_eq_true (by first | (with_reducible assumption) | assumption); first | exact h_ | (have e_ := (Kd.R_reads' HO_3.out).1; omega) | simpa using h_) (seg := [.int .i64 (wrap64 (((rd_T112 x3_1 (ji9)).f1) + 1))]) (j := 1) hcl15 hcc15 (show 2 ≤ 2 from by decide) (x' := (⟨(rd_T112 x3_1 (ji9)).f0, wrap64 (((rd_T112 x3_1 (ji9)).f1) + 1)⟩ : S112)) (k112_mkM _ _ _ (⟨(rd_T112 x3_1 (ji9)).f0, wrap64 (((rd_T112 x3_1 (ji9)).f1) + 1)⟩ : S112) ) (fun _ hk => hk); have hx15_1 := hcc15 1 _ rfl; (try simp only [show (k112).sz = 2 from rfl, Nat.mul_one, Nat.add_zero] at hx15_1); have hf15_1 := hfr15 1; (try simp only [show (k112).sz = 2 from rfl, Nat.mul_one, Nat.add_zero] at hf15_1); (try clear hM15); clear hcl15 hcc15 hfr15) | ((with_reducible refine gate_store (t := 3) (p := 41) rfl ?_); refine store_event (t := 3) (p := 41) (v := ?vo_w16) (w1 := (wr.setCell ⟨go13, ((ji9) : Int).toNat * 2 + 1, none⟩ (.int .i64 (wrap64 (((rd_T112 x3_1 (ji9)).f1) + 1))))) ?hg ?ho ?hn ?hr ?_; (case ho => rfl); (case hg => rfl); (case hn => rfl); (case hr => first | (go_simp; done) | (go_simp; rfl)); intro w16 hw; have hg : wr.grownBy w16 (some go13) := (by rw [hw]; exact HP15.2); have hp_ : Kd.R k112 112 w16 w.heap.size (fun _ => True) (.slice (some ⟨go13, 0, none⟩) x3_1.length co14) y175 := (by rw [hw, Ny175.out]; exact HP15.1); clear HP15; replace HO_3 := Aside0.mk (hp_); replace HB := Aside0.mk ((by rw [hw]; exact below_set (HB.out) GB13.out : Below w.heap.size w w16)); clear hg hw hp_))
                        go_roundg k1
                        case measure => have := HK1.out; omega
                        case rel => exact ⟨(y175), (wrap64 (x11_1 + 1)), (by first | rfl | (simp; done) | (simp [*]; done)), H', ⟨by have := HK1.out; omega⟩, ⟨by (with_reducible repeat (first | apply Kd.R_alloc | apply Kd.R_drewN | apply Kd.R_drew)); exact HO_3.out⟩, ⟨bS⟩⟩
                      · rw [if_neg c12] at H
                        have c12b0 : (((rd_T112 x3_1 (ji9)).f0) == (rd l0 x11_1)) = false := beq_eq_false_iff_ne.mpr c12
                        have c12b1 : (((rd_T112 x3_1 (ji9)).f0) != (rd l0 x11_1)) = true := bne_iff_ne.mpr c12
                        by_cases c17 : x3_1.length < 8796093022208
                        · rw [if_pos c17] at H
                          have LMc17 := Aside0.mk c17
                          clear c17
                          obtain ⟨y176, hy176⟩ : ∃ y_ : List (S112), y_ = (x3_1 ++ [(⟨rd l0 x11_1, 1⟩ : S112)]) := ⟨_, rfl⟩
                          replace H : (impl_RunsOf.l0 k1 y176 l0 (l0.length : Int) (wrap64 (x11_1 + 1))) = some r := by first | (rw [hy176]; with_reducible exact H) | (have H2_ := (Option.bind_some _ _).symm.trans H; rw [hy176]; with_reducible exact H2_) | (have H2_ := (Option.bind_some _ _).symm.trans H; with_reducible exact H2_) | with_reducible exact H | (rw [hy176]; exact H) | exact H
                          have Ny176 := Aside0.mk hy176
                          clear hy176
                          have H' := Aside0.mk H
                          clear H
                          have p171 : 0 ≤ (x11_1 : Int) := of_decide_eq_true (by first | (with_reducible assumption) | assumption)
                          have q171 : x11_1 < (l0.length : Int) := of_decide_eq_true (by first | (with_reducible assumption) | assumption)
                          obtain ⟨ad171, e171, hx171_0⟩ := Kd.at_int HR0.out x11_1 p171 q171
                          cases e171
                          replace hx171_0 := (HB.out.cell (World.block_lt_of_cell? w _ hx171_0)).trans hx171_0
                          replace p171 := eq_true p171
                          replace q171 := eq_true q171
                          go_wp2_with (first | ((with_reducible refine gC 96 ?_); refine cL (some 16) Try.func96 #[.int .i64 (rd l0 x11_1), .int .i64 0, .int .i64 255] ?_; (with_reducible refine (impl_within.calls (rd l0 x11_1) 0 255 _ _ A6.out).mono ?_); rintro e w' ⟨rfl, ⟨nd, rfl⟩⟩; refine ⟨_, rfl, ?_⟩; obtain ⟨Ao18, co18, eo18⟩ := Kd.R_slice HO_3.out; subst eo18; have p173 : 0 ≤ ((ji9) : Int) := of_decide_eq_true (by first | (with_reducible assumption) | assumption); have q173 : (ji9) < (x3_1.length : Int) := of_decide_eq_true (by first | (with_reducible assumption) | assumption); obtain ⟨ad173, e173, hx173_0, hx173_1⟩ := at_T112 (Kd.R_reads' HO_3.out).2.2 (ji9) p173 q173; cases e173; replace p173 := eq_true p173; replace q173 := eq_true q173) | ((with_reducible refine gate_builtin (b := .append) (xs := #[.tmp 42, .tmp 45]) rfl ?_); at_builtin; refine Kd.R_append k112 (w0 := w) w.heap.size rfl (.tmp 42) (.tmp 45) 26 112 (.agg #[(.int .i64 0), (.int .i64 0)]) 16 rfl Try.underlying26 info112 rfl (by decide) (by omega) (.slice (some ad173) x3_1.length co18) x3_1 (⟨rd l0 x11_1, 1⟩ : S112) [.int .i64 (rd l0 x11_1), .int .i64 1] (fun _ => True) (fun _ => False) rfl rfl ?aP (fun _ hk => hk.elim) ?aF ?aO ?aB ?aS ?aL ?_; (case aP => exact k112_mkM _ _ _ (⟨rd l0 x11_1, 1⟩ : S112)); (case aB => exact bS); (case aF => exact (fun _ _ => trivial)); (case aO => exact (rS HO_3)); (case aS => exact (below_size bS)); (case aL => have := LMc17.out; omega); intro v177 w19 ho hb hg hat; rw [← Ny176.out] at ho; have HO178 := Aside0.mk (ho); replace HB := Aside0.mk (hb); clear HO_3; clear ho hb hg hat))
                          go_roundg k1
                          case measure => have := HK1.out; omega
                          case rel => exact ⟨(y176), (wrap64 (x11_1 + 1)), (by first | rfl | (simp; done) | (simp [*]; done)), H', ⟨by have := HK1.out; omega⟩, ⟨by (with_reducible repeat (first | apply Kd.R_alloc | apply Kd.R_drewN | apply Kd.R_drew)); exact HO178.out⟩, ⟨bS⟩⟩
                        · rw [if_neg c17] at H
                          exact absurd H (by simp)
                    · rw [if_neg c11] at H
                      exact absurd H (by simp)
                  · rw [if_neg c10] at H
                    exact absurd H (by simp)
                · rw [if_neg c8] at H
                  have c8b0 : decide (0 < (x3_1.length : Int)) = false := decide_eq_false c8
                  have c8b1 : decide (0 < x3_1.length) = false := decide_eq_false (by omega)
                  clear c8
                  by_cases c20 : x3_1.length < 8796093022208
                  · rw [if_pos c20] at H
                    have LMc20 := Aside0.mk c20
                    clear c20
                    obtain ⟨y179, hy179⟩ : ∃ y_ : List (S112), y_ = (x3_1 ++ [(⟨rd l0 x11_1, 1⟩ : S112)]) := ⟨_, rfl⟩
                    replace H : (impl_RunsOf.l0 k1 y179 l0 (l0.length : Int) (wrap64 (x11_1 + 1))) = some r := by first | (rw [hy179]; with_reducible exact H) | (have H2_ := (Option.bind_some _ _).symm.trans H; rw [hy179]; with_reducible exact H2_) | (have H2_ := (Option.bind_some _ _).symm.trans H; with_reducible exact H2_) | with_reducible exact H | (rw [hy179]; exact H) | exact H
                    have Ny179 := Aside0.mk hy179
                    clear hy179
                    have H' := Aside0.mk H
                    clear H
                    have p171 : 0 ≤ (x11_1 : Int) := of_decide_eq_true (by first | (with_reducible assumption) | assumption)
                    have q171 : x11_1 < (l0.length : Int) := of_decide_eq_true (by first | (with_reducible assumption) | assumption)
                    obtain ⟨ad171, e171, hx171_0⟩ := Kd.at_int HR0.out x11_1 p171 q171
                    cases e171
                    replace hx171_0 := (HB.out.cell (World.block_lt_of_cell? w _ hx171_0)).trans hx171_0
                    replace p171 := eq_true p171
                    replace q171 := eq_true q171
                    go_wp2_with (first | ((with_reducible refine gC 96 ?_); refine cL (some 16) Try.func96 #[.int .i64 (rd l0 x11_1), .int .i64 0, .int .i64 255] ?_; (with_reducible refine (impl_within.calls (rd l0 x11_1) 0 255 _ _ A6.out).mono ?_); rintro e w' ⟨rfl, ⟨nd, rfl⟩⟩; refine ⟨_, rfl, ?_⟩; obtain ⟨Ao21, co21, eo21⟩ := Kd.R_slice HO_3.out; subst eo21) | ((with_reducible refine gate_builtin (b := .append) (xs := #[.tmp 42, .tmp 45]) rfl ?_); at_builtin; refine Kd.R_append k112 (w0 := w) w.heap.size rfl (.tmp 42) (.tmp 45) 26 112 (.agg #[(.int .i64 0), (.int .i64 0)]) 16 rfl Try.underlying26 info112 rfl (by decide) (by omega) (.slice Ao21 x3_1.length co21) x3_1 (⟨rd l0 x11_1, 1⟩ : S112) [.int .i64 (rd l0 x11_1), .int .i64 1] (fun _ => True) (fun _ => False) rfl rfl ?aP (fun _ hk => hk.elim) ?aF ?aO ?aB ?aS ?aL ?_; (case aP => exact k112_mkM _ _ _ (⟨rd l0 x11_1, 1⟩ : S112)); (case aB => exact bS); (case aF => exact (fun _ _ => trivial)); (case aO => exact (rS HO_3)); (case aS => exact (below_size bS)); (case aL => have := LMc20.out; omega); intro v180 w22 ho hb hg hat; rw [← Ny179.out] at ho; have HO181 := Aside0.mk (ho); replace HB := Aside0.mk (hb); clear HO_3; clear ho hb hg hat))
                    go_roundg k1
                    case measure => have := HK1.out; omega
                    case rel => exact ⟨(y179), (wrap64 (x11_1 + 1)), (by first | rfl | (simp; done) | (simp [*]; done)), H', ⟨by have := HK1.out; omega⟩, ⟨by (with_reducible repeat (first | apply Kd.R_alloc | apply Kd.R_drewN | apply Kd.R_drew)); exact HO181.out⟩, ⟨bS⟩⟩
                  · rw [if_neg c20] at H
                    exact absurd H (by simp)
              · obtain rfl := Bool.eq_false_iff.mpr c7
                rw [if_neg nF] at H
                obtain rfl := Option.some.inj H
                have p171 : 0 ≤ (x11_1 : Int) := of_decide_eq_true (by first | (with_reducible assumption) | assumption)
                have q171 : x11_1 < (l0.length : Int) := of_decide_eq_true (by first | (with_reducible assumption) | assumption)
                obtain ⟨ad171, e171, hx171_0⟩ := Kd.at_int HR0.out x11_1 p171 q171
                cases e171
                replace hx171_0 := (HB.out.cell (World.block_lt_of_cell? w _ hx171_0)).trans hx171_0
                replace p171 := eq_true p171
                replace q171 := eq_true q171
                go_wp2_with (first | ((with_reducible refine gC 96 ?_); refine cL (some 16) Try.func96 #[.int .i64 (rd l0 x11_1), .int .i64 0, .int .i64 255] ?_; (with_reducible refine (impl_within.calls (rd l0 x11_1) 0 255 _ _ A6.out).mono ?_); rintro e w' ⟨rfl, ⟨nd, rfl⟩⟩; refine ⟨_, rfl, ?_⟩))
                go_ret
                exact ⟨_, eS, by first | exact Kd.R_nil _ _ _ _ _ | exact Kd.N_nil _ _ _ _ _ | exact Kd.V_nil _ _ _ _ _ | exact Kd.Q_nil _ _ _ _ _ | exact Kd.S_nil _ _ _ _ _, bS⟩
            · rw [if_neg c5] at H
              exact absurd H (by simp)
          · rw [if_neg c4] at H
            exact absurd H (by simp)
        · rw [if_neg c3] at H
          have c3b0 : decide (x11_1 < (l0.length : Int)) = false := decide_eq_false c3
          clear c3
          obtain rfl := Option.some.inj H
          go_wp2
          go_ret
          exact ⟨_, eS, by (with_reducible repeat (first | apply Kd.R_alloc | apply Kd.R_drewN | apply Kd.R_drew)); exact HO_3.out, bS⟩

/-! ### impl_rowOk: function 99 -/
def impl_rowOk.l0 : Nat → List Int → Int → Int → Option (Bool)
  | 0, _, _, _ => none
  | k + 1, x8, x9, x10 => if x10 < x9 then (if 0 ≤ x10 then (if x10 < (x8.length : Int) then ((impl_within.f (rd x8 x10) 0 255).bind fun t183 => (if t183 = true then (impl_rowOk.l0 k x8 x9 (wrap64 (x10 + 1))) else (some false))) else (none)) else (none)) else (some true)
def impl_rowOk.f (k : Nat) (l0 : List Int) : Option (Bool) := if (l0.length : Int) = 32 then (impl_rowOk.l0 k l0 (l0.length : Int) 0) else (some false)
theorem impl_rowOk.calls (k : Nat) (A0 : Option Addr) (c0 : Nat) (l0 : List Int) (r : Bool) (w : World) (hr0 : Kd.C (Kd.int .i64) w A0 l0.length l0) (hc0 : l0.length ≤ c0) (h : impl_rowOk.f k l0 = some r) :
    Calls Try.prog 99 #[.slice A0 l0.length c0] w fun e w' => e = .returned (.bool r) ∧ Drawn0 w w' := by
  have HR0 := Aside0.mk hr0
  have HC0 := Aside0.mk hc0
  clear hr0 hc0
  have H : (if (l0.length : Int) = 32 then (impl_rowOk.l0 k l0 (l0.length : Int) 0) else (some false)) = some r := h
  clear h
  by_cases c2 : (l0.length : Int) = 32
  · rw [if_pos c2] at H
    have c2b0 : ((l0.length : Int) == 32) = true := beq_iff_eq.mpr c2
    have c2b1 : ((l0.length : Int) != 32) = false := bne_eq_false_iff_eq.mpr c2
    clear c2
    have H' := Aside0.mk H
    clear H
    go_enter Try.func99, Try.ntmps99
    go_wp2
    go_loopg [10] k (fun kq v10 w' => ∃ (x10_1 : Int), v10 = .int .i64 x10_1 ∧ Aside0 (impl_rowOk.l0 kq l0 (l0.length : Int) x10_1 = some r) ∧ Aside0 (kq ≤ k) ∧ Drawn0 w w')
    case atStart => exact ⟨(0), (by first | rfl | (simp; done) | (simp [*]; done)), H', ⟨Nat.le_refl _⟩, by repeat (first | exact Drawn0.refl _ | apply Drawn0.step)⟩
    case round =>
      clear H'
      try clear c2
      try clear c2b0
      try clear c2b1
      try clear p2
      obtain ⟨x10_1, rfl, HA, HK1, ⟨m1, rfl⟩⟩ := hrel
      cases gk with
      | zero => exact absurd HA.out (by simp [impl_rowOk.l0])
      | succ k1 =>
        have H := HA.out
        clear HA
        simp only [impl_rowOk.l0] at H
        by_cases c3 : x10_1 < (l0.length : Int)
        · rw [if_pos c3] at H
          have c3b0 : decide (x10_1 < (l0.length : Int)) = true := decide_eq_true c3
          clear c3
          by_cases c4 : 0 ≤ x10_1
          · rw [if_pos c4] at H
            have c4b0 : decide (0 ≤ x10_1) = true := decide_eq_true c4
            clear c4
            by_cases c5 : x10_1 < (l0.length : Int)
            · rw [if_pos c5] at H
              have c5b0 : decide (x10_1 < (l0.length : Int)) = true := decide_eq_true c5
              clear c5
              replace H := bN H
              obtain ⟨t183, A6, H⟩ := H
              by_cases c7 : t183 = true
              · subst c7
                rw [if_pos rfl] at H
                have H' := Aside0.mk H
                clear H
                have p182 : 0 ≤ (x10_1 : Int) := of_decide_eq_true (by first | (with_reducible assumption) | assumption)
                have q182 : x10_1 < (l0.length : Int) := of_decide_eq_true (by first | (with_reducible assumption) | assumption)
                obtain ⟨ad182, e182, hx182_0⟩ := Kd.at_int HR0.out x10_1 p182 q182
                cases e182
                replace p182 := eq_true p182
                replace q182 := eq_true q182
                go_wp2_with (first | ((with_reducible refine gC 96 ?_); refine cL (some 15) Try.func96 #[.int .i64 (rd l0 x10_1), .int .i64 0, .int .i64 255] ?_; (with_reducible refine (impl_within.calls (rd l0 x10_1) 0 255 _ _ A6.out).mono ?_); rintro e w' ⟨rfl, ⟨nd, rfl⟩⟩; refine ⟨_, rfl, ?_⟩))
                go_roundg k1
                case measure => have := HK1.out; omega
                case rel => exact ⟨(wrap64 (x10_1 + 1)), (by first | rfl | (simp; done) | (simp [*]; done)), H', ⟨by have := HK1.out; omega⟩, by repeat (first | exact Drawn0.refl _ | apply Drawn0.step)⟩
              · obtain rfl := Bool.eq_false_iff.mpr c7
                rw [if_neg nF] at H
                obtain rfl := Option.some.inj H
                have p182 : 0 ≤ (x10_1 : Int) := of_decide_eq_true (by first | (with_reducible assumption) | assumption)
                have q182 : x10_1 < (l0.length : Int) := of_decide_eq_true (by first | (with_reducible assumption) | assumption)
                obtain ⟨ad182, e182, hx182_0⟩ := Kd.at_int HR0.out x10_1 p182 q182
                cases e182
                replace p182 := eq_true p182
                replace q182 := eq_true q182
                go_wp2_with (first | ((with_reducible refine gC 96 ?_); refine cL (some 15) Try.func96 #[.int .i64 (rd l0 x10_1), .int .i64 0, .int .i64 255] ?_; (with_reducible refine (impl_within.calls (rd l0 x10_1) 0 255 _ _ A6.out).mono ?_); rintro e w' ⟨rfl, ⟨nd, rfl⟩⟩; refine ⟨_, rfl, ?_⟩))
                go_ret
                exact ⟨by first | rfl | (simp; done) | (simp [*]; done), by repeat (first | exact Drawn0.refl _ | apply Drawn0.step)⟩
            · rw [if_neg c5] at H
              exact absurd H (by simp)
          · rw [if_neg c4] at H
            exact absurd H (by simp)
        · rw [if_neg c3] at H
          have c3b0 : decide (x10_1 < (l0.length : Int)) = false := decide_eq_false c3
          clear c3
          obtain rfl := Option.some.inj H
          go_wp2
          go_ret
          exact ⟨by first | rfl | (simp; done) | (simp [*]; done), by repeat (first | exact Drawn0.refl _ | apply Drawn0.step)⟩
  · rw [if_neg c2] at H
    have c2b0 : ((l0.length : Int) == 32) = false := beq_eq_false_iff_ne.mpr c2
    have c2b1 : ((l0.length : Int) != 32) = true := bne_iff_ne.mpr c2
    obtain rfl := Option.some.inj H
    go_enter Try.func99, Try.ntmps99
    go_wp2
    go_ret
    exact ⟨by first | rfl | (simp; done) | (simp [*]; done), by repeat (first | exact Drawn0.refl _ | apply Drawn0.step)⟩

/-! ### slices_Clone_int_int: function 100 -/
def slices_Clone_int_int.f (l0 : List Int) : Option (List Int) := (some (([] : List Int) : List Int)).bind fun y184 => (if y184.length + l0.length < 17592186044416 then (some (y184 ++ l0)) else (none))
theorem slices_Clone_int_int.calls (A0 : Option Addr) (c0 : Nat) (l0 : List Int) (r : List Int) (w : World) (hr0 : Kd.C (Kd.int .i64) w A0 l0.length l0) (hc0 : l0.length ≤ c0) (h : slices_Clone_int_int.f l0 = some r) :
    Calls Try.prog 100 #[.slice A0 l0.length c0] w fun e w' => ∃ v0_ : Value, e = .returned (v0_) ∧ Kd.R (Kd.int .i64) 3 w' w.heap.size (fun _ => True) v0_ r ∧ Below w.heap.size w w' := by
  obtain _ | A0 := A0
  · have hl0 : l0 = [] := by
      rcases Nat.eq_zero_or_pos l0.length with h0 | h0
      · exact List.eq_nil_of_length_eq_zero h0
      · obtain ⟨ad, e, _⟩ := hr0.2.2 h0
        cases e
    subst hl0
    have hr_ : r = [] := by
      have h_ := h
      simp [slices_Clone_int_int.f] at h_
      first | exact h_ | exact h_.symm
    subst hr_
    have he_ : ∀ w : World, (binOp .eql 24 (.slice none 0 c0) (.slice none 0 0)).run Try.prog w = .ok (.bool true) w := fun _ => rfl
    go_enter Try.func100, Try.ntmps100
    go_wp2
    go_ret
    exact ⟨_, rfl, Kd.R_nil _ _ _ _ _, Below.refl _ _⟩
  have he_ : ∀ w : World, (binOp .eql 24 (.slice (some A0) l0.length c0) (.slice none 0 0)).run Try.prog w = .ok (.bool false) w := fun _ => rfl
  have HR0 := Aside0.mk hr0
  have HC0 := Aside0.mk hc0
  clear hr0 hc0
  have HB := Aside0.mk (Below.refl w.heap.size w)
  have H : ((some (([] : List Int) : List Int)).bind fun y184 => (if y184.length + l0.length < 17592186044416 then (some (y184 ++ l0)) else (none))) = some r := h
  clear h
  obtain ⟨y184, hy184⟩ : ∃ y_ : List Int, y_ = (([] : List Int)) := ⟨_, rfl⟩
  replace H : (if y184.length + l0.length < 17592186044416 then (some (y184 ++ l0)) else (none)) = some r := by first | (rw [hy184]; with_reducible exact H) | (have H2_ := (Option.bind_some _ _).symm.trans H; rw [hy184]; with_reducible exact H2_) | (have H2_ := (Option.bind_some _ _).symm.trans H; with_reducible exact H2_) | with_reducible exact H | (rw [hy184]; exact H) | exact H
  have Ny184 := Aside0.mk hy184
  clear hy184
  by_cases c2 : y184.length + l0.length < 17592186044416
  · rw [if_pos c2] at H
    have LMc2 := Aside0.mk c2
    clear c2
    obtain ⟨y187, hy187⟩ : ∃ y_ : List Int, y_ = (y184 ++ l0) := ⟨_, rfl⟩
    replace H : (some y187) = some r := by first | (rw [hy187]; with_reducible exact H) | (have H2_ := (Option.bind_some _ _).symm.trans H; rw [hy187]; with_reducible exact H2_) | (have H2_ := (Option.bind_some _ _).symm.trans H; with_reducible exact H2_) | with_reducible exact H | (rw [hy187]; exact H) | exact H
    have Ny187 := Aside0.mk hy187
    clear hy187
    obtain rfl := Option.some.inj H
    go_enter Try.func100, Try.ntmps100
    go_wp2_with (first | ((with_reducible refine gate_dst (N := 5) rfl ?_); refine Kd.R_lit (Kd.int .i64) _ 3 ?hg (N := 5) ?hd (xs := ([] : List Int)) (inner := []) (ok := fun _ => True) (okp := fun _ => True) ?hr ?hp (fun _ hk => hk) trivial (Below.refl _ _) (Nat.le_refl _) (by simp) ?_; (case hd => rfl); (case hg => rfl); (case hr => first | (go_simp; done) | (go_simp; rfl)); (case hp => exact (Reps.none _ _)); intro v185 w3 ho4 hb hg_ hnew_; clear hg_ hnew_; (first | rw [← Ny184.out] at ho4 | (simp only [Int.reduceToNat] at ho4; rw [← Ny184.out] at ho4)); have HO186 := Aside0.mk (Kd.R_lower ho4 (below_size bS)); replace HB := hB hb; clear hb ho4) | ((with_reducible refine gate_builtin (b := .append) (xs := #[.tmp 5, .tmp 6]) rfl ?_); at_builtin; refine Kd.R_append_rows (Kd.int .i64) (w0 := w) w.heap.size rfl (.tmp 5) (.tmp 6) 24 3 (.int .i64 0) 8 rfl Try.underlying24 info3 rfl (by decide) (by omega) v185 y184 l0 _ _ _ (fun _ => True) (fun _ => False) rfl rfl ?aO ?aR (fun _ _ h => h) (fun _ h => h.elim) ?aF ?aB ?aS ?aL ?_; (case aR => exact cS (Kd.C_below HR0.out HB.out)); (case aB => exact bS); (case aF => exact (fun _ _ => trivial)); (case aO => exact (rS HO186)); (case aS => exact (below_size bS)); (case aL => have := LMc2.out; omega); intro v188 w5 ho hb hg hat; rw [← Ny187.out] at ho; have HO189 := Aside0.mk (ho); replace HB := Aside0.mk (hb); clear HO186; clear ho hb hg hat))
    go_ret
    exact ⟨_, eS, by (with_reducible repeat (first | apply Kd.R_alloc | apply Kd.R_drewN | apply Kd.R_drew)); exact HO189.out, bS⟩
  · rw [if_neg c2] at H
    exact absurd H (by simp)

/-! ### impl_PackRow: function 34 -/
def impl_PackRow.l0 : Nat → List Int → List Int → List (S112) → Int → Int → Option (Bool × List Int)
  | 0, _, _, _, _, _ => none
  | k + 1, x0, x3, x11, x12, x13 => if x13 < x12 then (if 0 ≤ x13 then (if x13 < (x11.length : Int) then ((some (([(rd_T112 x11 x13).f0, (rd_T112 x11 x13).f1] : List Int) : List Int)).bind fun y197 => (if x3.length + y197.length < 17592186044416 then (impl_PackRow.l0 k x0 (x3 ++ y197) x11 x12 (wrap64 (x13 + 1))) else (none))) else (none)) else (none)) else (if (x3.length : Int) < 32 then (some (false, x3)) else ((slices_Clone_int_int.f x0).bind fun t203 => (some (true, t203))))
def impl_PackRow.f (k : Nat) (l0 : List Int) : Option (Bool × List Int) := (impl_rowOk.f k l0).bind fun t191 => (if t191 = true then ((impl_RunsOf.f k l0).bind fun t192 => (impl_PackRow.l0 k l0 ([] : List Int) t192 (t192.length : Int) 0)) else (some (false, ([] : List Int))))
theorem impl_PackRow.calls (k : Nat) (A0 : Option Addr) (c0 : Nat) (l0 : List Int) (r1 : Bool) (r2 : List Int) (w : World) (hr0 : Kd.C (Kd.int .i64) w A0 l0.length l0) (hc0 : l0.length ≤ c0) (h : impl_PackRow.f k l0 = some (r1, r2)) :
    Calls Try.prog 34 #[.slice A0 l0.length c0] w fun e w' => ∃ v1_ : Value, e = .returned (.agg #[.bool r1, v1_]) ∧ Kd.R (Kd.int .i64) 3 w' w.heap.size (fun _ => True) v1_ r2 ∧ Below w.heap.size w w' := by
  have hu40 := Try.underlying40
  have hu112 := Try.underlying112
  have HR0 := Aside0.mk hr0
  have HC0 := Aside0.mk hc0
  clear hr0 hc0
  have HB := Aside0.mk (Below.refl w.heap.size w)
  have H : ((impl_rowOk.f k l0).bind fun t191 => (if t191 = true then ((impl_RunsOf.f k l0).bind fun t192 => (impl_PackRow.l0 k l0 ([] : List Int) t192 (t192.length : Int) 0)) else (some (false, ([] : List Int))))) = some (r1, r2) := h
  clear h
  replace H := bN H
  obtain ⟨t191, A2, H⟩ := H
  by_cases c3 : t191 = true
  · subst c3
    rw [if_pos rfl] at H
    replace H := bN H
    obtain ⟨t192, A4, H⟩ := H
    have H' := Aside0.mk H
    clear H
    go_enter Try.func34, Try.ntmps34
    go_wp2_with (first | ((with_reducible refine gD 2 ?_); refine bxE #[.bool false, .slice none 0 0] 40 ?_; intro gb190 hg w5 BK190 hb; have GW190 := gE hg; have GE190 := gE hg; replace HB := hB hb; clear hb hg) | ((with_reducible refine gC 99 ?_); refine cL (some 7) Try.func99 #[.slice A0 l0.length c0] ?_; (with_reducible refine (impl_rowOk.calls k _ _ l0 _ _ ?side1 ?side2 A2.out).mono ?_); (case side1 => exact cS (Kd.C_below HR0.out HB.out)); (case side2 => exact HC0.out); rintro e w' ⟨rfl, ⟨nd, rfl⟩⟩; refine ⟨_, rfl, ?_⟩) | ((with_reducible refine gC 27 ?_); refine cL (some 11) Try.func27 #[.slice A0 l0.length c0] ?_; (with_reducible refine (impl_RunsOf.calls k _ _ l0 t192 _ ?side1 ?side2 A4.out).mono ?_); (case side1 => exact cS (Kd.C_below HR0.out bS)); (case side2 => exact HC0.out); rintro e w6 ⟨v193, rfl, ho0, hb⟩; refine ⟨_, rfl, ?_⟩; have HO194 := Aside0.mk (Kd.R_lower ho0 (below_size bS)); replace BK190 := kB (g := gb190) hb; replace HB := hB hb; (try clear hb); (try clear hb2); (try clear hk); (try clear hi); (try clear ho0); obtain ⟨Ao7, co7, eo7⟩ := Kd.R_slice HO194.out; subst eo7))
    go_loopg [3, 13] k (fun kq v3 v13 w' => ∃ (x3_1 : List Int) (x13_1 : Int), v13 = .int .i64 x13_1 ∧ Aside0 (impl_PackRow.l0 kq l0 x3_1 t192 (t192.length : Int) x13_1 = some (r1, r2)) ∧ Aside0 (kq ≤ k) ∧ Aside0 (Kd.R (Kd.int .i64) 3 w' w.heap.size (fun _ => True) v3 x3_1) ∧ Aside0 (Kd.R k112 112 w' w.heap.size (fun _ => True) (.slice Ao7 t192.length co7) t192) ∧ Aside0 (w'.heap[gb190]? = some (.cells #[.bool false, (.slice none 0 0)] 40 (0, 0))) ∧ Aside0 (Below w.heap.size w w'))
    case atStart => exact ⟨(([] : List Int)), (0), (by first | rfl | (simp; done) | (simp [*]; done)), H', ⟨Nat.le_refl _⟩, ⟨by first | exact Kd.R_nil _ _ _ _ _ | exact Kd.N_nil _ _ _ _ _ | exact Kd.V_nil _ _ _ _ _ | exact Kd.Q_nil _ _ _ _ _ | exact Kd.S_nil _ _ _ _ _⟩, ⟨by (with_reducible repeat (first | apply Kd.R_alloc | apply Kd.R_drewN | apply Kd.R_drew)); exact HO194.out⟩, ⟨kS⟩, ⟨bS⟩⟩
    case round =>
      clear H'
      try clear c2
      try clear p2
      try clear c3
      obtain ⟨x3_1, x13_1, rfl, HA, HK1, HO_3, HO_11, BK190, HB⟩ := hrel
      cases gk with
      | zero => exact absurd HA.out (by simp [impl_PackRow.l0])
      | succ k1 =>
        have H := HA.out
        clear HA
        simp only [impl_PackRow.l0] at H
        by_cases c8 : x13_1 < (t192.length : Int)
        · rw [if_pos c8] at H
          have c8b0 : decide (x13_1 < (t192.length : Int)) = true := decide_eq_true c8
          clear c8
          by_cases c9 : 0 ≤ x13_1
          · rw [if_pos c9] at H
            have c9b0 : decide (0 ≤ x13_1) = true := decide_eq_true c9
            clear c9
            by_cases c10 : x13_1 < (t192.length : Int)
            · rw [if_pos c10] at H
              have c10b0 : decide (x13_1 < (t192.length : Int)) = true := decide_eq_true c10
              clear c10
              obtain ⟨y197, hy197⟩ : ∃ y_ : List Int, y_ = (([(rd_T112 t192 x13_1).f0, (rd_T112 t192 x13_1).f1] : List Int)) := ⟨_, rfl⟩
              replace H : (if x3_1.length + y197.length < 17592186044416 then (impl_PackRow.l0 k1 l0 (x3_1 ++ y197) t192 (t192.length : Int) (wrap64 (x13_1 + 1))) else (none)) = some (r1, r2) := by first | (rw [hy197]; with_reducible exact H) | (have H2_ := (Option.bind_some _ _).symm.trans H; rw [hy197]; with_reducible exact H2_) | (have H2_ := (Option.bind_some _ _).symm.trans H; with_reducible exact H2_) | with_reducible exact H | (rw [hy197]; exact H) | exact H
              have Ny197 := Aside0.mk hy197
              clear hy197
              by_cases c11 : x3_1.length + y197.length < 17592186044416
              · rw [if_pos c11] at H
                have LMc11 := Aside0.mk c11
                clear c11
                obtain ⟨y200, hy200⟩ : ∃ y_ : List Int, y_ = (x3_1 ++ y197) := ⟨_, rfl⟩
                replace H : (impl_PackRow.l0 k1 l0 y200 t192 (t192.length : Int) (wrap64 (x13_1 + 1))) = some (r1, r2) := by first | (rw [hy200]; with_reducible exact H) | (have H2_ := (Option.bind_some _ _).symm.trans H; rw [hy200]; with_reducible exact H2_) | (have H2_ := (Option.bind_some _ _).symm.trans H; with_reducible exact H2_) | with_reducible exact H | (rw [hy200]; exact H) | exact H
                have Ny200 := Aside0.mk hy200
                clear hy200
                have H' := Aside0.mk H
                clear H
                have p195 : 0 ≤ (x13_1 : Int) := of_decide_eq_true (by first | (with_reducible assumption) | assumption)
                have q195 : x13_1 < (t192.length : Int) := of_decide_eq_true (by first | (with_reducible assumption) | assumption)
                obtain ⟨ad195, e195, hx195_0, hx195_1⟩ := at_T112 (Kd.R_reads' HO_11.out).2.2 x13_1 p195 q195
                cases e195
                replace p195 := eq_true p195
                replace q195 := eq_true q195
                go_wp2_with (first | ((with_reducible refine gD 5 ?_); refine bxE #[.int .i64 0, .int .i64 0] 112 ?_; intro gb196 hg w12 BK196 hb; have GW196 := gE hg; have GE196 := gE hg; have NB190_196 := nL (g := gb190) hg; have NB196_190 := nG (g := gb190) hg; replace HO_3 := Aside0.mk (Kd.R_below (rS HO_3) hb); replace HO_11 := Aside0.mk (Kd.R_below (Kd.R_elderB (rS HO_11) gb196 (Nat.le_of_eq hg.symm)) hb); replace BK190 := kB (g := gb190) hb; replace HB := hB hb; clear hb hg; have hnb13 := NB196_190.out; have hnc13 := NB190_196.out; have hz14 := cz2 BK196) | ((with_reducible refine gate_dst (N := 22) rfl ?_); refine Kd.R_lit (Kd.int .i64) _ 3 ?hg (N := 22) ?hd (xs := ([(rd_T112 t192 x13_1).f0, (rd_T112 t192 x13_1).f1] : List Int)) (inner := [.int .i64 ((rd_T112 t192 x13_1).f0), .int .i64 ((rd_T112 t192 x13_1).f1)]) (ok := fun _ => True) (okp := fun _ => True) ?hr ?hp (fun _ hk => hk) trivial (Below.refl _ _) (Nat.le_refl _) (by simp) ?_; (case hd => rfl); (case hg => rfl); (case hr => first | (go_simp; done) | (go_simp; rfl)); (case hp => exact (Reps.one (show Kd.M (Kd.int .i64) _ _ _ ((rd_T112 t192 x13_1).f0) [.int .i64 ((rd_T112 t192 x13_1).f0)] from rfl) (Reps.one (show Kd.M (Kd.int .i64) _ _ _ ((rd_T112 t192 x13_1).f1) [.int .i64 ((rd_T112 t192 x13_1).f1)] from rfl) (Reps.none _ _)))); intro v198 w15 ho16 hb hg_ hnew_; clear hg_ hnew_; (first | rw [← Ny197.out] at ho16 | (simp only [Int.reduceToNat] at ho16; rw [← Ny197.out] at ho16)); have HO199 := Aside0.mk (Kd.R_lower (Kd.R_new' ho16 (Kd.R_lt (by (with_reducible repeat (first | apply Kd.R_alloc | apply Kd.R_drewN | apply Kd.R_drew)); exact (Kd.R_mono (Kd.R_far (p := ⟨gb196, 1, none⟩) (Kd.R_far (p := ⟨gb196, 0, none⟩) (Kd.R_types HO_3.out BK196.out (by decide)) (fun _ hk => hk.2) (.int .i64 ((rd_T112 t192 x13_1).f0))) (fun _ hk => hk.2) (.int .i64 ((rd_T112 t192 x13_1).f1))) (fun _ h_ => h_.1))))) (below_size bS)); replace HO_3 := Aside0.mk (Kd.R_elder' (by (with_reducible repeat (first | apply Kd.R_alloc | apply Kd.R_drewN | apply Kd.R_drew)); exact (Kd.R_mono (Kd.R_far (p := ⟨gb196, 1, none⟩) (Kd.R_far (p := ⟨gb196, 0, none⟩) (Kd.R_types HO_3.out BK196.out (by decide)) (fun _ hk => hk.2) (.int .i64 ((rd_T112 t192 x13_1).f0))) (fun _ hk => hk.2) (.int .i64 ((rd_T112 t192 x13_1).f1))) (fun _ h_ => h_.1))) (Kd.R_base ho16) hb); replace HO_11 := Aside0.mk (Kd.R_below (by (with_reducible repeat (first | apply Kd.R_alloc | apply Kd.R_drewN | apply Kd.R_drew)); exact (Kd.R_mono (Kd.R_far (p := ⟨gb196, 1, none⟩) (Kd.R_far (p := ⟨gb196, 0, none⟩) (Kd.R_mono HO_11.out (fun k_ hk => (⟨hk, hk.2⟩ : _ ∧ k_ ≠ gb196))) (fun _ hk => hk.2) (.int .i64 ((rd_T112 t192 x13_1).f0))) (fun _ hk => hk.2) (.int .i64 ((rd_T112 t192 x13_1).f1))) (fun _ h_ => h_.1))) hb); replace BK190 := kB (g := gb190) hb; replace BK196 := Aside0.mk (blk_below (g := gb196) (o := .cells #[.int .i64 ((rd_T112 t192 x13_1).f0), .int .i64 ((rd_T112 t192 x13_1).f1)] 112 (0, 0)) kS hb); replace HB := hB hb; clear hb ho16; obtain ⟨Ao18, co18, eo18⟩ := Kd.R_slice HO199.out; subst eo18) | ((with_reducible refine gate_builtin (b := .append) (xs := #[.tmp 17, .tmp 22]) rfl ?_); at_builtin; refine Kd.R_append_rows (Kd.int .i64) (w0 := w) w.heap.size rfl (.tmp 17) (.tmp 22) 24 3 (.int .i64 0) 8 rfl Try.underlying24 info3 rfl (by decide) (by omega) u3 x3_1 y197 _ _ _ (fun k_ => some k_ ≠ (.slice Ao18 y197.length co18 : Value).ownBlock) (fun _ => False) rfl rfl ?aO ?aR (fun _ _ h => h) (fun _ h => h.elim) ?aF ?aB ?aS ?aL ?_; (case aR => exact cS (Kd.R_reads' HO199.out).2.2); (case aB => exact bS); (case aF => exact (fun k_ hk => Kd.fresh' (Kd.R_lt (rS HO199)) k_ hk)); (case aO => exact (by (with_reducible repeat (first | apply Kd.R_alloc | apply Kd.R_drewN | apply Kd.R_drew)); exact Kd.R_mono HO_3.out (fun _ hk => hk.2))); (case aS => exact (below_size bS)); (case aL => have := LMc11.out; omega); intro v201 w17 ho hb hg hat; rw [← Ny200.out] at ho; have HO202 := Aside0.mk (ho); replace HO_11 := Aside0.mk (Kd.R_over' (rS HO_11) (Kd.R_typed (rS HO_3)) (by decide) hg); replace BK190 := Aside0.mk (blk_grown (g := gb190) kS hg (Kd.R_ne HO_3.out BK190.out (by decide))); replace BK196 := Aside0.mk (blk_grown (g := gb196) kS hg (Kd.R_ne HO_3.out BK196.out (by decide))); replace HO199 := Aside0.mk (Kd.R_after (ok := (fun _ => True)) (rS HO199) hg hat); replace HB := Aside0.mk (hb); clear HO_3; clear ho hb hg hat))
                go_roundg k1
                case measure => have := HK1.out; omega
                case rel => exact ⟨(y200), (wrap64 (x13_1 + 1)), (by first | rfl | (simp; done) | (simp [*]; done)), H', ⟨by have := HK1.out; omega⟩, ⟨by (with_reducible repeat (first | apply Kd.R_alloc | apply Kd.R_drewN | apply Kd.R_drew)); exact Kd.R_mono HO202.out (fun _ hk => trivial)⟩, ⟨by (with_reducible repeat (first | apply Kd.R_alloc | apply Kd.R_drewN | apply Kd.R_drew)); exact Kd.R_mono HO_11.out (fun _ hk => trivial)⟩, ⟨kS⟩, ⟨bS⟩⟩
              · rw [if_neg c11] at H
                exact absurd H (by simp)
            · rw [if_neg c10] at H
              exact absurd H (by simp)
          · rw [if_neg c9] at H
            exact absurd H (by simp)
        · rw [if_neg c8] at H
          have c8b0 : decide (x13_1 < (t192.length : Int)) = false := decide_eq_false c8
          clear c8
          by_cases c19 : (x3_1.length : Int) < 32
          · rw [if_pos c19] at H
            have c19b0 : decide ((x3_1.length : Int) < 32) = true := decide_eq_true c19
            have c19b1 : decide (x3_1.length < 32) = true := decide_eq_true (by omega)
            clear c19
            simp only [Option.some.injEq, Prod.mk.injEq] at H
            obtain ⟨rfl, rfl⟩ := H
            obtain ⟨Ao20, co20, eo20⟩ := Kd.R_slice HO_3.out
            subst eo20
            have hz21 := cz2 BK190
            go_wp2
            refine bodyPost_ret (results_cell_row rfl _ _ gb190 40 #[.bool false, .slice Ao20 x3_1.length co20] (0, 0) _ rfl kS Try.underlying40 rfl (by kernel_rfl)) rfl ?_
            exact ⟨_, eS, by (with_reducible repeat (first | apply Kd.R_alloc | apply Kd.R_drewN | apply Kd.R_drew)); exact Kd.R_mono (Kd.R_far (p := ⟨gb190, 1, none⟩) (Kd.R_far (p := ⟨gb190, 0, none⟩) (Kd.R_types HO_3.out BK190.out (by decide)) (fun _ hk => hk.2) (.bool false)) (fun _ hk => hk.2) (.slice Ao20 x3_1.length co20)) (fun _ hk => trivial), bS⟩
          · rw [if_neg c19] at H
            have c19b0 : decide ((x3_1.length : Int) < 32) = false := decide_eq_false c19
            have c19b1 : decide (x3_1.length < 32) = false := decide_eq_false (by omega)
            clear c19
            replace H := bN H
            obtain ⟨t203, A22, H⟩ := H
            simp only [Option.some.injEq, Prod.mk.injEq] at H
            obtain ⟨rfl, rfl⟩ := H
            obtain ⟨Ao23, co23, eo23⟩ := Kd.R_slice HO_3.out
            subst eo23
            go_wp2_with (first | ((with_reducible refine gC 100 ?_); refine cL (some 31) Try.func100 #[.slice A0 l0.length c0] ?_; (with_reducible refine (slices_Clone_int_int.calls _ _ l0 t203 _ ?side1 ?side2 A22.out).mono ?_); (case side1 => exact cS (Kd.C_below HR0.out HB.out)); (case side2 => exact HC0.out); rintro e w24 ⟨v204, rfl, ho0, hb⟩; refine ⟨_, rfl, ?_⟩; have HO205 := Aside0.mk (Kd.R_lower (Kd.R_new' ho0 (Kd.R_lt (rS HO_3))) (below_size bS)); replace HO_3 := Aside0.mk (Kd.R_elder' (rS HO_3) (Kd.R_base ho0) hb); replace HO_11 := Aside0.mk (Kd.R_below (rS HO_11) hb); replace BK190 := kB (g := gb190) hb; replace HB := hB hb; (try clear hb); (try clear hb2); (try clear hk); (try clear hi); (try clear ho0); obtain ⟨Ao25, co25, eo25⟩ := Kd.R_slice HO205.out; subst eo25; have hz26 := cz2 BK190))
            refine bodyPost_ret (results_cell_row rfl _ _ gb190 40 #[.bool true, .slice Ao25 t203.length co25] (0, 0) _ rfl kS Try.underlying40 rfl (by kernel_rfl)) rfl ?_
            exact ⟨_, eS, by (with_reducible repeat (first | apply Kd.R_alloc | apply Kd.R_drewN | apply Kd.R_drew)); exact Kd.R_mono (Kd.R_far (p := ⟨gb190, 1, none⟩) (Kd.R_far (p := ⟨gb190, 0, none⟩) (Kd.R_types HO205.out BK190.out (by decide)) (fun _ hk => hk.2) (.bool true)) (fun _ hk => hk.2) (.slice Ao25 t203.length co25)) (fun _ hk => trivial), bS⟩
  · obtain rfl := Bool.eq_false_iff.mpr c3
    rw [if_neg nF] at H
    simp only [Option.some.injEq, Prod.mk.injEq] at H
    obtain ⟨rfl, rfl⟩ := H
    go_enter Try.func34, Try.ntmps34
    go_wp2_with (first | ((with_reducible refine gD 2 ?_); refine bxE #[.bool false, .slice none 0 0] 40 ?_; intro gb190 hg w27 BK190 hb; have GW190 := gE hg; have GE190 := gE hg; replace HB := hB hb; clear hb hg) | ((with_reducible refine gC 99 ?_); refine cL (some 7) Try.func99 #[.slice A0 l0.length c0] ?_; (with_reducible refine (impl_rowOk.calls k _ _ l0 _ _ ?side1 ?side2 A2.out).mono ?_); (case side1 => exact cS (Kd.C_below HR0.out HB.out)); (case side2 => exact HC0.out); rintro e w' ⟨rfl, ⟨nd, rfl⟩⟩; refine ⟨_, rfl, ?_⟩; (try (rw [drewN_self w27]; generalize hq_ : World.drewN w27 _ = w27; replace BK190 : Aside0 (w27.heap[gb190]? = some (.cells #[.bool false, .slice none 0 0] 40 (0, 0))) := ⟨by rw [← hq_]; exact kS⟩; replace HB : Aside0 (Below w.heap.size w w27) := ⟨by rw [← hq_]; exact bS⟩; clear hq_)); have hz28 := cz2 BK190))
    refine bodyPost_ret (results_cell_row rfl _ _ gb190 40 #[.bool false, .slice none 0 0] (0, 0) _ rfl kS Try.underlying40 rfl (by kernel_rfl)) rfl ?_
    exact ⟨_, eS, by first | exact Kd.R_nil _ _ _ _ _ | exact Kd.N_nil _ _ _ _ _ | exact Kd.V_nil _ _ _ _ _ | exact Kd.Q_nil _ _ _ _ _ | exact Kd.S_nil _ _ _ _ _, bS⟩

/-! ### impl_RowsOk: function 130 -/
def impl_RowsOk.l0 : Nat → List (List Int) → Int → Int → Option (Bool)
  | 0, _, _, _ => none
  | k + 1, x8, x9, x10 => if x10 < x9 then (if 0 ≤ x10 then (if x10 < (x8.length : Int) then ((impl_rowOk.f k (rd_L2 x8 x10)).bind fun t207 => (if t207 = true then (impl_RowsOk.l0 k x8 x9 (wrap64 (x10 + 1))) else (some false))) else (none)) else (none)) else (some true)
def impl_RowsOk.f (k : Nat) (l0 : List (List Int)) : Option (Bool) := if (l0.length : Int) > 32 then (some false) else (impl_RowsOk.l0 k l0 (l0.length : Int) 0)
theorem impl_RowsOk.calls (k : Nat) (A0 : Option Addr) (c0 : Nat) (l0 : List (List Int)) (r : Bool) (w : World) (hr0 : Kd.C (Kd.slice 3 (Kd.int .i64)) w A0 l0.length l0) (hc0 : l0.length ≤ c0) (h : impl_RowsOk.f k l0 = some r) :
    Calls Try.prog 130 #[.slice A0 l0.length c0] w fun e w' => e = .returned (.bool r) ∧ Drawn0 w w' := by
  have HR0 := Aside0.mk hr0
  have HC0 := Aside0.mk hc0
  clear hr0 hc0
  have H : (if (l0.length : Int) > 32 then (some false) else (impl_RowsOk.l0 k l0 (l0.length : Int) 0)) = some r := h
  clear h
  by_cases c2 : (l0.length : Int) > 32
  · rw [if_pos c2] at H
    have c2b0 : decide (32 < (l0.length : Int)) = true := decide_eq_true c2
    have c2b1 : decide (32 < l0.length) = true := decide_eq_true (by omega)
    clear c2
    obtain rfl := Option.some.inj H
    go_enter Try.func130, Try.ntmps130
    go_wp2
    go_ret
    exact ⟨by first | rfl | (simp; done) | (simp [*]; done), by repeat (first | exact Drawn0.refl _ | apply Drawn0.step)⟩
  · rw [if_neg c2] at H
    have c2b0 : decide (32 < (l0.length : Int)) = false := decide_eq_false c2
    have c2b1 : decide (32 < l0.length) = false := decide_eq_false (by omega)
    clear c2
    have H' := Aside0.mk H
    clear H
    go_enter Try.func130, Try.ntmps130
    go_wp2
    go_loopg [10] k (fun kq v10 w' => ∃ (x10_1 : Int), v10 = .int .i64 x10_1 ∧ Aside0 (impl_RowsOk.l0 kq l0 (l0.length : Int) x10_1 = some r) ∧ Aside0 (kq ≤ k) ∧ Drawn0 w w')
    case atStart => exact ⟨(0), (by first | rfl | (simp; done) | (simp [*]; done)), H', ⟨Nat.le_refl _⟩, by repeat (first | exact Drawn0.refl _ | apply Drawn0.step)⟩
    case round =>
      clear H'
      try clear c1
      try clear c2
      try clear c2b0
      try clear c2b1
      try clear p2
      obtain ⟨x10_1, rfl, HA, HK1, ⟨m1, rfl⟩⟩ := hrel
      cases gk with
      | zero => exact absurd HA.out (by simp [impl_RowsOk.l0])
      | succ k1 =>
        have H := HA.out
        clear HA
        simp only [impl_RowsOk.l0] at H
        by_cases c3 : x10_1 < (l0.length : Int)
        · rw [if_pos c3] at H
          have c3b0 : decide (x10_1 < (l0.length : Int)) = true := decide_eq_true c3
          clear c3
          by_cases c4 : 0 ≤ x10_1
          · rw [if_pos c4] at H
            have c4b0 : decide (0 ≤ x10_1) = true := decide_eq_true c4
            clear c4
            by_cases c5 : x10_1 < (l0.length : Int)
            · rw [if_pos c5] at H
              have c5b0 : decide (x10_1 < (l0.length : Int)) = true := decide_eq_true c5
              clear c5
              replace H := bN H
              obtain ⟨t207, A6, H⟩ := H
              by_cases c7 : t207 = true
              · subst c7
                rw [if_pos rfl] at H
                have H' := Aside0.mk H
                clear H
                have p206 : 0 ≤ (x10_1 : Int) := of_decide_eq_true (by first | (with_reducible assumption) | assumption)
                have q206 : x10_1 < (l0.length : Int) := of_decide_eq_true (by first | (with_reducible assumption) | assumption)
                obtain ⟨ad206, A206_0, c206_0, e206, hx206_0, hl206_0, hi206_0⟩ := at_L2 HR0.out x10_1 p206 q206
                cases e206
                have HR206_0 := Aside0.mk hi206_0
                have HC206_0 := Aside0.mk hl206_0
                clear hi206_0 hl206_0
                replace p206 := eq_true p206
                replace q206 := eq_true q206
                go_wp2_with (first | ((with_reducible refine gC 99 ?_); refine cL (some 15) Try.func99 #[.slice A206_0 (rd_L2 l0 x10_1).length c206_0] ?_; (with_reducible refine (impl_rowOk.calls k1 _ _ (rd_L2 l0 x10_1) _ _ ?side1 ?side2 A6.out).mono ?_); (case side1 => repeat (first | exact HR206_0.out | (with_reducible refine Kd.C_alloc ?_ _) | (with_reducible refine Kd.C_drewN ?_ _) | (with_reducible refine Kd.C_drew ?_))); (case side2 => exact HC206_0.out); rintro e w' ⟨rfl, ⟨nd, rfl⟩⟩; refine ⟨_, rfl, ?_⟩))
                go_roundg k1
                case measure => have := HK1.out; omega
                case rel => exact ⟨(wrap64 (x10_1 + 1)), (by first | rfl | (simp; done) | (simp [*]; done)), H', ⟨by have := HK1.out; omega⟩, by repeat (first | exact Drawn0.refl _ | apply Drawn0.step)⟩
              · obtain rfl := Bool.eq_false_iff.mpr c7
                rw [if_neg nF] at H
                obtain rfl := Option.some.inj H
                have p206 : 0 ≤ (x10_1 : Int) := of_decide_eq_true (by first | (with_reducible assumption) | assumption)
                have q206 : x10_1 < (l0.length : Int) := of_decide_eq_true (by first | (with_reducible assumption) | assumption)
                obtain ⟨ad206, A206_0, c206_0, e206, hx206_0, hl206_0, hi206_0⟩ := at_L2 HR0.out x10_1 p206 q206
                cases e206
                have HR206_0 := Aside0.mk hi206_0
                have HC206_0 := Aside0.mk hl206_0
                clear hi206_0 hl206_0
                replace p206 := eq_true p206
                replace q206 := eq_true q206
                go_wp2_with (first | ((with_reducible refine gC 99 ?_); refine cL (some 15) Try.func99 #[.slice A206_0 (rd_L2 l0 x10_1).length c206_0] ?_; (with_reducible refine (impl_rowOk.calls k1 _ _ (rd_L2 l0 x10_1) _ _ ?side1 ?side2 A6.out).mono ?_); (case side1 => repeat (first | exact HR206_0.out | (with_reducible refine Kd.C_alloc ?_ _) | (with_reducible refine Kd.C_drewN ?_ _) | (with_reducible refine Kd.C_drew ?_))); (case side2 => exact HC206_0.out); rintro e w' ⟨rfl, ⟨nd, rfl⟩⟩; refine ⟨_, rfl, ?_⟩))
                go_ret
                exact ⟨by first | rfl | (simp; done) | (simp [*]; done), by repeat (first | exact Drawn0.refl _ | apply Drawn0.step)⟩
            · rw [if_neg c5] at H
              exact absurd H (by simp)
          · rw [if_neg c4] at H
            exact absurd H (by simp)
        · rw [if_neg c3] at H
          have c3b0 : decide (x10_1 < (l0.length : Int)) = false := decide_eq_false c3
          clear c3
          obtain rfl := Option.some.inj H
          go_wp2
          go_ret
          exact ⟨by first | rfl | (simp; done) | (simp [*]; done), by repeat (first | exact Drawn0.refl _ | apply Drawn0.step)⟩

/-! ### impl_PackRows: function 65 -/
def impl_PackRows.l0 : Nat → List (S40) → List (List Int) → Int → Int → Option ((List (S40)))
  | 0, _, _, _, _ => none
  | k + 1, x3, x9, x10, x11 => if x11 < x10 then (if 0 ≤ x11 then (if x11 < (x9.length : Int) then ((impl_PackRow.f k (rd_L2 x9 x11)).bind fun bt210 => (if x3.length < 4398046511104 then (impl_PackRows.l0 k (x3 ++ [(⟨bt210.1, bt210.2⟩ : S40)]) x9 x10 (wrap64 (x11 + 1))) else (none))) else (none)) else (none)) else (some x3)
def impl_PackRows.f (k : Nat) (l0 : List (List Int)) : Option ((List (S40))) := (impl_RowsOk.f k l0).bind fun t208 => (if t208 = true then (impl_PackRows.l0 k ([] : List (S40)) l0 (l0.length : Int) 0) else (some ([] : List (S40))))
theorem impl_PackRows.calls (k : Nat) (A0 : Option Addr) (c0 : Nat) (l0 : List (List Int)) (r : List (S40)) (w : World) (hr0 : Kd.C (Kd.slice 3 (Kd.int .i64)) w A0 l0.length l0) (hc0 : l0.length ≤ c0) (h : impl_PackRows.f k l0 = some r) :
    Calls Try.prog 65 #[.slice A0 l0.length c0] w fun e w' => ∃ v0_ : Value, e = .returned (v0_) ∧ Kd.S k40 40 w' w.heap.size (fun _ => True) v0_ r ∧ Below w.heap.size w w' := by
  have HR0 := Aside0.mk hr0
  have HC0 := Aside0.mk hc0
  clear hr0 hc0
  have HB := Aside0.mk (Below.refl w.heap.size w)
  have H : ((impl_RowsOk.f k l0).bind fun t208 => (if t208 = true then (impl_PackRows.l0 k ([] : List (S40)) l0 (l0.length : Int) 0) else (some ([] : List (S40))))) = some r := h
  clear h
  replace H := bN H
  obtain ⟨t208, A2, H⟩ := H
  by_cases c3 : t208 = true
  · subst c3
    rw [if_pos rfl] at H
    have H' := Aside0.mk H
    clear H
    go_enter Try.func65, Try.ntmps65
    go_wp2_with (first | ((with_reducible refine gC 130 ?_); refine cL (some 7) Try.func130 #[.slice A0 l0.length c0] ?_; (with_reducible refine (impl_RowsOk.calls k _ _ l0 _ _ ?side1 ?side2 A2.out).mono ?_); (case side1 => repeat (first | exact HR0.out | (with_reducible refine Kd.C_alloc ?_ _) | (with_reducible refine Kd.C_drewN ?_ _) | (with_reducible refine Kd.C_drew ?_))); (case side2 => exact HC0.out); rintro e w' ⟨rfl, ⟨nd, rfl⟩⟩; refine ⟨_, rfl, ?_⟩))
    go_loopg [3, 11] k (fun kq v3 v11 w' => ∃ (x3_1 : List (S40)) (x11_1 : Int), v11 = .int .i64 x11_1 ∧ Aside0 (impl_PackRows.l0 kq x3_1 l0 (l0.length : Int) x11_1 = some r) ∧ Aside0 (kq ≤ k) ∧ Aside0 (Kd.S k40 40 w' w.heap.size (fun _ => True) v3 x3_1) ∧ Aside0 (Below w.heap.size w w'))
    case atStart => exact ⟨(([] : List (S40))), (0), (by first | rfl | (simp; done) | (simp [*]; done)), H', ⟨Nat.le_refl _⟩, ⟨by first | exact Kd.S_nil _ _ _ _ _ | exact Kd.N_nil _ _ _ _ _ | exact Kd.V_nil _ _ _ _ _ | exact Kd.Q_nil _ _ _ _ _ | exact Kd.R_nil _ _ _ _ _⟩, ⟨bS⟩⟩
    case round =>
      clear H'
      try clear c1
      try clear p2
      try clear c3
      obtain ⟨x3_1, x11_1, rfl, HA, HK1, HO_3, HB⟩ := hrel
      cases gk with
      | zero => exact absurd HA.out (by simp [impl_PackRows.l0])
      | succ k1 =>
        have H := HA.out
        clear HA
        simp only [impl_PackRows.l0] at H
        by_cases c4 : x11_1 < (l0.length : Int)
        · rw [if_pos c4] at H
          have c4b0 : decide (x11_1 < (l0.length : Int)) = true := decide_eq_true c4
          clear c4
          by_cases c5 : 0 ≤ x11_1
          · rw [if_pos c5] at H
            have c5b0 : decide (0 ≤ x11_1) = true := decide_eq_true c5
            clear c5
            by_cases c6 : x11_1 < (l0.length : Int)
            · rw [if_pos c6] at H
              have c6b0 : decide (x11_1 < (l0.length : Int)) = true := decide_eq_true c6
              clear c6
              replace H := bN H
              obtain ⟨⟨t210, t211⟩, A7, H⟩ := H
              by_cases c8 : x3_1.length < 4398046511104
              · rw [if_pos c8] at H
                have LMc8 := Aside0.mk c8
                clear c8
                obtain ⟨y214, hy214⟩ : ∃ y_ : List (S40), y_ = (x3_1 ++ [(⟨t210, t211⟩ : S40)]) := ⟨_, rfl⟩
                replace H : (impl_PackRows.l0 k1 y214 l0 (l0.length : Int) (wrap64 (x11_1 + 1))) = some r := by first | (rw [hy214]; with_reducible exact H) | (have H2_ := (Option.bind_some _ _).symm.trans H; rw [hy214]; with_reducible exact H2_) | (have H2_ := (Option.bind_some _ _).symm.trans H; with_reducible exact H2_) | with_reducible exact H | (rw [hy214]; exact H) | exact H
                have Ny214 := Aside0.mk hy214
                clear hy214
                have H' := Aside0.mk H
                clear H
                have p209 : 0 ≤ (x11_1 : Int) := of_decide_eq_true (by first | (with_reducible assumption) | assumption)
                have q209 : x11_1 < (l0.length : Int) := of_decide_eq_true (by first | (with_reducible assumption) | assumption)
                obtain ⟨ad209, A209_0, c209_0, e209, hx209_0, hl209_0, hi209_0⟩ := at_L2 HR0.out x11_1 p209 q209
                cases e209
                replace hx209_0 := (HB.out.cell (World.block_lt_of_cell? w _ hx209_0)).trans hx209_0
                have HR209_0 := Aside0.mk hi209_0
                have HC209_0 := Aside0.mk hl209_0
                clear hi209_0 hl209_0
                replace p209 := eq_true p209
                replace q209 := eq_true q209
                go_wp2_with (first | ((with_reducible refine gC 34 ?_); refine cL (some 17) Try.func34 #[.slice A209_0 (rd_L2 l0 x11_1).length c209_0] ?_; (with_reducible refine (impl_PackRow.calls k1 _ _ (rd_L2 l0 x11_1) t210 t211 _ ?side1 ?side2 A7.out).mono ?_); (case side1 => exact cS (Kd.C_below HR209_0.out HB.out)); (case side2 => exact HC209_0.out); rintro e w9 ⟨v212, rfl, ho0, hb⟩; refine ⟨_, rfl, ?_⟩; have HO213 := Aside0.mk (Kd.R_lower ho0 (below_size bS)); replace HO_3 := Aside0.mk (Kd.S_elder' (by (with_reducible repeat (first | apply Kd.S_alloc | apply Kd.S_drewN | apply Kd.S_drew)); exact HO_3.out) (Kd.R_base ho0) hb); replace HB := hB hb; (try clear hb); (try clear hb2); (try clear hk); (try clear hi); (try clear ho0); obtain ⟨Ao11, co11, eo11⟩ := Kd.R_slice HO213.out; subst eo11) | ((with_reducible refine gate_builtin (b := .append) (xs := #[.tmp 15, .tmp 18]) rfl ?_); at_builtin; refine Kd.S_append k40 (w0 := w) w.heap.size rfl (.tmp 15) (.tmp 18) 88 40 (.agg #[(.bool false), (.slice none 0 0)]) 32 rfl Try.underlying88 info40 rfl (by decide) (by omega) u3 x3_1 (⟨t210, t211⟩ : S40) [.bool t210, .slice Ao11 t211.length co11] (fun _ => True) (fun k_ => some k_ = (.slice Ao11 t211.length co11 : Value).ownBlock) rfl rfl ?aP (fun k_ hk_ => ((Kd.R_mono (ok' := fun k_ => ((fun _ => True)) k_ ∧ some k_ ≠ (u3 : Value).ownBlock) (Kd.R_apart' (HO213.out) (Kd.S_typed HO_3.out) (by decide)) (fun k_ hk => ⟨trivial, hk.2⟩))).1 k_ hk_.symm) ?aF ?aO ?aB ?aS ?aL ?_; (case aP => exact k40_mkM _ _ _ (⟨t210, t211⟩ : S40) (Kd.R_mono (Kd.R_tight rfl (Kd.R_mono (ok' := fun k_ => ((fun _ => True)) k_ ∧ some k_ ≠ (u3 : Value).ownBlock) (Kd.R_apart' (HO213.out) (Kd.S_typed HO_3.out) (by decide)) (fun k_ hk => ⟨trivial, hk.2⟩))) (fun _ h_ => h_))); (case aB => exact bS); (case aF => exact (fun _ _ => trivial)); (case aO => exact (by (with_reducible repeat (first | apply Kd.S_alloc | apply Kd.S_drewN | apply Kd.S_drew)); exact Kd.S_mono HO_3.out (fun k_ hk => ⟨trivial, fun e_ => hk.2 e_⟩))); (case aS => exact (below_size bS)); (case aL => have := LMc8.out; omega); intro v215 w10 ho hb hg hat; rw [← Ny214.out] at ho; have HO216 := Aside0.mk (ho); replace HB := Aside0.mk (hb); clear HO_3 HO213; clear ho hb hg hat))
                go_roundg k1
                case measure => have := HK1.out; omega
                case rel => exact ⟨(y214), (wrap64 (x11_1 + 1)), (by first | rfl | (simp; done) | (simp [*]; done)), H', ⟨by have := HK1.out; omega⟩, ⟨by (with_reducible repeat (first | apply Kd.S_alloc | apply Kd.S_drewN | apply Kd.S_drew)); exact HO216.out⟩, ⟨bS⟩⟩
              · rw [if_neg c8] at H
                exact absurd H (by simp)
            · rw [if_neg c6] at H
              exact absurd H (by simp)
          · rw [if_neg c5] at H
            exact absurd H (by simp)
        · rw [if_neg c4] at H
          have c4b0 : decide (x11_1 < (l0.length : Int)) = false := decide_eq_false c4
          clear c4
          obtain rfl := Option.some.inj H
          go_wp2
          go_ret
          exact ⟨_, eS, by (with_reducible repeat (first | apply Kd.S_alloc | apply Kd.S_drewN | apply Kd.S_drew)); exact HO_3.out, bS⟩
  · obtain rfl := Bool.eq_false_iff.mpr c3
    rw [if_neg nF] at H
    obtain rfl := Option.some.inj H
    go_enter Try.func65, Try.ntmps65
    go_wp2_with (first | ((with_reducible refine gC 130 ?_); refine cL (some 7) Try.func130 #[.slice A0 l0.length c0] ?_; (with_reducible refine (impl_RowsOk.calls k _ _ l0 _ _ ?side1 ?side2 A2.out).mono ?_); (case side1 => repeat (first | exact HR0.out | (with_reducible refine Kd.C_alloc ?_ _) | (with_reducible refine Kd.C_drewN ?_ _) | (with_reducible refine Kd.C_drew ?_))); (case side2 => exact HC0.out); rintro e w' ⟨rfl, ⟨nd, rfl⟩⟩; refine ⟨_, rfl, ?_⟩))
    go_ret
    exact ⟨_, eS, by first | exact Kd.S_nil _ _ _ _ _ | exact Kd.N_nil _ _ _ _ _ | exact Kd.V_nil _ _ _ _ _ | exact Kd.Q_nil _ _ _ _ _ | exact Kd.R_nil _ _ _ _ _, bS⟩

end Go.Proofs.Ytcalgoembdmlkaa.QFnStores
