-- Made out of the translation by a program of this session (a changed copy of the print). Not trusted: Lean checks it.
import Derived.Test.YtigodjcnkgebaaaQFnMergesx0
import Derived.Test.YtigodjcnkgebaaaQFnMergesx2
import Derived.Test.YtigodjcnkgebaaaQFnMergesx18
namespace Go.Proofs.Ytigodjcnkgebaaa.QFnMerges
open Go.RowKit Go.Proofs.YtigodjcnkgebaaaW.PrintWords Go.Proofs.YtigodjcnkgebaaaW.PrintLast Go.Proofs.YtigodjcnkgebaaaW.PrintMore
attribute [local go_sem] max2_int min2_int max_two min_two max_three min_three max_four min_four   -- for this text's walks alone
set_option linter.unusedVariables false
set_option linter.unusedSimpArgs false
set_option maxHeartbeats 8000000
set_option maxRecDepth 100000

/-! ### impl_Point: function 176 -/
def impl_Point.f (l0 : List (S171)) : Option ((List (S171))) := (some (([] : List (S171)) : List (S171))).bind fun y716 => (if y716.length + l0.length < 8796093022208 then (some (y716 ++ l0)) else (none))
theorem impl_Point.calls (A0 : Option Addr) (c0 : Nat) (l0 : List (S171)) (r : List (S171)) (w : World) (hr0 : Kd.C k171 w A0 l0.length l0) (hc0 : l0.length ≤ c0) (h : impl_Point.f l0 = some r) :
  Calls Try.prog 176 #[.slice A0 l0.length c0] w fun e w' => ∃ v0_ : Value, e = .returned (v0_) ∧ Kd.R k171 171 w' w.heap.size (fun _ => True) v0_ r ∧ Below w.heap.size w w' := by
 obtain _ | A0 := A0
 ·have hl0 : l0 = [] := by
   rcases Nat.eq_zero_or_pos l0.length with h0 | h0
   ·exact List.eq_nil_of_length_eq_zero h0
   ·obtain ⟨ad, e, _⟩ := hr0.2.2 h0
    cases e
  subst hl0
  have hr_ : r = [] := by
   have h_ := h
   simp [impl_Point.f] at h_
   first | exact h_ | exact h_.symm
  subst hr_
  have he_ : ∀ w : World, (binOp .eql 42 (.slice none 0 c0) (.slice none 0 0)).run Try.prog w = .ok (.bool true) w := fun _ => rfl
  go_enter Try.func176, Try.ntmps176
  go_wp2
  go_ret
  exact ⟨_, rfl, Kd.R_nil _ _ _ _ _, Below.refl _ _⟩
 have he_ : ∀ w : World, (binOp .eql 42 (.slice (some A0) l0.length c0) (.slice none 0 0)).run Try.prog w = .ok (.bool false) w := fun _ => rfl
 have HR0 := Aside0.mk hr0
 have HC0 := Aside0.mk hc0
 clear hr0 hc0
 have HB := Aside0.mk (Below.refl w.heap.size w)
 have H : ((some (([] : List (S171)) : List (S171))).bind fun y716 => (if y716.length + l0.length < 8796093022208 then (some (y716 ++ l0)) else (none))) = some r := h
 clear h
 obtain ⟨y716, hy716⟩ : ∃ y_ : List (S171), y_ = (([] : List (S171))) := ⟨_, rfl⟩
 replace H : (if y716.length + l0.length < 8796093022208 then (some (y716 ++ l0)) else (none)) = some r := by first | (rw [hy716]; with_reducible exact H) | (have H2_ := (Option.bind_some _ _).symm.trans H; rw [hy716]; with_reducible exact H2_) | (have H2_ := (Option.bind_some _ _).symm.trans H; with_reducible exact H2_) | with_reducible exact H | (rw [hy716]; exact H) | exact H
 have Ny716 := Aside0.mk hy716
 clear hy716
 by_cases c2 : y716.length + l0.length < 8796093022208
 ·rw [if_pos c2] at H
  have LMc2 := Aside0.mk c2
  clear c2
  obtain ⟨y719, hy719⟩ : ∃ y_ : List (S171), y_ = (y716 ++ l0) := ⟨_, rfl⟩
  replace H : (some y719) = some r := by first | (rw [hy719]; with_reducible exact H) | (have H2_ := (Option.bind_some _ _).symm.trans H; rw [hy719]; with_reducible exact H2_) | (have H2_ := (Option.bind_some _ _).symm.trans H; with_reducible exact H2_) | with_reducible exact H | (rw [hy719]; exact H) | exact H
  have Ny719 := Aside0.mk hy719
  clear hy719
  obtain rfl := Option.some.inj H
  go_enter Try.func176, Try.ntmps176
  go_wp2_with (first | ((with_reducible refine gate_dst (N := 5) rfl ?_); refine Kd.R_lit k171 _ 171 ?hg (N := 5) ?hd (xs := ([] : List (S171))) (inner := []) (ok := fun _ => True) (okp := fun _ => True) ?hr ?hp (fun _ hk => hk) trivial (Below.refl _ _) (Nat.le_refl _) (by simp) ?_; (case hd => rfl); (case hg => rfl); (case hr => first | (go_simp; done) | (go_simp; rfl)); (case hp => exact (Reps.none _ _)); intro v717 w3 ho4 hb hg_ hnew_; clear hg_ hnew_; (first | rw [← Ny716.out] at ho4 | (simp only [Int.reduceToNat] at ho4; rw [← Ny716.out] at ho4)); have HO718 := Aside0.mk (Kd.R_lower ho4 (below_size bS)); replace HB := hB hb; clear hb ho4) | ((with_reducible refine gate_builtin (b := .append) (xs := #[.tmp 5, .tmp 6]) rfl ?_); at_builtin; refine Kd.R_append_rows k171 (w0 := w) w.heap.size rfl (.tmp 5) (.tmp 6) 42 171 (.agg #[(.int .i64 0), (.int .i64 0)]) 16 rfl Try.underlying42 info171 rfl (by decide) (by omega) v717 y716 l0 _ _ _ (fun _ => True) (fun _ => False) rfl rfl ?aO ?aR (fun _ _ h => h) (fun _ h => h.elim) ?aF ?aB ?aS ?aL ?_; (case aR => exact cS (Kd.C_below HR0.out HB.out)); (case aB => exact bS); (case aF => exact (fun _ _ => trivial)); (case aO => exact (rS HO718)); (case aS => exact (below_size bS)); (case aL => have := LMc2.out; omega); intro v720 w5 ho hb hg hat; rw [← Ny719.out] at ho; have HO721 := Aside0.mk (ho); replace HB := Aside0.mk (hb); clear HO718; clear ho hb hg hat))
  go_ret
  exact ⟨_, eS, rS HO721, bS⟩
 ·rw [if_neg c2] at H
  exact absurd H (by simp)

/-! ### impl_copyObject: function 138 -/
def impl_copyObject.f (l0_0 : List (S171)) (a0_1 : Int) (a0_2 : Int) (a0_3 : Int) (a0_4 : Int) (a0_5 : Int) : Option ((List (S171)) × Int × Int × Int × Int × Int) := (impl_Point.f l0_0).bind fun t724 => (some (t724, a0_1, a0_2, a0_3, a0_4, a0_5))
theorem impl_copyObject.calls (A0_0 : Option Addr) (c0_0 : Nat) (l0_0 : List (S171)) (a0_1 : Int) (a0_2 : Int) (a0_3 : Int) (a0_4 : Int) (a0_5 : Int) (r1 : List (S171)) (r2 : Int) (r3 : Int) (r4 : Int) (r5 : Int) (r6 : Int) (w : World) (hr0_0 : Kd.C k171 w A0_0 l0_0.length l0_0) (hc0_0 : l0_0.length ≤ c0_0) (h : impl_copyObject.f l0_0 a0_1 a0_2 a0_3 a0_4 a0_5 = some (r1, r2, r3, r4, r5, r6)) :
  Calls Try.prog 138 #[.agg #[.slice A0_0 l0_0.length c0_0, .int .i64 a0_1, .int .i64 a0_2, .int .i64 a0_3, .int .i64 a0_4, .int .i64 a0_5]] w fun e w' => ∃ v0_ : Value, e = .returned (.agg #[v0_, .int .i64 r2, .int .i64 r3, .int .i64 r4, .int .i64 r5, .int .i64 r6]) ∧ Kd.R k171 171 w' w.heap.size (fun _ => True) v0_ r1 ∧ Below w.heap.size w w' := by
 have hu45 := Try.underlying45
 have HR0_0 := Aside0.mk hr0_0
 have HC0_0 := Aside0.mk hc0_0
 clear hr0_0 hc0_0
 have HB := Aside0.mk (Below.refl w.heap.size w)
 have H : ((impl_Point.f l0_0).bind fun t724 => (some (t724, a0_1, a0_2, a0_3, a0_4, a0_5))) = some (r1, r2, r3, r4, r5, r6) := h
 clear h
 replace H := bN H
 obtain ⟨t724, A2, H⟩ := H
 obtain ⟨rfl, rfl, rfl, rfl, rfl, rfl⟩ := sI6 H
 go_enter Try.func138, Try.ntmps138
 go_wp2_with (first | ((with_reducible refine gD 1 ?_); refine bxE #[.slice A0_0 l0_0.length c0_0, .int .i64 a0_1, .int .i64 a0_2, .int .i64 a0_3, .int .i64 a0_4, .int .i64 a0_5] 45 ?_; intro gb722 hg w3 BK722 hb; have GW722 := gE hg; have GE722 := gE hg; replace HB := hB hb; clear hb hg) | ((with_reducible refine gD 2 ?_); refine bxE #[.slice none 0 0, .int .i64 0, .int .i64 0, .int .i64 0, .int .i64 0, .int .i64 0] 45 ?_; intro gb723 hg w4 BK723 hb; have GW723 := gE hg; have GE723 := gE hg; have NB722_723 := nL (g := gb722) hg; have NB723_722 := nG (g := gb722) hg; replace BK722 := kB (g := gb722) hb; replace HB := hB hb; clear hb hg; have hnb5 := NB722_723.out; have hnc5 := NB723_722.out; have hz6 := cz6 BK722) | ((with_reducible refine gC 176 ?_); refine cL (some 5) Try.func176 #[.slice A0_0 l0_0.length c0_0] ?_; (with_reducible refine (impl_Point.calls _ _ l0_0 t724 _ (cS (Kd.C_below HR0_0.out HB.out)) HC0_0.out A2.out).mono ?_); rintro e w7 ⟨v725, rfl, ho0, hb⟩; refine ⟨_, rfl, ?_⟩; have HO726 := Aside0.mk (Kd.R_lower ho0 (below_size bS)); replace BK722 := kB (g := gb722) hb; replace BK723 := kB (g := gb723) hb; replace HB := hB hb; (try clear hb); (try clear hb2); (try clear hk); (try clear hi); (try clear ho0); obtain ⟨Ao8, co8, eo8⟩ := Kd.R_slice HO726.out; subst eo8; have hz9 := cz6 BK722; have hz10 := cz6 BK723))
 refine bodyPost_ret (results_cell_row rfl _ _ gb723 45 #[.slice Ao8 t724.length co8, .int .i64 a0_1, .int .i64 a0_2, .int .i64 a0_3, .int .i64 a0_4, .int .i64 a0_5] (0, 0) _ rfl kS Try.underlying45 rfl (by kernel_rfl)) rfl ?_
 exact ⟨_, eS, by exact rT (Kd.R_mono (Kd.R_far (p := ⟨gb723, 5, none⟩) (Kd.R_far (p := ⟨gb723, 4, none⟩) (Kd.R_far (p := ⟨gb723, 3, none⟩) (Kd.R_far (p := ⟨gb723, 2, none⟩) (Kd.R_far (p := ⟨gb723, 1, none⟩) (Kd.R_far (p := ⟨gb723, 0, none⟩) (Kd.R_far (p := ⟨gb722, 0, none⟩) (Kd.R_types (Kd.R_types HO726.out BK722.out (by decide)) BK723.out (by decide)) (fun _ hk => hk.1.2) (.slice Ao8 t724.length co8)) (fun _ hk => hk.2) (.slice Ao8 t724.length co8)) (fun _ hk => hk.2) (.int .i64 a0_1)) (fun _ hk => hk.2) (.int .i64 a0_2)) (fun _ hk => hk.2) (.int .i64 a0_3)) (fun _ hk => hk.2) (.int .i64 a0_4)) (fun _ hk => hk.2) (.int .i64 a0_5)) (fun _ hk => trivial)), bS⟩

/-! ### impl_copyObjects: function 172 -/
def impl_copyObjects.l0 : Nat → List (S45) → List (S45) → Int → Int → Option ((List (S45)))
 | 0, _, _, _, _ => none
 | k + 1, x3, x6, x7, x8 => if x8 < x7 then (if 0 ≤ x8 then (if x8 < (x6.length : Int) then ((impl_copyObject.f ((rd_T45 x6 x8).f0) ((rd_T45 x6 x8).f1) ((rd_T45 x6 x8).f2.f0) ((rd_T45 x6 x8).f2.f1) ((rd_T45 x6 x8).f2.f2) ((rd_T45 x6 x8).f2.f3)).bind fun bt729 => (if x3.length < 2199023255552 then (impl_copyObjects.l0 k (x3 ++ [(⟨bt729.1, bt729.2.1, (⟨bt729.2.2.1, bt729.2.2.2.1, bt729.2.2.2.2.1, bt729.2.2.2.2.2⟩ : S43)⟩ : S45)]) x6 x7 (wrap64 (x8 + 1))) else (none))) else (none)) else (none)) else (some x3)
def impl_copyObjects.f (k : Nat) (l0 : List (S45)) : Option ((List (S45))) := impl_copyObjects.l0 k ([] : List (S45)) l0 (l0.length : Int) 0
theorem impl_copyObjects.calls (k : Nat) (A0 : Option Addr) (c0 : Nat) (l0 : List (S45)) (r : List (S45)) (w : World) (hr0 : Kd.C k45 w A0 l0.length l0) (hc0 : l0.length ≤ c0) (h : impl_copyObjects.f k l0 = some r) :
  Calls Try.prog 172 #[.slice A0 l0.length c0] w fun e w' => ∃ v0_ : Value, e = .returned (v0_) ∧ Kd.S k45 45 w' w.heap.size (fun _ => True) v0_ r ∧ Below w.heap.size w w' := by
 have hu45 := Try.underlying45
 have HR0 := Aside0.mk hr0
 have HC0 := Aside0.mk hc0
 clear hr0 hc0
 have HB := Aside0.mk (Below.refl w.heap.size w)
 have H : (impl_copyObjects.l0 k ([] : List (S45)) l0 (l0.length : Int) 0) = some r := h
 clear h
 have H' := Aside0.mk H
 clear H
 go_enter Try.func172, Try.ntmps172
 go_wp2
 go_loopg [3, 8] k (fun kq v3 v8 w' => ∃ (x3_1 : List (S45)) (x8_1 : Int), v8 = .int .i64 x8_1 ∧ Aside0 (impl_copyObjects.l0 kq x3_1 l0 (l0.length : Int) x8_1 = some r) ∧ Aside0 (kq ≤ k) ∧ Aside0 (Kd.S k45 45 w' w.heap.size (fun _ => True) v3 x3_1) ∧ Aside0 (Below w.heap.size w w'))
 case atStart => exact ⟨(([] : List (S45))), (0), fS, H', ⟨Nat.le_refl _⟩, ⟨by first | exact Kd.S_nil _ _ _ _ _ | exact Kd.N_nil _ _ _ _ _ | exact Kd.V_nil _ _ _ _ _ | exact Kd.Q_nil _ _ _ _ _ | exact Kd.R_nil _ _ _ _ _⟩, ⟨bS⟩⟩
 case round =>
  clear H'
  try clear c1
  obtain ⟨x3_1, x8_1, rfl, HA, HK1, HO_3, HB⟩ := hrel
  cases gk with
  | zero => exact absurd HA.out (by simp [impl_copyObjects.l0])
  | succ k1 =>
   have H := HA.out
   clear HA
   simp only [impl_copyObjects.l0] at H
   rcases iD H with ⟨c2b0, H⟩ | ⟨c2b0, H⟩
   ·obtain ⟨c3b0, H⟩ := iT H
    obtain ⟨c4b0, H⟩ := iT H
    replace H := bN H
    obtain ⟨⟨t729, t732, t733, t734, t735, t736⟩, A5, H⟩ := H
    obtain ⟨LMc6, H⟩ := iL H
    obtain ⟨y737, hy737⟩ : ∃ y_ : List (S45), y_ = (x3_1 ++ [(⟨t729, t732, (⟨t733, t734, t735, t736⟩ : S43)⟩ : S45)]) := ⟨_, rfl⟩
    replace H : (impl_copyObjects.l0 k1 y737 l0 (l0.length : Int) (wrap64 (x8_1 + 1))) = some r := by first | (rw [hy737]; with_reducible exact H) | (have H2_ := (Option.bind_some _ _).symm.trans H; rw [hy737]; with_reducible exact H2_) | (have H2_ := (Option.bind_some _ _).symm.trans H; with_reducible exact H2_) | with_reducible exact H | (rw [hy737]; exact H) | exact H
    have Ny737 := Aside0.mk hy737
    clear hy737
    have H' := Aside0.mk H
    clear H
    have p727 : 0 ≤ (x8_1 : Int) := dA
    have q727 : x8_1 < (l0.length : Int) := dA
    obtain ⟨ad727, A727_0, c727_0, e727, hx727_0, hx727_1, hx727_2, hx727_3, hx727_4, hx727_5, hl727_0, hi727_0⟩ := at_T45 HR0.out x8_1 p727 q727
    cases e727
    replace hx727_0 := cB HB hx727_0
    replace hx727_1 := cB HB hx727_1
    replace hx727_2 := cB HB hx727_2
    replace hx727_3 := cB HB hx727_3
    replace hx727_4 := cB HB hx727_4
    replace hx727_5 := cB HB hx727_5
    have HR727_0 := Aside0.mk hi727_0
    have HC727_0 := Aside0.mk hl727_0
    clear hi727_0 hl727_0
    replace p727 := eq_true p727
    replace q727 := eq_true q727
    go_wp2_with (first | ((with_reducible refine gD 5 ?_); refine bxE #[.slice none 0 0, .int .i64 0, .int .i64 0, .int .i64 0, .int .i64 0, .int .i64 0] 45 ?_; intro gb728 hg w7 BK728 hb; have GW728 := gE hg; have GE728 := gE hg; replace HO_3 := Aside0.mk (Kd.S_below (Kd.S_elderB (sS HO_3) gb728 (Nat.le_of_eq hg.symm)) hb); replace HB := hB hb; clear hb hg; have hz8 := cz6 BK728) | ((with_reducible refine gC 138 ?_); refine cL (some 14) Try.func138 #[.agg #[.slice A727_0 ((rd_T45 l0 x8_1).f0).length c727_0, .int .i64 ((rd_T45 l0 x8_1).f1), .int .i64 ((rd_T45 l0 x8_1).f2.f0), .int .i64 ((rd_T45 l0 x8_1).f2.f1), .int .i64 ((rd_T45 l0 x8_1).f2.f2), .int .i64 ((rd_T45 l0 x8_1).f2.f3)]] ?_; (with_reducible refine (impl_copyObject.calls _ _ ((rd_T45 l0 x8_1).f0) ((rd_T45 l0 x8_1).f1) ((rd_T45 l0 x8_1).f2.f0) ((rd_T45 l0 x8_1).f2.f1) ((rd_T45 l0 x8_1).f2.f2) ((rd_T45 l0 x8_1).f2.f3) t729 t732 t733 t734 t735 t736 _ (Kd.C_below HR727_0.out bS) HC727_0.out A5.out).mono ?_); rintro e w9 ⟨v730, rfl, ho0, hb⟩; refine ⟨_, rfl, ?_⟩; have HO731 := Aside0.mk (Kd.R_lower ho0 (below_size bS)); replace HO_3 := Aside0.mk (Kd.S_elder' (by exact sT (Kd.S_mono (Kd.S_far (p := ⟨gb728, 5, none⟩) (Kd.S_far (p := ⟨gb728, 4, none⟩) (Kd.S_far (p := ⟨gb728, 3, none⟩) (Kd.S_far (p := ⟨gb728, 2, none⟩) (Kd.S_far (p := ⟨gb728, 1, none⟩) (Kd.S_far (p := ⟨gb728, 0, none⟩) (Kd.S_mono HO_3.out (fun k_ hk => (⟨hk, hk.2⟩ : _ ∧ k_ ≠ gb728))) (fun _ hk => hk.2) (.slice A727_0 ((rd_T45 l0 x8_1).f0).length c727_0)) (fun _ hk => hk.2) (.int .i64 ((rd_T45 l0 x8_1).f1))) (fun _ hk => hk.2) (.int .i64 ((rd_T45 l0 x8_1).f2.f0))) (fun _ hk => hk.2) (.int .i64 ((rd_T45 l0 x8_1).f2.f1))) (fun _ hk => hk.2) (.int .i64 ((rd_T45 l0 x8_1).f2.f2))) (fun _ hk => hk.2) (.int .i64 ((rd_T45 l0 x8_1).f2.f3))) (fun _ h_ => h_.1))) (Kd.R_base ho0) hb); replace BK728 := Aside0.mk (blk_below (g := gb728) (o := .cells #[.slice A727_0 ((rd_T45 l0 x8_1).f0).length c727_0, .int .i64 ((rd_T45 l0 x8_1).f1), .int .i64 ((rd_T45 l0 x8_1).f2.f0), .int .i64 ((rd_T45 l0 x8_1).f2.f1), .int .i64 ((rd_T45 l0 x8_1).f2.f2), .int .i64 ((rd_T45 l0 x8_1).f2.f3)] 45 (0, 0)) kS hb); replace HB := hB hb; (try clear hb); (try clear hb2); (try clear hk); (try clear hi); (try clear ho0); obtain ⟨Ao11, co11, eo11⟩ := Kd.R_slice HO731.out; subst eo11) | ((with_reducible refine gate_builtin (b := .append) (xs := #[.tmp 12, .tmp 15]) rfl ?_); at_builtin; refine Kd.S_append k45 (w0 := w) w.heap.size rfl (.tmp 12) (.tmp 15) 24 45 (.agg #[(.slice none 0 0), (.int .i64 0), (.int .i64 0), (.int .i64 0), (.int .i64 0), (.int .i64 0)]) 64 rfl Try.underlying24 info45 rfl (by decide) (by omega) u3 x3_1 (⟨t729, t732, (⟨t733, t734, t735, t736⟩ : S43)⟩ : S45) [.slice Ao11 t729.length co11, .int .i64 t732, .int .i64 t733, .int .i64 t734, .int .i64 t735, .int .i64 t736] (fun k_ => k_ ≠ gb728) (fun k_ => some k_ = (.slice Ao11 t729.length co11 : Value).ownBlock) rfl rfl ?aP (fun k_ hk_ => ((Kd.R_mono (ok' := fun k_ => ((fun k_ => k_ ≠ gb728)) k_ ∧ some k_ ≠ (u3 : Value).ownBlock) (Kd.R_types (Kd.R_apart' (HO731.out) (Kd.S_typed HO_3.out) (by decide)) BK728.out (by decide)) (fun k_ hk => ⟨hk.2, hk.1.2⟩))).1 k_ hk_.symm) ?aF ?aO ?aB ?aS ?aL ?_; (case aP => exact k45_mkM _ _ _ (⟨t729, t732, (⟨t733, t734, t735, t736⟩ : S43)⟩ : S45) (Kd.R_mono (Kd.R_tight rfl (Kd.R_mono (ok' := fun k_ => ((fun k_ => k_ ≠ gb728)) k_ ∧ some k_ ≠ (u3 : Value).ownBlock) (Kd.R_types (Kd.R_apart' (HO731.out) (Kd.S_typed HO_3.out) (by decide)) BK728.out (by decide)) (fun k_ hk => ⟨hk.2, hk.1.2⟩))) (fun _ h_ => h_))); (case aB => exact bS); (case aF => exact (fun k_ hk => Kd.freshB (g := gb728) kS k_ hk)); (case aO => exact (by exact sT (Kd.S_mono HO_3.out (fun k_ hk => ⟨hk.1.2, fun e_ => hk.2 e_⟩)))); (case aS => exact (below_size bS)); (case aL => have := LMc6.out; omega); intro v738 w10 ho hb hg hat; rw [← Ny737.out] at ho; have HO739 := Aside0.mk (ho); replace BK728 := Aside0.mk (blk_grown (g := gb728) kS hg (Kd.S_away HO_3.out (fun _ hk => hk.1.2))); replace HB := Aside0.mk (hb); clear HO_3 HO731; clear ho hb hg hat))
    go_roundg k1
    case measure => have := HK1.out; omega
    case rel => exact ⟨(y737), (wrap64 (x8_1 + 1)), fS, H', ⟨by have := HK1.out; omega⟩, ⟨by exact sT (Kd.S_mono HO739.out (fun _ hk => trivial))⟩, ⟨bS⟩⟩
   ·obtain rfl := Option.some.inj H
    go_wp2
    go_ret
    exact ⟨_, eS, sS HO_3, bS⟩

/-! ### impl_copyBand: function 133 -/
def impl_copyBand.f (k : Nat) (a0_0 : Int) (a0_1 : Int) (l0_2 : List (List Int)) (l0_3 : List (S45)) : Option (Int × Int × (List (List Int)) × (List (S45))) := (impl_copyRows.f k l0_2).bind fun t742 => ((impl_copyObjects.f k l0_3).bind fun t745 => (some (a0_0, a0_1, t742, t745)))
def impl_copyBand.T1 : Bool × List (List Nat × List Nat) := (true, [([], []), ([0], [0]), ([1], [1]), ([], []), ([3], [3]), ([4, 2], [4]), ([0, 1, 2, 3, 4], []), ([6, 2, 5, 0, 1, 2, 3, 4], [2, 6]), ([0, 1, 2, 3, 4, 5, 6, 7], []), ([8, 5, 7, 0, 1, 2, 3, 4, 5, 6, 7], [5, 8])])
def impl_copyBand.B1 : List Nat := [0, 1, 3, 0, 8, 31, 31, 127, 255, 511]
theorem impl_copyBand.tab1 : rtab .any (opsOf Try.f133 1) = impl_copyBand.T1 := by kernel_rfl
theorem impl_copyBand.bits1 : waitsOk impl_copyBand.T1.2 impl_copyBand.B1 = true := by kernel_rfl
theorem impl_copyBand.calls (k : Nat) (a0_0 : Int) (a0_1 : Int) (A0_2 : Option Addr) (c0_2 : Nat) (l0_2 : List (List Int)) (A0_3 : Option Addr) (c0_3 : Nat) (l0_3 : List (S45)) (r1 : Int) (r2 : Int) (r3 : List (List Int)) (r4 : List (S45)) (w : World) (hr0_2 : Kd.C (Kd.slice 3 (Kd.int .i64)) w A0_2 l0_2.length l0_2) (hc0_2 : l0_2.length ≤ c0_2) (hr0_3 : Kd.C k45 w A0_3 l0_3.length l0_3) (hc0_3 : l0_3.length ≤ c0_3) (h : impl_copyBand.f k a0_0 a0_1 l0_2 l0_3 = some (r1, r2, r3, r4)) :
  Calls Try.prog 133 #[.agg #[.int .i64 a0_0, .int .i64 a0_1, .slice A0_2 l0_2.length c0_2, .slice A0_3 l0_3.length c0_3]] w fun e w' => ∃ v2_ v3_ : Value, e = .returned (.agg #[.int .i64 r1, .int .i64 r2, v2_, v3_]) ∧ Kd.S (Kd.slice 3 (Kd.int .i64)) 71 w' w.heap.size (fun _ => True) v2_ r3 ∧ Kd.S k45 45 w' w.heap.size (fun _ => True) v3_ r4 ∧ Below w.heap.size w w' := by
 have hu58 := Try.underlying58
 have HR0_2 := Aside0.mk hr0_2
 have HC0_2 := Aside0.mk hc0_2
 clear hr0_2 hc0_2
 have HR0_3 := Aside0.mk hr0_3
 have HC0_3 := Aside0.mk hc0_3
 clear hr0_3 hc0_3
 have HB := Aside0.mk (Below.refl w.heap.size w)
 have H : ((impl_copyRows.f k l0_2).bind fun t742 => ((impl_copyObjects.f k l0_3).bind fun t745 => (some (a0_0, a0_1, t742, t745)))) = some (r1, r2, r3, r4) := h
 clear h
 replace H := bN H
 obtain ⟨t742, A2, H⟩ := H
 replace H := bN H
 obtain ⟨t745, A3, H⟩ := H
 obtain ⟨rfl, rfl, rfl, rfl⟩ := sI4 H
 go_enter Try.func133, Try.ntmps133
 try go_wp2_with (first | ((with_reducible refine gD 1 ?_); refine bxE #[.int .i64 a0_0, .int .i64 a0_1, .slice A0_2 l0_2.length c0_2, .slice A0_3 l0_3.length c0_3] 58 ?_; intro gb740 hg w4 BK740 hb; have GW740 := gE hg; have GE740 := gE hg; replace HB := hB hb; clear hb hg) | ((with_reducible refine gD 2 ?_); refine bxE #[.int .i64 0, .int .i64 0, .slice none 0 0, .slice none 0 0] 58 ?_; intro gb741 hg w5 BK741 hb; have GW741 := gE hg; have GE741 := gE hg; have NB740_741 := nL (g := gb740) hg; have NB741_740 := nG (g := gb740) hg; replace BK740 := kB (g := gb740) hb; replace HB := hB hb; clear hb hg))
 replace BK740 := Aside0.mk (blk_drew BK740.out)
 replace BK741 := Aside0.mk (blk_drew BK741.out)
 replace HB := Aside0.mk (below_drew1 HB.out)
 refine start_ (n := 10) (S := fun w' => w'.cell? ⟨gb740, 0, none⟩ = some (.int .i64 a0_0) ∧ w'.cell? ⟨gb740, 1, none⟩ = some (.int .i64 a0_1) ∧ w'.cell? ⟨gb740, 2, none⟩ = some (.slice A0_2 l0_2.length c0_2) ∧ w'.cell? ⟨gb740, 3, none⟩ = some (.slice A0_3 l0_3.length c0_3)) (ds := [7, 9]) #[false, false, false, false, false, false, false, false, false, false] (by kernel_rfl) rfl rfl (cy4 BK740) (fun hHeld => ?_); refine with_tabW impl_copyBand.tab1 impl_copyBand.bits1 (fun HT_ HW_ => ?_)
 generalize w5.drew = w6 at BK740 BK741 HB hHeld ⊢
 refine pU 0 (some 3) #[true, false, false, false, false, false, false, false, false, false] ?_
 refine pU 3 (some 6) #[true, false, false, true, false, false, false, false, false, false] ?_
 refine tK 1 (some 4) #[true, true, false, true, false, false, false, false, false, false] ?_
 refine tK 4 (some 7) #[true, true, false, true, true, false, false, false, false, false] ?_
 refine one_ (i := 2) (N := some 5) #[true, true, true, true, true, false, false, false, false, false] rfl rfl (one_of HT_.out (by kernel_rfl)) (by decide) (fun K hK => ?_)
 refine goes_ Try.func125 (by kernel_rfl) rfl #[.slice A0_2 l0_2.length c0_2] (by rfl) rfl rfl (by (try simp only [List.map_toArray, List.map_cons, List.map_nil]); first | done | rfl | (simp only [List.length_drop, List.length_take]; rfl)) ?_
 with_reducible refine (impl_copyRows.calls k _ _ l0_2 t742 _ ?side1 ?side2 A2.out).mono ?_
 (case side1 => exact cS (Kd.C_below HR0_2.out HB.out))
 (case side2 => exact HC0_2.out)
 rintro e w7 ⟨v743, rfl, ho0, hb⟩
 refine ⟨_, rfl, ?_⟩
 have HO744 := Aside0.mk (Kd.S_lower ho0 (below_size bS))
 replace BK740 := kB (g := gb740) hb
 replace BK741 := kB (g := gb741) hb
 replace HB := hB hb
 (try clear hb)
 (try clear hb2)
 (try clear hk)
 (try clear hi)
 (try clear ho0)
 refine hK.out _ _ (cy4 BK740) (fun hHeld => ?_)
 clear hK K
 refine norm_ (a' := ?_) ?_ ?_
 rotate_left
 ·show Act.put _ (some 5) _ = _
  simp only [Act.put, List.setIfInBounds_toArray, List.set_cons_zero, List.set_cons_succ, i64_w, i32_w]
  rfl
 refine pU 6 (some 9) #[true, true, true, true, true, false, true, false, false, false] ?_
 refine one_ (i := 5) (N := some 8) #[true, true, true, true, true, true, true, false, false, false] rfl rfl (one_of HT_.out (by kernel_rfl)) (by decide) (fun K hK => ?_)
 refine goes_ Try.func172 (by kernel_rfl) rfl #[.slice A0_3 l0_3.length c0_3] (by rfl) rfl rfl (by (try simp only [List.map_toArray, List.map_cons, List.map_nil]); first | done | rfl | (simp only [List.length_drop, List.length_take]; rfl)) ?_
 with_reducible refine (impl_copyObjects.calls k _ _ l0_3 t745 _ ?side1 ?side2 A3.out).mono ?_
 (case side1 => exact cS (Kd.C_below HR0_3.out HB.out))
 (case side2 => exact HC0_3.out)
 rintro e w8 ⟨v746, rfl, ho0, hb⟩
 refine ⟨_, rfl, ?_⟩
 have HO747 := Aside0.mk (Kd.S_lower ho0 (below_size bS))
 replace HO744 := sB HO744 hb
 replace BK740 := kB (g := gb740) hb
 replace BK741 := kB (g := gb741) hb
 replace HB := hB hb
 (try clear hb)
 (try clear hb2)
 (try clear hk)
 (try clear hi)
 (try clear ho0)
 obtain ⟨Ao9, co9, eo9⟩ := Kd.S_slice HO744.out
 (first | subst eo9 | (injection eo9 with f1_ f2_ f3_; have f4_ := f1_.symm; have f5_ := f3_.symm; clear f1_ f2_ f3_; subst f4_; subst f5_))
 obtain ⟨Ao11, co11, eo11⟩ := Kd.S_slice HO747.out
 (first | subst eo11 | (injection eo11 with f1_ f2_ f3_; have f4_ := f1_.symm; have f5_ := f3_.symm; clear f1_ f2_ f3_; subst f4_; subst f5_))
 refine hK.out _ _ (cy4 BK740) (fun hHeld => ?_)
 clear hK K
 refine norm_ (a' := ?_) ?_ ?_
 rotate_left
 ·show Act.put _ (some 8) _ = _
  simp only [Act.put, List.setIfInBounds_toArray, List.set_cons_zero, List.set_cons_succ, i64_w, i32_w]
  rfl
 refine last_ (i := 7) (N := none) #[true, true, true, true, true, true, true, true, false, false] rfl rfl (one_of HT_.out (by kernel_rfl)) (by decide) (fun K hK => ?_)
 have hs10 : w8.cell? ⟨gb740, 2, none⟩ = some (.slice A0_2 l0_2.length c0_2) := (blk_cell BK740.out 2).trans rfl
 have hfs10 := blk_frozen BK740.out 2
 have hns10_1 := NB741_740.out
 have hms10_1 := NB740_741.out
 refine skip_ (w1 := ?_) (by rfl) rfl ?_ ?_
 rotate_left
 ·go_simp
  rfl
 refine hK.out _ _ ?_
 clear hK K
 refine pU 8 (some 10) #[true, true, true, true, true, true, true, true, true, false] ?_
 refine last_ (i := 9) (N := none) #[true, true, true, true, true, true, true, true, true, true] rfl rfl (one_of HT_.out (by kernel_rfl)) (by decide) (fun K hK => ?_)
 have hs12 : w8.cell? ⟨gb740, 3, none⟩ = some (.slice A0_3 l0_3.length c0_3) := (blk_cell BK740.out 3).trans rfl
 have hfs12 := blk_frozen BK740.out 3
 have hns12_1 := NB741_740.out
 have hms12_1 := NB740_741.out
 refine skip_ (w1 := ?_) (by rfl) rfl ?_ ?_
 rotate_left
 ·go_simp
  rfl
 refine hK.out _ _ ?_
 clear hK K
 refine done_ (done_of HT_.out (by kernel_rfl)) ?_
 have hnb13 := NB740_741.out
 have hnc13 := NB741_740.out
 have hz14 := cz4 BK740
 have hz15 := cz4 BK741
 try go_wp2
 refine bodyPost_ret (results_cell_row rfl _ _ gb741 58 #[.int .i64 a0_0, .int .i64 a0_1, .slice Ao9 t742.length co9, .slice Ao11 t745.length co11] (0, 0) _ rfl kS Try.underlying58 rfl (by kernel_rfl)) rfl ?_
 exact ⟨_, _, eS, by exact sT (Kd.S_mono (Kd.S_far (p := ⟨gb741, 3, none⟩) (Kd.S_far (p := ⟨gb741, 2, none⟩) (Kd.S_far (p := ⟨gb741, 1, none⟩) (Kd.S_far (p := ⟨gb741, 0, none⟩) (Kd.S_far (p := ⟨gb740, 3, none⟩) (Kd.S_far (p := ⟨gb740, 2, none⟩) (Kd.S_types (Kd.S_types HO744.out BK740.out (by decide)) BK741.out (by decide)) (fun _ hk => hk.1.2) (.slice Ao9 t742.length co9)) (fun _ hk => hk.1.2) (.slice Ao11 t745.length co11)) (fun _ hk => hk.2) (.int .i64 a0_0)) (fun _ hk => hk.2) (.int .i64 a0_1)) (fun _ hk => hk.2) (.slice Ao9 t742.length co9)) (fun _ hk => hk.2) (.slice Ao11 t745.length co11)) (fun _ hk => trivial)), by exact sT (Kd.S_mono (Kd.S_far (p := ⟨gb741, 3, none⟩) (Kd.S_far (p := ⟨gb741, 2, none⟩) (Kd.S_far (p := ⟨gb741, 1, none⟩) (Kd.S_far (p := ⟨gb741, 0, none⟩) (Kd.S_far (p := ⟨gb740, 3, none⟩) (Kd.S_far (p := ⟨gb740, 2, none⟩) (Kd.S_types (Kd.S_types HO747.out BK740.out (by decide)) BK741.out (by decide)) (fun _ hk => hk.1.2) (.slice Ao9 t742.length co9)) (fun _ hk => hk.1.2) (.slice Ao11 t745.length co11)) (fun _ hk => hk.2) (.int .i64 a0_0)) (fun _ hk => hk.2) (.int .i64 a0_1)) (fun _ hk => hk.2) (.slice Ao9 t742.length co9)) (fun _ hk => hk.2) (.slice Ao11 t745.length co11)) (fun _ hk => trivial)), bS⟩

/-! ### impl_MergeBand: function 62 -/
def impl_MergeBand.l0 : Nat → List (S45) → Int → Int → Int → Int → List (List Int) → List (S45) → Option (Int × Int × (List (List Int)) × (List (S45)))
 | 0, _, _, _, _, _, _, _ => none
 | k + 1, x13, x14, x15, x759000, x759001, x759002, x759003 => if x15 < x14 then (if 0 ≤ x15 then (if x15 < (x13.length : Int) then ((impl_paint.f k x759002 (wrap64 (x759000 * x759001)) ((rd_T45 x13 x15).f0) ((rd_T45 x13 x15).f1) ((rd_T45 x13 x15).f2.f0) ((rd_T45 x13 x15).f2.f1) ((rd_T45 x13 x15).f2.f2) ((rd_T45 x13 x15).f2.f3)).bind fun t762 => (impl_MergeBand.l0 k x13 x14 (wrap64 (x15 + 1)) x759000 x759001 t762 x759003)) else (none)) else (none)) else (some (x759000, x759001, x759002, ([] : List (S45))))
def impl_MergeBand.f (k : Nat) (a0_0 : Int) (a0_1 : Int) (l0_2 : List (List Int)) (l0_3 : List (S45)) : Option (Int × Int × (List (List Int)) × (List (S45))) := (impl_copyBand.f k a0_0 a0_1 l0_2 l0_3).bind fun bt750 => ((impl_BandOk.f k a0_0 a0_1 l0_2 l0_3).bind fun t759 => (if t759 = true then (impl_MergeBand.l0 k bt750.2.2.2 (bt750.2.2.2.length : Int) 0 bt750.1 bt750.2.1 bt750.2.2.1 bt750.2.2.2) else (some (bt750.1, bt750.2.1, bt750.2.2.1, bt750.2.2.2))))
theorem impl_MergeBand.calls (k : Nat) (a0_0 : Int) (a0_1 : Int) (A0_2 : Option Addr) (c0_2 : Nat) (l0_2 : List (List Int)) (A0_3 : Option Addr) (c0_3 : Nat) (l0_3 : List (S45)) (r1 : Int) (r2 : Int) (r3 : List (List Int)) (r4 : List (S45)) (w : World) (hr0_2 : Kd.C (Kd.slice 3 (Kd.int .i64)) w A0_2 l0_2.length l0_2) (hc0_2 : l0_2.length ≤ c0_2) (hr0_3 : Kd.C k45 w A0_3 l0_3.length l0_3) (hc0_3 : l0_3.length ≤ c0_3) (h : impl_MergeBand.f k a0_0 a0_1 l0_2 l0_3 = some (r1, r2, r3, r4)) :
  Calls Try.prog 62 #[.agg #[.int .i64 a0_0, .int .i64 a0_1, .slice A0_2 l0_2.length c0_2, .slice A0_3 l0_3.length c0_3]] w fun e w' => ∃ v2_ v3_ : Value, e = .returned (.agg #[.int .i64 r1, .int .i64 r2, v2_, v3_]) ∧ Kd.S (Kd.slice 3 (Kd.int .i64)) 71 w' w.heap.size (fun _ => True) v2_ r3 ∧ Kd.S k45 45 w' w.heap.size (fun _ => True) v3_ r4 ∧ Below w.heap.size w w' := by
 have hu58 := Try.underlying58
 have hu45 := Try.underlying45
 have HR0_2 := Aside0.mk hr0_2
 have HC0_2 := Aside0.mk hc0_2
 clear hr0_2 hc0_2
 have HR0_3 := Aside0.mk hr0_3
 have HC0_3 := Aside0.mk hc0_3
 clear hr0_3 hc0_3
 have HB := Aside0.mk (Below.refl w.heap.size w)
 have H : ((impl_copyBand.f k a0_0 a0_1 l0_2 l0_3).bind fun bt750 => ((impl_BandOk.f k a0_0 a0_1 l0_2 l0_3).bind fun t759 => (if t759 = true then (impl_MergeBand.l0 k bt750.2.2.2 (bt750.2.2.2.length : Int) 0 bt750.1 bt750.2.1 bt750.2.2.1 bt750.2.2.2) else (some (bt750.1, bt750.2.1, bt750.2.2.1, bt750.2.2.2))))) = some (r1, r2, r3, r4) := h
 clear h
 replace H := bN H
 obtain ⟨⟨t750, t751, t752, t755⟩, A2, H⟩ := H
 replace H := bN H
 obtain ⟨t759, A3, H⟩ := H
 by_cases c4 : t759 = true
 ·subst c4
  rw [if_pos rfl] at H
  have H' := Aside0.mk H
  clear H
  go_enter Try.func62, Try.ntmps62
  go_wp2_with (first | ((with_reducible refine gD 1 ?_); refine bxE #[.int .i64 a0_0, .int .i64 a0_1, .slice A0_2 l0_2.length c0_2, .slice A0_3 l0_3.length c0_3] 58 ?_; intro gb748 hg w5 BK748 hb; have GW748 := gE hg; have GE748 := gE hg; replace HB := hB hb; clear hb hg) | ((with_reducible refine gD 2 ?_); refine bxE #[.int .i64 0, .int .i64 0, .slice none 0 0, .slice none 0 0] 58 ?_; intro gb749 hg w6 BK749 hb; have GW749 := gE hg; have GE749 := gE hg; have NB748_749 := nL (g := gb748) hg; have NB749_748 := nG (g := gb748) hg; replace BK748 := kB (g := gb748) hb; replace HB := hB hb; clear hb hg; have hnb7 := NB748_749.out; have hnc7 := NB749_748.out; have hcz8_0 : w6.cell? ⟨gb748, 0, none⟩ = some (.int .i64 a0_0) := (blk_cell BK748.out 0).trans rfl; have hcz8_1 : w6.cell? ⟨gb748, 1, none⟩ = some (.int .i64 a0_1) := (blk_cell BK748.out 1).trans rfl; have hcz8_2 : w6.cell? ⟨gb748, 2, none⟩ = some (.slice A0_2 l0_2.length c0_2) := (blk_cell BK748.out 2).trans rfl; have hcz8_3 : w6.cell? ⟨gb748, 3, none⟩ = some (.slice A0_3 l0_3.length c0_3) := (blk_cell BK748.out 3).trans rfl; have hfz8_0 := blk_frozen BK748.out 0; have hfz8_1 := blk_frozen BK748.out 1; have hfz8_2 := blk_frozen BK748.out 2; have hfz8_3 := blk_frozen BK748.out 3) | ((with_reducible refine gC 133 ?_); refine cL (some 7) Try.func133 #[.agg #[.int .i64 a0_0, .int .i64 a0_1, .slice A0_2 l0_2.length c0_2, .slice A0_3 l0_3.length c0_3]] ?_; (with_reducible refine (impl_copyBand.calls k a0_0 a0_1 _ _ l0_2 _ _ l0_3 t750 t751 t752 t755 _ (cS (Kd.C_below HR0_2.out HB.out)) HC0_2.out (cS (Kd.C_below HR0_3.out HB.out)) HC0_3.out A2.out).mono ?_); rintro e w9 ⟨v753, v756, rfl, ho0, ho1, hb⟩; refine ⟨_, rfl, ?_⟩; have HO754 := Aside0.mk (Kd.S_lower ho0 (below_size bS)); have HO757 := Aside0.mk (Kd.S_lower ho1 (below_size bS)); replace BK748 := kB (g := gb748) hb; replace BK749 := kB (g := gb749) hb; replace HB := hB hb; (try clear hb); (try clear hb2); (try clear hk); (try clear hi); (try clear ho0); (try clear ho1)) | ((with_reducible refine gD 3 ?_); refine bxE #[.int .i64 0, .int .i64 0, .slice none 0 0, .slice none 0 0] 58 ?_; intro gb758 hg w10 BK758 hb; have GW758 := gE hg; have GE758 := gE hg; have NB748_758 := nL (g := gb748) hg; have NB758_748 := nG (g := gb748) hg; have NB749_758 := nL (g := gb749) hg; have NB758_749 := nG (g := gb749) hg; replace HO754 := sB HO754 hb; replace HO757 := sB HO757 hb; replace BK748 := kB (g := gb748) hb; replace BK749 := kB (g := gb749) hb; replace HB := hB hb; clear hb hg; have hnb11 := NB758_748.out; have hnc11 := NB748_758.out; have hnb12 := NB758_749.out; have hnc12 := NB749_758.out; have hcz13_0 : w10.cell? ⟨gb758, 0, none⟩ = some (.int .i64 0) := (blk_cell BK758.out 0).trans rfl; have hcz13_1 : w10.cell? ⟨gb758, 1, none⟩ = some (.int .i64 0) := (blk_cell BK758.out 1).trans rfl; have hcz13_2 : w10.cell? ⟨gb758, 2, none⟩ = some (.slice none 0 0) := (blk_cell BK758.out 2).trans rfl; have hcz13_3 : w10.cell? ⟨gb758, 3, none⟩ = some (.slice none 0 0) := (blk_cell BK758.out 3).trans rfl; have hfz13_0 := blk_frozen BK758.out 0; have hfz13_1 := blk_frozen BK758.out 1; have hfz13_2 := blk_frozen BK758.out 2; have hfz13_3 := blk_frozen BK758.out 3; obtain ⟨Ao14, co14, eo14⟩ := Kd.S_slice HO754.out; subst eo14; obtain ⟨Ao15, co15, eo15⟩ := Kd.S_slice HO757.out; subst eo15; have hcz16_0 : w10.cell? ⟨gb748, 0, none⟩ = some (.int .i64 a0_0) := (blk_cell BK748.out 0).trans rfl; have hcz16_1 : w10.cell? ⟨gb748, 1, none⟩ = some (.int .i64 a0_1) := (blk_cell BK748.out 1).trans rfl; have hcz16_2 : w10.cell? ⟨gb748, 2, none⟩ = some (.slice A0_2 l0_2.length c0_2) := (blk_cell BK748.out 2).trans rfl; have hcz16_3 : w10.cell? ⟨gb748, 3, none⟩ = some (.slice A0_3 l0_3.length c0_3) := (blk_cell BK748.out 3).trans rfl; have hfz16_0 := blk_frozen BK748.out 0; have hfz16_1 := blk_frozen BK748.out 1; have hfz16_2 := blk_frozen BK748.out 2; have hfz16_3 := blk_frozen BK748.out 3) | ((with_reducible refine gC 35 ?_); refine cL (some 9) Try.func35 #[.agg #[.int .i64 a0_0, .int .i64 a0_1, .slice A0_2 l0_2.length c0_2, .slice A0_3 l0_3.length c0_3]] ?_; (with_reducible refine (impl_BandOk.calls k a0_0 a0_1 _ _ l0_2 _ _ l0_3 _ _ (Kd.C_below HR0_2.out bS) HC0_2.out (Kd.C_below HR0_3.out bS) HC0_3.out A3.out).mono ?_); rintro e w17 ⟨rfl, hb⟩; refine ⟨_, rfl, ?_⟩; replace HO754 := Aside0.mk (Kd.S_below (by exact sT (Kd.S_mono (Kd.S_far (p := ⟨gb758, 3, none⟩) (Kd.S_far (p := ⟨gb758, 2, none⟩) (Kd.S_far (p := ⟨gb758, 1, none⟩) (Kd.S_far (p := ⟨gb758, 0, none⟩) (Kd.S_types HO754.out BK758.out (by decide)) (fun _ hk => hk.2) (.int .i64 t750)) (fun _ hk => hk.2) (.int .i64 t751)) (fun _ hk => hk.2) (.slice Ao14 t752.length co14)) (fun _ hk => hk.2) (.slice Ao15 t755.length co15)) (fun _ h_ => h_.1))) hb); replace HO757 := Aside0.mk (Kd.S_below (by exact sT (Kd.S_mono (Kd.S_far (p := ⟨gb758, 3, none⟩) (Kd.S_far (p := ⟨gb758, 2, none⟩) (Kd.S_far (p := ⟨gb758, 1, none⟩) (Kd.S_far (p := ⟨gb758, 0, none⟩) (Kd.S_types HO757.out BK758.out (by decide)) (fun _ hk => hk.2) (.int .i64 t750)) (fun _ hk => hk.2) (.int .i64 t751)) (fun _ hk => hk.2) (.slice Ao14 t752.length co14)) (fun _ hk => hk.2) (.slice Ao15 t755.length co15)) (fun _ h_ => h_.1))) hb); replace BK748 := kB (g := gb748) hb; replace BK749 := kB (g := gb749) hb; replace BK758 := Aside0.mk (blk_below (g := gb758) (o := .cells #[.int .i64 t750, .int .i64 t751, .slice Ao14 t752.length co14, .slice Ao15 t755.length co15] 58 (0, 0)) kS hb); replace HB := hB hb; (try clear hb); (try clear hb2); (try clear hk); (try clear hi); have hcz18_0 : w17.cell? ⟨gb758, 0, none⟩ = some (.int .i64 t750) := (blk_cell BK758.out 0).trans rfl; have hcz18_1 : w17.cell? ⟨gb758, 1, none⟩ = some (.int .i64 t751) := (blk_cell BK758.out 1).trans rfl; have hcz18_2 : w17.cell? ⟨gb758, 2, none⟩ = some (.slice Ao14 t752.length co14) := (blk_cell BK758.out 2).trans rfl; have hcz18_3 : w17.cell? ⟨gb758, 3, none⟩ = some (.slice Ao15 t755.length co15) := (blk_cell BK758.out 3).trans rfl; have hfz18_0 := blk_frozen BK758.out 0; have hfz18_1 := blk_frozen BK758.out 1; have hfz18_2 := blk_frozen BK758.out 2; have hfz18_3 := blk_frozen BK758.out 3))
  go_loopg [15] k (fun kq v15 w' => ∃ (x15_1 : Int) (x759002_1 : List (List Int)) (u759002 : Value), v15 = .int .i64 x15_1 ∧ Aside0 (impl_MergeBand.l0 kq t755 (t755.length : Int) x15_1 t750 t751 x759002_1 t755 = some (r1, r2, r3, r4)) ∧ Aside0 (kq ≤ k) ∧ Aside0 (Kd.S k45 45 w' w.heap.size (fun _ => True) (.slice Ao15 t755.length co15) t755) ∧ Aside0 (Kd.S (Kd.slice 3 (Kd.int .i64)) 71 w' w.heap.size (fun _ => True) u759002 x759002_1) ∧ Aside0 (Kd.S k45 45 w' w.heap.size (fun _ => True) (.slice Ao15 t755.length co15) t755) ∧ Aside0 (w'.heap[gb748]? = some (.cells #[.int .i64 a0_0, .int .i64 a0_1, (.slice A0_2 l0_2.length c0_2), (.slice A0_3 l0_3.length c0_3)] 58 (0, 0))) ∧ Aside0 (w'.heap[gb749]? = some (.cells #[.int .i64 0, .int .i64 0, (.slice none 0 0), (.slice none 0 0)] 58 (0, 0))) ∧ Aside0 (w'.heap[gb758]? = some (.cells #[.int .i64 t750, .int .i64 t751, u759002, (.slice Ao15 t755.length co15)] 58 (0, 0))) ∧ Aside0 (Below w.heap.size w w'))
  case atStart => exact ⟨(0), (t752), (.slice Ao14 t752.length co14), fS, H', ⟨Nat.le_refl _⟩, ⟨sS HO757⟩, ⟨sS HO754⟩, ⟨sS HO757⟩, ⟨kS⟩, ⟨kS⟩, ⟨kS⟩, ⟨bS⟩⟩
  case round =>
   clear H'
   try clear c1
   try clear p2
   try clear c3
   try clear c4
   try clear c6
   try clear c7
   try clear c11
   try clear c12
   try clear c13
   try clear hcz13_0
   try clear hcz13_1
   try clear hcz13_2
   try clear hcz13_3
   try clear hcz16_0
   try clear hcz16_1
   try clear hcz16_2
   try clear hcz16_3
   try clear hcz18_0
   try clear hcz18_1
   try clear hcz18_2
   try clear hcz18_3
   try clear hcz8_0
   try clear hcz8_1
   try clear hcz8_2
   try clear hcz8_3
   try clear hfz13_0
   try clear hfz13_1
   try clear hfz13_2
   try clear hfz13_3
   try clear hfz16_0
   try clear hfz16_1
   try clear hfz16_2
   try clear hfz16_3
   try clear hfz18_0
   try clear hfz18_1
   try clear hfz18_2
   try clear hfz18_3
   try clear hfz8_0
   try clear hfz8_1
   try clear hfz8_2
   try clear hfz8_3
   obtain ⟨x15_1, x759002_1, u759002, rfl, HA, HK1, HO_13, HO_759002, HO_759003, BK748, BK749, BK758, HB⟩ := hrel
   cases gk with
   | zero => exact absurd HA.out (by simp [impl_MergeBand.l0])
   | succ k1 =>
    have H := HA.out
    clear HA
    simp only [impl_MergeBand.l0] at H
    rcases iD H with ⟨c19b0, H⟩ | ⟨c19b0, H⟩
    ·obtain ⟨c20b0, H⟩ := iT H
     obtain ⟨c21b0, H⟩ := iT H
     replace H := bN H
     obtain ⟨t762, A22, H⟩ := H
     have H' := Aside0.mk H
     clear H
     have p760 : 0 ≤ (x15_1 : Int) := dA
     have q760 : x15_1 < (t755.length : Int) := dA
     obtain ⟨ad760, A760_0, c760_0, e760, hx760_0, hx760_1, hx760_2, hx760_3, hx760_4, hx760_5, hl760_0, hi760_0⟩ := at_T45 (Kd.S_reads' HO_13.out).2.2 x15_1 p760 q760
     cases e760
     obtain ⟨ce760, hce760, hMe760, hcc760⟩ := Kd.S_get HO_13.out z45 x15_1 p760 (by first | exact q760 | exact dA | (have e_ := (Kd.S_reads' HO_13.out).1; omega))
     obtain ⟨ve760_0, rfl, ge760_0⟩ := k45_openM hMe760
     have hv760_0 := hcc760 0 _ rfl
     rw [Nat.add_zero] at hv760_0
     replace hv760_0 := Option.some.inj (hv760_0.symm.trans hx760_0)
     rw [hv760_0] at ge760_0
     have HL760_0 := Aside0.mk (show Kd.R k171 171 _ _ _ _ ((rd_T45 t755 x15_1).f0) from ge760_0)
     clear hv760_0 ge760_0
     clear hcc760 hce760
     have HR760_0 := Aside0.mk hi760_0
     have HC760_0 := Aside0.mk hl760_0
     clear hi760_0 hl760_0
     replace p760 := eq_true p760
     replace q760 := eq_true q760
     go_wp2_with (first | ((with_reducible refine gD 5 ?_); refine bxE #[.slice none 0 0, .int .i64 0, .int .i64 0, .int .i64 0, .int .i64 0, .int .i64 0] 45 ?_; intro gb761 hg w23 BK761 hb; have GW761 := gE hg; have GE761 := gE hg; have NB748_761 := nL (g := gb748) hg; have NB761_748 := nG (g := gb748) hg; have NB749_761 := nL (g := gb749) hg; have NB761_749 := nG (g := gb749) hg; have NB758_761 := nL (g := gb758) hg; have NB761_758 := nG (g := gb758) hg; replace HO_13 := Aside0.mk (Kd.S_below (Kd.S_elderB (sS HO_13) gb761 (Nat.le_of_eq hg.symm)) hb); replace HO_759002 := sB HO_759002 hb; replace HO_759003 := Aside0.mk (Kd.S_below (Kd.S_elderB (sS HO_759003) gb761 (Nat.le_of_eq hg.symm)) hb); replace HL760_0 := Aside0.mk (Kd.R_below (rS HL760_0) hb); replace BK748 := kB (g := gb748) hb; replace BK749 := kB (g := gb749) hb; replace BK758 := kB (g := gb758) hb; replace HR760_0 := Aside0.mk (Kd.C_below (by repeat (first | (with_reducible exact HR760_0.out) | (with_reducible refine Kd.C_alloc ?_ _) | (with_reducible refine Kd.C_drewN ?_ _) | (with_reducible refine Kd.C_drew ?_) | exact HR760_0.out)) hb); replace HB := hB hb; clear hb hg; have hnb24 := NB761_748.out; have hnc24 := NB748_761.out; have hnb25 := NB761_749.out; have hnc25 := NB749_761.out; have hnb26 := NB761_758.out; have hnc26 := NB758_761.out; have hz27 := cz6 BK761) | ((with_reducible refine gate_store (t := 45) (p := 5) rfl ?_); refine store_event (t := 45) (p := 5) (v := ?vo_w28) (w1 := ((((((w23.setCell ⟨gb761, 0, none⟩ (.slice A760_0 ((rd_T45 t755 x15_1).f0).length c760_0)).setCell ⟨gb761, 1, none⟩ (.int .i64 ((rd_T45 t755 x15_1).f1))).setCell ⟨gb761, 2, none⟩ (.int .i64 ((rd_T45 t755 x15_1).f2.f0))).setCell ⟨gb761, 3, none⟩ (.int .i64 ((rd_T45 t755 x15_1).f2.f1))).setCell ⟨gb761, 4, none⟩ (.int .i64 ((rd_T45 t755 x15_1).f2.f2))).setCell ⟨gb761, 5, none⟩ (.int .i64 ((rd_T45 t755 x15_1).f2.f3)))) ?hg ?ho ?hn ?hr ?_; (case ho => rfl); (case hg => rfl); (case hn => rfl); (case hr => first | (go_simp; done) | (go_simp; rfl)); intro w28 hw; replace HO_13 : Aside0 (Kd.S k45 45 w28 w.heap.size (fun k_ => k_ ≠ gb761) (.slice (some ad760) t755.length co15) t755) := ⟨(by rw [hw]; exact (by exact sT (Kd.S_mono (Kd.S_far (p := ⟨gb761, 5, none⟩) (Kd.S_far (p := ⟨gb761, 4, none⟩) (Kd.S_far (p := ⟨gb761, 3, none⟩) (Kd.S_far (p := ⟨gb761, 2, none⟩) (Kd.S_far (p := ⟨gb761, 1, none⟩) (Kd.S_far (p := ⟨gb761, 0, none⟩) (Kd.S_mono HO_13.out (fun k_ hk => (⟨hk, hk.2⟩ : _ ∧ k_ ≠ gb761))) (fun _ hk => hk.2) (.slice A760_0 ((rd_T45 t755 x15_1).f0).length c760_0)) (fun _ hk => hk.2) (.int .i64 ((rd_T45 t755 x15_1).f1))) (fun _ hk => hk.2) (.int .i64 ((rd_T45 t755 x15_1).f2.f0))) (fun _ hk => hk.2) (.int .i64 ((rd_T45 t755 x15_1).f2.f1))) (fun _ hk => hk.2) (.int .i64 ((rd_T45 t755 x15_1).f2.f2))) (fun _ hk => hk.2) (.int .i64 ((rd_T45 t755 x15_1).f2.f3))) (fun _ hk => hk.1.2))))⟩; replace HO_759002 : Aside0 (Kd.S (Kd.slice 3 (Kd.int .i64)) 71 w28 w.heap.size (fun _ => True) u759002 x759002_1) := ⟨(by rw [hw]; exact (by exact sT (Kd.S_mono (Kd.S_far (p := ⟨gb761, 5, none⟩) (Kd.S_far (p := ⟨gb761, 4, none⟩) (Kd.S_far (p := ⟨gb761, 3, none⟩) (Kd.S_far (p := ⟨gb761, 2, none⟩) (Kd.S_far (p := ⟨gb761, 1, none⟩) (Kd.S_far (p := ⟨gb761, 0, none⟩) (Kd.S_types HO_759002.out BK761.out (by decide)) (fun _ hk => hk.2) (.slice A760_0 ((rd_T45 t755 x15_1).f0).length c760_0)) (fun _ hk => hk.2) (.int .i64 ((rd_T45 t755 x15_1).f1))) (fun _ hk => hk.2) (.int .i64 ((rd_T45 t755 x15_1).f2.f0))) (fun _ hk => hk.2) (.int .i64 ((rd_T45 t755 x15_1).f2.f1))) (fun _ hk => hk.2) (.int .i64 ((rd_T45 t755 x15_1).f2.f2))) (fun _ hk => hk.2) (.int .i64 ((rd_T45 t755 x15_1).f2.f3))) (fun _ hk => trivial))))⟩; replace HO_759003 : Aside0 (Kd.S k45 45 w28 w.heap.size (fun k_ => k_ ≠ gb761) (.slice (some ad760) t755.length co15) t755) := ⟨(by rw [hw]; exact (by exact sT (Kd.S_mono (Kd.S_far (p := ⟨gb761, 5, none⟩) (Kd.S_far (p := ⟨gb761, 4, none⟩) (Kd.S_far (p := ⟨gb761, 3, none⟩) (Kd.S_far (p := ⟨gb761, 2, none⟩) (Kd.S_far (p := ⟨gb761, 1, none⟩) (Kd.S_far (p := ⟨gb761, 0, none⟩) (Kd.S_mono HO_759003.out (fun k_ hk => (⟨hk, hk.2⟩ : _ ∧ k_ ≠ gb761))) (fun _ hk => hk.2) (.slice A760_0 ((rd_T45 t755 x15_1).f0).length c760_0)) (fun _ hk => hk.2) (.int .i64 ((rd_T45 t755 x15_1).f1))) (fun _ hk => hk.2) (.int .i64 ((rd_T45 t755 x15_1).f2.f0))) (fun _ hk => hk.2) (.int .i64 ((rd_T45 t755 x15_1).f2.f1))) (fun _ hk => hk.2) (.int .i64 ((rd_T45 t755 x15_1).f2.f2))) (fun _ hk => hk.2) (.int .i64 ((rd_T45 t755 x15_1).f2.f3))) (fun _ hk => hk.1.2))))⟩; replace HL760_0 : Aside0 (Kd.R k171 171 w28 w.heap.size (fun k_ => some k_ ≠ (.slice (some ad760) t755.length co15 : Value).ownBlock) (.slice A760_0 ((rd_T45 t755 x15_1).f0).length c760_0) ((rd_T45 t755 x15_1).f0)) := ⟨(by rw [hw]; exact (by exact rT (Kd.R_mono (Kd.R_far (p := ⟨gb761, 5, none⟩) (Kd.R_far (p := ⟨gb761, 4, none⟩) (Kd.R_far (p := ⟨gb761, 3, none⟩) (Kd.R_far (p := ⟨gb761, 2, none⟩) (Kd.R_far (p := ⟨gb761, 1, none⟩) (Kd.R_far (p := ⟨gb761, 0, none⟩) (Kd.R_types HL760_0.out BK761.out (by decide)) (fun _ hk => hk.2) (.slice A760_0 ((rd_T45 t755 x15_1).f0).length c760_0)) (fun _ hk => hk.2) (.int .i64 ((rd_T45 t755 x15_1).f1))) (fun _ hk => hk.2) (.int .i64 ((rd_T45 t755 x15_1).f2.f0))) (fun _ hk => hk.2) (.int .i64 ((rd_T45 t755 x15_1).f2.f1))) (fun _ hk => hk.2) (.int .i64 ((rd_T45 t755 x15_1).f2.f2))) (fun _ hk => hk.2) (.int .i64 ((rd_T45 t755 x15_1).f2.f3))) (fun _ hk => hk.1.2))))⟩; replace BK748 : Aside0 (w28.heap[gb748]? = some (.cells #[.int .i64 a0_0, .int .i64 a0_1, .slice A0_2 l0_2.length c0_2, .slice A0_3 l0_3.length c0_3] 58 (0, 0))) := ⟨(by rw [hw]; exact kS)⟩; replace BK749 : Aside0 (w28.heap[gb749]? = some (.cells #[.int .i64 0, .int .i64 0, .slice none 0 0, .slice none 0 0] 58 (0, 0))) := ⟨(by rw [hw]; exact kS)⟩; replace BK758 : Aside0 (w28.heap[gb758]? = some (.cells #[.int .i64 t750, .int .i64 t751, u759002, .slice (some ad760) t755.length co15] 58 (0, 0))) := ⟨(by rw [hw]; exact kS)⟩; replace BK761 : Aside0 (w28.heap[gb761]? = some (.cells #[.slice A760_0 ((rd_T45 t755 x15_1).f0).length c760_0, .int .i64 ((rd_T45 t755 x15_1).f1), .int .i64 ((rd_T45 t755 x15_1).f2.f0), .int .i64 ((rd_T45 t755 x15_1).f2.f1), .int .i64 ((rd_T45 t755 x15_1).f2.f2), .int .i64 ((rd_T45 t755 x15_1).f2.f3)] 45 (0, 0))) := ⟨(by rw [hw]; exact kS)⟩; replace HB : Aside0 (Below w.heap.size w w28) := ⟨(by rw [hw]; exact bS)⟩; clear hw; have hnb29 := NB758_748.out; have hnc29 := NB748_758.out; have hnb30 := NB758_749.out; have hnc30 := NB749_758.out; have hz31 := cz4 BK758; have hz32 := cz6 BK761; obtain ⟨Ao33, co33, eo33⟩ := Kd.S_slice HO_759002.out; subst eo33) | ((with_reducible refine gC 75 ?_); refine cL (some 27) Try.func75 #[.slice Ao33 x759002_1.length co33, .int .i64 (wrap64 (t750 * t751)), .agg #[.slice A760_0 ((rd_T45 t755 x15_1).f0).length c760_0, .int .i64 ((rd_T45 t755 x15_1).f1), .int .i64 ((rd_T45 t755 x15_1).f2.f0), .int .i64 ((rd_T45 t755 x15_1).f2.f1), .int .i64 ((rd_T45 t755 x15_1).f2.f2), .int .i64 ((rd_T45 t755 x15_1).f2.f3)]] ?_; (with_reducible refine (impl_paint.calls k1 (fun k_ => w.heap.size ≤ k_ ∧ ∃ q_, q_ ∈ 71 :: (Kd.slice 3 (Kd.int .i64)).E ∧ ∃ c_, w28.heap[k_]? = some (.cells c_ q_ (0, 0))) (.slice Ao33 x759002_1.length co33) x759002_1 (wrap64 (t750 * t751)) _ _ ((rd_T45 t755 x15_1).f0) ((rd_T45 t755 x15_1).f1) ((rd_T45 t755 x15_1).f2.f0) ((rd_T45 t755 x15_1).f2.f1) ((rd_T45 t755 x15_1).f2.f2) ((rd_T45 t755 x15_1).f2.f3) t762 w _ ?side1 ?side2 ?side3 ?side4 A22.out).mono ?_); (case side1 => repeat (first | (with_reducible first | exact HB.out | apply below_alloc | apply pw_below_drewN | apply below_drew1 | refine below_set ?_ GE748.out | refine below_set ?_ GE749.out | refine below_set ?_ GE758.out | refine below_set ?_ GE761.out) | exact HB.out)); (case side2 => (with_reducible repeat (first | apply Kd.S_alloc | apply Kd.S_drewN | apply Kd.S_drew)); exact Kd.S_mono (Kd.S_bound HO_759002.out) (fun k_ h_ => ⟨h_.2.1, h_.2.2.2⟩)); (case side3 => exact Kd.C_kept_own ((R_not (fun k_ => w.heap.size ≤ k_ ∧ ∃ q_, q_ ∈ 71 :: (Kd.slice 3 (Kd.int .i64)).E ∧ ∃ c_, w28.heap[k_]? = some (.cells c_ q_ (0, 0))) HL760_0.out (fun k_ h_ e_ => typed_two h_.2.2.2 e_.2 (by decide)))) (fun k_ hk_ hs_ => (hk_.2) hs_)); (case side4 => exact HC760_0.out); rintro e w34 ⟨rfl, hy0, hb, hkp⟩; refine ⟨_, rfl, ?_⟩; replace HO_13 := Aside0.mk (Kd.S_mono (ok' := fun k_ => k_ ≠ gb761) (Kd.S_keptB ((S_not (fun k_ => w.heap.size ≤ k_ ∧ ∃ q_, q_ ∈ 71 :: (Kd.slice 3 (Kd.int .i64)).E ∧ ∃ c_, w28.heap[k_]? = some (.cells c_ q_ (0, 0))) HO_13.out (fun k_ h_ e_ => typed_two h_.2.2.2 e_.2 (by decide)))) hkp (fun k_ hk_ hs_ => (hk_.2) hs_)) (fun k_ hk_ => hk_.1.1)); replace HO_759002 := Aside0.mk (Kd.S_mono hy0 (fun _ _ => trivial)); replace HO_759003 := Aside0.mk (Kd.S_mono (ok' := fun k_ => k_ ≠ gb761) (Kd.S_keptB ((S_not (fun k_ => w.heap.size ≤ k_ ∧ ∃ q_, q_ ∈ 71 :: (Kd.slice 3 (Kd.int .i64)).E ∧ ∃ c_, w28.heap[k_]? = some (.cells c_ q_ (0, 0))) HO_759003.out (fun k_ h_ e_ => typed_two h_.2.2.2 e_.2 (by decide)))) hkp (fun k_ hk_ hs_ => (hk_.2) hs_)) (fun k_ hk_ => hk_.1.1)); replace BK748 := Aside0.mk (blk_kept (g := gb748) kS hkp (fun hs_ => (fun e_ => typed_one (by exact BK748.out) e_.2 (by decide)) hs_)); replace BK749 := Aside0.mk (blk_kept (g := gb749) kS hkp (fun hs_ => (fun e_ => typed_one (by exact BK749.out) e_.2 (by decide)) hs_)); replace BK758 := Aside0.mk (blk_kept (g := gb758) kS hkp (fun hs_ => (fun e_ => typed_one (by exact BK758.out) e_.2 (by decide)) hs_)); replace BK761 := Aside0.mk (blk_kept (g := gb761) kS hkp (fun hs_ => (fun e_ => typed_one (by exact BK761.out) e_.2 (by decide)) hs_)); replace HB := Aside0.mk (hb); clear HL760_0; (try clear hb); (try clear hkp); (try clear hy0)))
     go_roundg k1
     case measure => have := HK1.out; omega
     case rel => exact ⟨(wrap64 (x15_1 + 1)), (t762), (.slice Ao33 x759002_1.length co33), fS, H', ⟨by have := HK1.out; omega⟩, ⟨by exact sT (Kd.S_mono HO_13.out (fun _ hk => trivial))⟩, ⟨sS HO_759002⟩, ⟨by exact sT (Kd.S_mono HO_759003.out (fun _ hk => trivial))⟩, ⟨kS⟩, ⟨kS⟩, ⟨kS⟩, ⟨bS⟩⟩
    ·obtain ⟨rfl, rfl, rfl, rfl⟩ := sI4 H
     have hnb35 := NB758_748.out
     have hnc35 := NB748_758.out
     have hnb36 := NB758_749.out
     have hnc36 := NB749_758.out
     have hz37 := cz4 BK758
     have hnb38 := NB749_748.out
     have hnc38 := NB748_749.out
     have hz39 := cz4 BK749
     obtain ⟨Ao40, co40, eo40⟩ := Kd.S_slice HO_759002.out
     subst eo40
     go_wp2
     refine bodyPost_ret (results_cell_row rfl _ _ gb749 58 #[.int .i64 t750, .int .i64 t751, .slice Ao40 x759002_1.length co40, .slice none 0 0] (0, 0) _ rfl kS Try.underlying58 rfl (by kernel_rfl)) rfl ?_
     exact ⟨_, _, eS, by exact sT (Kd.S_mono (Kd.S_far (p := ⟨gb749, 3, none⟩) (Kd.S_far (p := ⟨gb749, 2, none⟩) (Kd.S_far (p := ⟨gb749, 1, none⟩) (Kd.S_far (p := ⟨gb749, 0, none⟩) (Kd.S_far (p := ⟨gb758, 3, none⟩) (Kd.S_types (Kd.S_types HO_759002.out BK758.out (by decide)) BK749.out (by decide)) (fun _ hk => hk.1.2) (.slice none 0 0)) (fun _ hk => hk.2) (.int .i64 t750)) (fun _ hk => hk.2) (.int .i64 t751)) (fun _ hk => hk.2) (.slice Ao40 x759002_1.length co40)) (fun _ hk => hk.2) (.slice none 0 0)) (fun _ hk => trivial)), by first | exact Kd.S_nil _ _ _ _ _ | exact Kd.N_nil _ _ _ _ _ | exact Kd.V_nil _ _ _ _ _ | exact Kd.Q_nil _ _ _ _ _ | exact Kd.R_nil _ _ _ _ _, bS⟩
 ·obtain rfl := Bool.eq_false_iff.mpr c4
  rw [if_neg nF] at H
  obtain ⟨rfl, rfl, rfl, rfl⟩ := sI4 H
  go_enter Try.func62, Try.ntmps62
  go_wp2_with (first | ((with_reducible refine gD 1 ?_); refine bxE #[.int .i64 a0_0, .int .i64 a0_1, .slice A0_2 l0_2.length c0_2, .slice A0_3 l0_3.length c0_3] 58 ?_; intro gb748 hg w41 BK748 hb; have GW748 := gE hg; have GE748 := gE hg; replace HB := hB hb; clear hb hg) | ((with_reducible refine gD 2 ?_); refine bxE #[.int .i64 0, .int .i64 0, .slice none 0 0, .slice none 0 0] 58 ?_; intro gb749 hg w42 BK749 hb; have GW749 := gE hg; have GE749 := gE hg; have NB748_749 := nL (g := gb748) hg; have NB749_748 := nG (g := gb748) hg; replace BK748 := kB (g := gb748) hb; replace HB := hB hb; clear hb hg; have hnb43 := NB748_749.out; have hnc43 := NB749_748.out; have hz44 := cz4 BK748) | ((with_reducible refine gC 133 ?_); refine cL (some 7) Try.func133 #[.agg #[.int .i64 a0_0, .int .i64 a0_1, .slice A0_2 l0_2.length c0_2, .slice A0_3 l0_3.length c0_3]] ?_; (with_reducible refine (impl_copyBand.calls k a0_0 a0_1 _ _ l0_2 _ _ l0_3 t750 t751 t752 t755 _ (cS (Kd.C_below HR0_2.out HB.out)) HC0_2.out (cS (Kd.C_below HR0_3.out HB.out)) HC0_3.out A2.out).mono ?_); rintro e w45 ⟨v753, v756, rfl, ho0, ho1, hb⟩; refine ⟨_, rfl, ?_⟩; have HO754 := Aside0.mk (Kd.S_lower ho0 (below_size bS)); have HO757 := Aside0.mk (Kd.S_lower ho1 (below_size bS)); replace BK748 := kB (g := gb748) hb; replace BK749 := kB (g := gb749) hb; replace HB := hB hb; (try clear hb); (try clear hb2); (try clear hk); (try clear hi); (try clear ho0); (try clear ho1)) | ((with_reducible refine gD 3 ?_); refine bxE #[.int .i64 0, .int .i64 0, .slice none 0 0, .slice none 0 0] 58 ?_; intro gb758 hg w46 BK758 hb; have GW758 := gE hg; have GE758 := gE hg; have NB748_758 := nL (g := gb748) hg; have NB758_748 := nG (g := gb748) hg; have NB749_758 := nL (g := gb749) hg; have NB758_749 := nG (g := gb749) hg; replace HO754 := sB HO754 hb; replace HO757 := sB HO757 hb; replace BK748 := kB (g := gb748) hb; replace BK749 := kB (g := gb749) hb; replace HB := hB hb; clear hb hg; have hnb47 := NB758_748.out; have hnc47 := NB748_758.out; have hnb48 := NB758_749.out; have hnc48 := NB749_758.out; have hz49 := cz4 BK758; obtain ⟨Ao50, co50, eo50⟩ := Kd.S_slice HO754.out; subst eo50; obtain ⟨Ao51, co51, eo51⟩ := Kd.S_slice HO757.out; subst eo51; have hz52 := cz4 BK748) | ((with_reducible refine gC 35 ?_); refine cL (some 9) Try.func35 #[.agg #[.int .i64 a0_0, .int .i64 a0_1, .slice A0_2 l0_2.length c0_2, .slice A0_3 l0_3.length c0_3]] ?_; (with_reducible refine (impl_BandOk.calls k a0_0 a0_1 _ _ l0_2 _ _ l0_3 _ _ (Kd.C_below HR0_2.out bS) HC0_2.out (Kd.C_below HR0_3.out bS) HC0_3.out A3.out).mono ?_); rintro e w53 ⟨rfl, hb⟩; refine ⟨_, rfl, ?_⟩; replace HO754 := Aside0.mk (Kd.S_below (by exact sT (Kd.S_mono (Kd.S_far (p := ⟨gb758, 3, none⟩) (Kd.S_far (p := ⟨gb758, 2, none⟩) (Kd.S_far (p := ⟨gb758, 1, none⟩) (Kd.S_far (p := ⟨gb758, 0, none⟩) (Kd.S_types HO754.out BK758.out (by decide)) (fun _ hk => hk.2) (.int .i64 t750)) (fun _ hk => hk.2) (.int .i64 t751)) (fun _ hk => hk.2) (.slice Ao50 t752.length co50)) (fun _ hk => hk.2) (.slice Ao51 t755.length co51)) (fun _ h_ => h_.1))) hb); replace HO757 := Aside0.mk (Kd.S_below (by exact sT (Kd.S_mono (Kd.S_far (p := ⟨gb758, 3, none⟩) (Kd.S_far (p := ⟨gb758, 2, none⟩) (Kd.S_far (p := ⟨gb758, 1, none⟩) (Kd.S_far (p := ⟨gb758, 0, none⟩) (Kd.S_types HO757.out BK758.out (by decide)) (fun _ hk => hk.2) (.int .i64 t750)) (fun _ hk => hk.2) (.int .i64 t751)) (fun _ hk => hk.2) (.slice Ao50 t752.length co50)) (fun _ hk => hk.2) (.slice Ao51 t755.length co51)) (fun _ h_ => h_.1))) hb); replace BK748 := kB (g := gb748) hb; replace BK749 := kB (g := gb749) hb; replace BK758 := Aside0.mk (blk_below (g := gb758) (o := .cells #[.int .i64 t750, .int .i64 t751, .slice Ao50 t752.length co50, .slice Ao51 t755.length co51] 58 (0, 0)) kS hb); replace HB := hB hb; (try clear hb); (try clear hb2); (try clear hk); (try clear hi); have hz54 := cz4 BK758; have hz55 := cz4 BK749))
  refine bodyPost_ret (results_cell_row rfl _ _ gb749 58 #[.int .i64 t750, .int .i64 t751, .slice Ao50 t752.length co50, .slice Ao51 t755.length co51] (0, 0) _ rfl kS Try.underlying58 rfl (by kernel_rfl)) rfl ?_
  exact ⟨_, _, eS, by exact sT (Kd.S_mono (Kd.S_far (p := ⟨gb749, 3, none⟩) (Kd.S_far (p := ⟨gb749, 2, none⟩) (Kd.S_far (p := ⟨gb749, 1, none⟩) (Kd.S_far (p := ⟨gb749, 0, none⟩) (Kd.S_types HO754.out BK749.out (by decide)) (fun _ hk => hk.2) (.int .i64 t750)) (fun _ hk => hk.2) (.int .i64 t751)) (fun _ hk => hk.2) (.slice Ao50 t752.length co50)) (fun _ hk => hk.2) (.slice Ao51 t755.length co51)) (fun _ hk => trivial)), by exact sT (Kd.S_mono (Kd.S_far (p := ⟨gb749, 3, none⟩) (Kd.S_far (p := ⟨gb749, 2, none⟩) (Kd.S_far (p := ⟨gb749, 1, none⟩) (Kd.S_far (p := ⟨gb749, 0, none⟩) (Kd.S_types HO757.out BK749.out (by decide)) (fun _ hk => hk.2) (.int .i64 t750)) (fun _ hk => hk.2) (.int .i64 t751)) (fun _ hk => hk.2) (.slice Ao50 t752.length co50)) (fun _ hk => hk.2) (.slice Ao51 t755.length co51)) (fun _ hk => trivial)), bS⟩

/-! ### impl_RowsOfBand: function 64 -/
def impl_RowsOfBand.f (k : Nat) (a0_0 : Int) (a0_1 : Int) (l0_2 : List (List Int)) (l0_3 : List (S45)) : Option ((List (List Int))) := (impl_BandOk.f k a0_0 a0_1 l0_2 l0_3).bind fun t764 => (if t764 = true then ((impl_MergeBand.f k a0_0 a0_1 l0_2 l0_3).bind fun bt765 => (some bt765.2.2.1)) else (some ([] : List (List Int))))
theorem impl_RowsOfBand.calls (k : Nat) (a0_0 : Int) (a0_1 : Int) (A0_2 : Option Addr) (c0_2 : Nat) (l0_2 : List (List Int)) (A0_3 : Option Addr) (c0_3 : Nat) (l0_3 : List (S45)) (r : List (List Int)) (w : World) (hr0_2 : Kd.C (Kd.slice 3 (Kd.int .i64)) w A0_2 l0_2.length l0_2) (hc0_2 : l0_2.length ≤ c0_2) (hr0_3 : Kd.C k45 w A0_3 l0_3.length l0_3) (hc0_3 : l0_3.length ≤ c0_3) (h : impl_RowsOfBand.f k a0_0 a0_1 l0_2 l0_3 = some r) :
  Calls Try.prog 64 #[.agg #[.int .i64 a0_0, .int .i64 a0_1, .slice A0_2 l0_2.length c0_2, .slice A0_3 l0_3.length c0_3]] w fun e w' => ∃ v0_ : Value, e = .returned (v0_) ∧ Kd.S (Kd.slice 3 (Kd.int .i64)) 71 w' w.heap.size (fun _ => True) v0_ r ∧ Below w.heap.size w w' := by
 have hu58 := Try.underlying58
 have hfd58_2 : ∀ (W : World) (v0_ v1_ v2_ v3_ : Value), (Instr.field 58 (.agg #[v0_, v1_, v2_, v3_]) 2).run Try.prog W = .ok v2_ W := fun _ _ _ _ _ => by first | rfl | kernel_rfl
 have HR0_2 := Aside0.mk hr0_2
 have HC0_2 := Aside0.mk hc0_2
 clear hr0_2 hc0_2
 have HR0_3 := Aside0.mk hr0_3
 have HC0_3 := Aside0.mk hc0_3
 clear hr0_3 hc0_3
 have HB := Aside0.mk (Below.refl w.heap.size w)
 have H : ((impl_BandOk.f k a0_0 a0_1 l0_2 l0_3).bind fun t764 => (if t764 = true then ((impl_MergeBand.f k a0_0 a0_1 l0_2 l0_3).bind fun bt765 => (some bt765.2.2.1)) else (some ([] : List (List Int))))) = some r := h
 clear h
 replace H := bN H
 obtain ⟨t764, A2, H⟩ := H
 by_cases c3 : t764 = true
 ·subst c3
  rw [if_pos rfl] at H
  replace H := bN H
  obtain ⟨⟨t765, t766, t767, t770⟩, A4, H⟩ := H
  obtain rfl := Option.some.inj H
  go_enter Try.func64, Try.ntmps64
  go_wp2_with (first | ((with_reducible refine gD 1 ?_); refine bxE #[.int .i64 a0_0, .int .i64 a0_1, .slice A0_2 l0_2.length c0_2, .slice A0_3 l0_3.length c0_3] 58 ?_; intro gb763 hg w5 BK763 hb; have GW763 := gE hg; have GE763 := gE hg; replace HB := hB hb; clear hb hg; have hz6 := cz4 BK763) | ((with_reducible refine gC 35 ?_); refine cL (some 4) Try.func35 #[.agg #[.int .i64 a0_0, .int .i64 a0_1, .slice A0_2 l0_2.length c0_2, .slice A0_3 l0_3.length c0_3]] ?_; (with_reducible refine (impl_BandOk.calls k a0_0 a0_1 _ _ l0_2 _ _ l0_3 _ _ (cS (Kd.C_below HR0_2.out HB.out)) HC0_2.out (cS (Kd.C_below HR0_3.out HB.out)) HC0_3.out A2.out).mono ?_); rintro e w7 ⟨rfl, hb⟩; refine ⟨_, rfl, ?_⟩; replace BK763 := kB (g := gb763) hb; replace HB := hB hb; (try clear hb); (try clear hb2); (try clear hk); (try clear hi); have hz8 := cz4 BK763) | ((with_reducible refine gC 62 ?_); refine cL (some 7) Try.func62 #[.agg #[.int .i64 a0_0, .int .i64 a0_1, .slice A0_2 l0_2.length c0_2, .slice A0_3 l0_3.length c0_3]] ?_; (with_reducible refine (impl_MergeBand.calls k a0_0 a0_1 _ _ l0_2 _ _ l0_3 t765 t766 t767 t770 _ (cS (Kd.C_below HR0_2.out HB.out)) HC0_2.out (cS (Kd.C_below HR0_3.out HB.out)) HC0_3.out A4.out).mono ?_); rintro e w9 ⟨v768, v771, rfl, ho0, ho1, hb⟩; refine ⟨_, rfl, ?_⟩; have HO769 := Aside0.mk (Kd.S_lower ho0 (below_size bS)); have HO772 := Aside0.mk (Kd.S_lower ho1 (below_size bS)); replace BK763 := kB (g := gb763) hb; replace HB := hB hb; (try clear hb); (try clear hb2); (try clear hk); (try clear hi); (try clear ho0); (try clear ho1)))
  go_ret
  exact ⟨_, eS, sS HO769, bS⟩
 ·obtain rfl := Bool.eq_false_iff.mpr c3
  rw [if_neg nF] at H
  obtain rfl := Option.some.inj H
  go_enter Try.func64, Try.ntmps64
  go_wp2_with (first | ((with_reducible refine gD 1 ?_); refine bxE #[.int .i64 a0_0, .int .i64 a0_1, .slice A0_2 l0_2.length c0_2, .slice A0_3 l0_3.length c0_3] 58 ?_; intro gb763 hg w10 BK763 hb; have GW763 := gE hg; have GE763 := gE hg; replace HB := hB hb; clear hb hg; have hz11 := cz4 BK763) | ((with_reducible refine gC 35 ?_); refine cL (some 4) Try.func35 #[.agg #[.int .i64 a0_0, .int .i64 a0_1, .slice A0_2 l0_2.length c0_2, .slice A0_3 l0_3.length c0_3]] ?_; (with_reducible refine (impl_BandOk.calls k a0_0 a0_1 _ _ l0_2 _ _ l0_3 _ _ (cS (Kd.C_below HR0_2.out HB.out)) HC0_2.out (cS (Kd.C_below HR0_3.out HB.out)) HC0_3.out A2.out).mono ?_); rintro e w12 ⟨rfl, hb⟩; refine ⟨_, rfl, ?_⟩; replace BK763 := kB (g := gb763) hb; replace HB := hB hb; (try clear hb); (try clear hb2); (try clear hk); (try clear hi)))
  go_ret
  exact ⟨_, eS, by first | exact Kd.S_nil _ _ _ _ _ | exact Kd.N_nil _ _ _ _ _ | exact Kd.V_nil _ _ _ _ _ | exact Kd.Q_nil _ _ _ _ _ | exact Kd.R_nil _ _ _ _ _, bS⟩

end Go.Proofs.Ytigodjcnkgebaaa.QFnMerges
