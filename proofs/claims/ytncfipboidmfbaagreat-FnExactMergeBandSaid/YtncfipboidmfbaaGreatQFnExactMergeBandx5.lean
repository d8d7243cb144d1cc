-- Made out of the translation by a program of this session (a changed copy of the print). Not trusted: Lean checks it.
import Derived.Test.YtncfipboidmfbaaGreatQFnExactMergeBandx0
import Derived.Test.YtncfipboidmfbaaGreatQFnExactMergeBandx4
namespace Go.Proofs.YtncfipboidmfbaaGreat.QFnExactMergeBand
open Go.RowKit Go.Proofs.YtncfipboidmfbaaGreatW.PrintWords Go.Proofs.YtncfipboidmfbaaGreatW.PrintLast Go.Proofs.YtncfipboidmfbaaGreatW.PrintMore
attribute [local go_sem] max2_int min2_int max_two min_two max_three min_three max_four min_four   -- for this text's walks alone
set_option linter.unusedVariables false
set_option linter.unusedSimpArgs false
set_option maxHeartbeats 8000000
set_option maxRecDepth 100000

/-! ### spec_BandOk: function 43 -/
def spec_BandOk.l0 : Nat → Int → Int → Int → List (List Int) → List (S49) → Option (Bool)
 | 0, _, _, _, _, _ => none
 | k + 1, x3, x221000, x221001, x221002, x221003 => if x3 < (x221003.length : Int) then (if 0 ≤ x3 then ((spec_ObjectOk.f k ((rd_T49 x221003 x3).f0) ((rd_T49 x221003 x3).f1) ((rd_T49 x221003 x3).f2.f0) ((rd_T49 x221003 x3).f2.f1) ((rd_T49 x221003 x3).f2.f2) ((rd_T49 x221003 x3).f2.f3)).bind fun t222 => (if t222 = true then (spec_BandOk.l0 k (wrap64 (x3 + 1)) x221000 x221001 x221002 x221003) else (some false))) else (none)) else ((spec_l12Ok.f x221000 x221001).bind fun t223 => (if t223 = true then (if (x221002.length : Int) = x221000 then ((spec_RowsOk.f k x221002).bind fun t224 => (if t224 = true then ((spec_BandCells.f k x221000 x221001 x221002 x221003).bind fun t225 => (some (decide (t225 ≤ 60)))) else (some false))) else (some false)) else (some false)))
def spec_BandOk.f (k : Nat) (a0_0 : Int) (a0_1 : Int) (l0_2 : List (List Int)) (l0_3 : List (S49)) : Option (Bool) := spec_BandOk.l0 k 0 a0_0 a0_1 l0_2 l0_3
theorem spec_BandOk.calls (k : Nat) (a0_0 : Int) (a0_1 : Int) (A0_2 : Option Addr) (c0_2 : Nat) (l0_2 : List (List Int)) (A0_3 : Option Addr) (c0_3 : Nat) (l0_3 : List (S49)) (r : Bool) (w : World) (hr0_2 : Kd.C (Kd.slice 3 (Kd.int .i64)) w A0_2 l0_2.length l0_2) (hc0_2 : l0_2.length ≤ c0_2) (hr0_3 : Kd.C k49 w A0_3 l0_3.length l0_3) (hc0_3 : l0_3.length ≤ c0_3) (h : spec_BandOk.f k a0_0 a0_1 l0_2 l0_3 = some r) :
  Calls Tryz.prog 43 #[.agg #[.int .i64 a0_0, .int .i64 a0_1, .slice A0_2 l0_2.length c0_2, .slice A0_3 l0_3.length c0_3]] w fun e w' => e = .returned (.bool r) ∧ Below w.heap.size w w' := by
 have hu30 := Tryz.underlying30
 have hu49 := Tryz.underlying49
 have HR0_2 := Aside0.mk hr0_2
 have HC0_2 := Aside0.mk hc0_2
 clear hr0_2 hc0_2
 have HR0_3 := Aside0.mk hr0_3
 have HC0_3 := Aside0.mk hc0_3
 clear hr0_3 hc0_3
 have HB := Aside0.mk (Below.refl w.heap.size w)
 have H : (spec_BandOk.l0 k 0 a0_0 a0_1 l0_2 l0_3) = some r := h
 clear h
 have H' := Aside0.mk H
 clear H
 go_enter Tryz.func43, Tryz.ntmps43
 go_wp2_with (first | ((with_reducible refine gD 1 ?_); refine bxE #[.int .i64 a0_0, .int .i64 a0_1, .slice A0_2 l0_2.length c0_2, .slice A0_3 l0_3.length c0_3] 30 ?_; intro gb220 hg w2 BK220 hb; have GW220 := gE hg; have GE220 := gE hg; replace HB := hB hb; clear hb hg))
 go_loopg [3] k (fun kq v3 w' => ∃ (x3_1 : Int), v3 = .int .i64 x3_1 ∧ Aside0 (spec_BandOk.l0 kq x3_1 a0_0 a0_1 l0_2 l0_3 = some r) ∧ Aside0 (kq ≤ k) ∧ Aside0 (w'.heap[gb220]? = some (.cells #[.int .i64 a0_0, .int .i64 a0_1, (.slice A0_2 l0_2.length c0_2), (.slice A0_3 l0_3.length c0_3)] 30 (0, 0))) ∧ Aside0 (Below w.heap.size w w'))
 case atStart => exact ⟨(0), fS, H', ⟨Nat.le_refl _⟩, ⟨kS⟩, ⟨bS⟩⟩
 case round =>
  clear H'
  try clear p2
  obtain ⟨x3_1, rfl, HA, HK1, BK220, HB⟩ := hrel
  cases gk with
  | zero => exact absurd HA.out (by simp [spec_BandOk.l0])
  | succ k1 =>
   have H := HA.out
   clear HA
   simp only [spec_BandOk.l0] at H
   rcases iD H with ⟨c3b0, H⟩ | ⟨c3b0, H⟩
   ·obtain ⟨c4b0, H⟩ := iT H
    replace H := bN H
    obtain ⟨t222, A5, H⟩ := H
    by_cases c6 : t222 = true
    ·subst c6
     rw [if_pos rfl] at H
     have H' := Aside0.mk H
     clear H
     have hz7 := cz4 BK220
     have p221 : 0 ≤ (x3_1 : Int) := dA
     have q221 : x3_1 < (l0_3.length : Int) := dA
     obtain ⟨ad221, A221_0, c221_0, e221, hx221_0, hx221_1, hx221_2, hx221_3, hx221_4, hx221_5, hl221_0, hi221_0⟩ := at_T49 HR0_3.out x3_1 p221 q221
     cases e221
     replace hx221_0 := cB HB hx221_0
     replace hx221_1 := cB HB hx221_1
     replace hx221_2 := cB HB hx221_2
     replace hx221_3 := cB HB hx221_3
     replace hx221_4 := cB HB hx221_4
     replace hx221_5 := cB HB hx221_5
     have HR221_0 := Aside0.mk hi221_0
     have HC221_0 := Aside0.mk hl221_0
     clear hi221_0 hl221_0
     replace p221 := eq_true p221
     replace q221 := eq_true q221
     go_wp2_with (first | ((with_reducible refine gC 58 ?_); refine cL (some 16) Tryz.func58 #[.agg #[.slice A221_0 ((rd_T49 l0_3 x3_1).f0).length c221_0, .int .i64 ((rd_T49 l0_3 x3_1).f1), .int .i64 ((rd_T49 l0_3 x3_1).f2.f0), .int .i64 ((rd_T49 l0_3 x3_1).f2.f1), .int .i64 ((rd_T49 l0_3 x3_1).f2.f2), .int .i64 ((rd_T49 l0_3 x3_1).f2.f3)]] ?_; (with_reducible refine (spec_ObjectOk.calls k1 _ _ ((rd_T49 l0_3 x3_1).f0) ((rd_T49 l0_3 x3_1).f1) ((rd_T49 l0_3 x3_1).f2.f0) ((rd_T49 l0_3 x3_1).f2.f1) ((rd_T49 l0_3 x3_1).f2.f2) ((rd_T49 l0_3 x3_1).f2.f3) _ _ (cS (Kd.C_below HR221_0.out HB.out)) HC221_0.out A5.out).mono ?_); rintro e w8 ⟨rfl, hb⟩; refine ⟨_, rfl, ?_⟩; replace BK220 := kB (g := gb220) hb; replace HB := hB hb; (try clear hb); (try clear hb2); (try clear hk); (try clear hi)))
     go_roundg k1
     case measure => have := HK1.out; omega
     case rel => exact ⟨(wrap64 (x3_1 + 1)), fS, H', ⟨by have := HK1.out; omega⟩, ⟨kS⟩, ⟨bS⟩⟩
    ·obtain rfl := Bool.eq_false_iff.mpr c6
     rw [if_neg nF] at H
     obtain rfl := Option.some.inj H
     have hz9 := cz4 BK220
     have p221 : 0 ≤ (x3_1 : Int) := dA
     have q221 : x3_1 < (l0_3.length : Int) := dA
     obtain ⟨ad221, A221_0, c221_0, e221, hx221_0, hx221_1, hx221_2, hx221_3, hx221_4, hx221_5, hl221_0, hi221_0⟩ := at_T49 HR0_3.out x3_1 p221 q221
     cases e221
     replace hx221_0 := cB HB hx221_0
     replace hx221_1 := cB HB hx221_1
     replace hx221_2 := cB HB hx221_2
     replace hx221_3 := cB HB hx221_3
     replace hx221_4 := cB HB hx221_4
     replace hx221_5 := cB HB hx221_5
     have HR221_0 := Aside0.mk hi221_0
     have HC221_0 := Aside0.mk hl221_0
     clear hi221_0 hl221_0
     replace p221 := eq_true p221
     replace q221 := eq_true q221
     go_wp2_with (first | ((with_reducible refine gC 58 ?_); refine cL (some 16) Tryz.func58 #[.agg #[.slice A221_0 ((rd_T49 l0_3 x3_1).f0).length c221_0, .int .i64 ((rd_T49 l0_3 x3_1).f1), .int .i64 ((rd_T49 l0_3 x3_1).f2.f0), .int .i64 ((rd_T49 l0_3 x3_1).f2.f1), .int .i64 ((rd_T49 l0_3 x3_1).f2.f2), .int .i64 ((rd_T49 l0_3 x3_1).f2.f3)]] ?_; (with_reducible refine (spec_ObjectOk.calls k1 _ _ ((rd_T49 l0_3 x3_1).f0) ((rd_T49 l0_3 x3_1).f1) ((rd_T49 l0_3 x3_1).f2.f0) ((rd_T49 l0_3 x3_1).f2.f1) ((rd_T49 l0_3 x3_1).f2.f2) ((rd_T49 l0_3 x3_1).f2.f3) _ _ (cS (Kd.C_below HR221_0.out HB.out)) HC221_0.out A5.out).mono ?_); rintro e w10 ⟨rfl, hb⟩; refine ⟨_, rfl, ?_⟩; replace BK220 := kB (g := gb220) hb; replace HB := hB hb; (try clear hb); (try clear hb2); (try clear hk); (try clear hi)))
     go_ret
     exact ⟨eS, bS⟩
   ·replace H := bN H
    obtain ⟨t223, A11, H⟩ := H
    by_cases c12 : t223 = true
    ·subst c12
     rw [if_pos rfl] at H
     by_cases c13 : (l0_2.length : Int) = a0_0
     ·rw [if_pos c13] at H
      have c13b0 : ((l0_2.length : Int) == a0_0) = true := beq_iff_eq.mpr c13
      have c13b1 : ((l0_2.length : Int) != a0_0) = false := bne_eq_false_iff_eq.mpr c13
      clear c13
      replace H := bN H
      obtain ⟨t224, A14, H⟩ := H
      by_cases c15 : t224 = true
      ·subst c15
       rw [if_pos rfl] at H
       replace H := bN H
       obtain ⟨t225, A16, H⟩ := H
       obtain rfl := Option.some.inj H
       have hz17 := cz4 BK220
       go_wp2_with (first | ((with_reducible refine gC 107 ?_); refine cL (some 22) Tryz.func107 #[.int .i64 a0_0, .int .i64 a0_1] ?_; (with_reducible refine (spec_l12Ok.calls a0_0 a0_1 _ _ A11.out).mono ?_); rintro e w' ⟨rfl, ⟨nd, rfl⟩⟩; refine ⟨_, rfl, ?_⟩) | (go_at_call 108; (with_reducible refine (spec_RowsOk.calls k1 _ _ l0_2 _ _ (cS (Kd.C_below HR0_2.out bS)) HC0_2.out A14.out).mono ?_); rintro e w' ⟨rfl, ⟨nd, rfl⟩⟩) | (go_at_call 60; (with_reducible refine (spec_BandCells.calls k1 a0_0 a0_1 _ _ l0_2 _ _ l0_3 t225 _ (cS (Kd.C_below HR0_2.out bS)) HC0_2.out (cS (Kd.C_below HR0_3.out bS)) HC0_3.out A16.out).mono ?_); rintro e w18 ⟨rfl, hb⟩; replace BK220 := kB (g := gb220) hb; replace HB := hB hb; (try clear hb); (try clear hb2); (try clear hk); (try clear hi)))
       go_ret
       exact ⟨eS, bS⟩
      ·obtain rfl := Bool.eq_false_iff.mpr c15
       rw [if_neg nF] at H
       obtain rfl := Option.some.inj H
       have hz19 := cz4 BK220
       go_wp2_with (first | ((with_reducible refine gC 107 ?_); refine cL (some 22) Tryz.func107 #[.int .i64 a0_0, .int .i64 a0_1] ?_; (with_reducible refine (spec_l12Ok.calls a0_0 a0_1 _ _ A11.out).mono ?_); rintro e w' ⟨rfl, ⟨nd, rfl⟩⟩; refine ⟨_, rfl, ?_⟩) | (go_at_call 108; (with_reducible refine (spec_RowsOk.calls k1 _ _ l0_2 _ _ (cS (Kd.C_below HR0_2.out bS)) HC0_2.out A14.out).mono ?_); rintro e w' ⟨rfl, ⟨nd, rfl⟩⟩))
       go_ret
       exact ⟨eS, bS⟩
     ·rw [if_neg c13] at H
      have c13b0 : ((l0_2.length : Int) == a0_0) = false := beq_eq_false_iff_ne.mpr c13
      have c13b1 : ((l0_2.length : Int) != a0_0) = true := bne_iff_ne.mpr c13
      obtain rfl := Option.some.inj H
      have hz20 := cz4 BK220
      go_wp2_with (first | ((with_reducible refine gC 107 ?_); refine cL (some 22) Tryz.func107 #[.int .i64 a0_0, .int .i64 a0_1] ?_; (with_reducible refine (spec_l12Ok.calls a0_0 a0_1 _ _ A11.out).mono ?_); rintro e w' ⟨rfl, ⟨nd, rfl⟩⟩; refine ⟨_, rfl, ?_⟩))
      go_ret
      exact ⟨eS, bS⟩
    ·obtain rfl := Bool.eq_false_iff.mpr c12
     rw [if_neg nF] at H
     obtain rfl := Option.some.inj H
     have hz21 := cz4 BK220
     go_wp2_with (first | ((with_reducible refine gC 107 ?_); refine cL (some 22) Tryz.func107 #[.int .i64 a0_0, .int .i64 a0_1] ?_; (with_reducible refine (spec_l12Ok.calls a0_0 a0_1 _ _ A11.out).mono ?_); rintro e w' ⟨rfl, ⟨nd, rfl⟩⟩; refine ⟨_, rfl, ?_⟩))
     go_ret
     exact ⟨eS, bS⟩

/-! ### spec_l07Shape: function 61 -/
def spec_l07Shape.f (l0_0 : List (S151)) (a0_1 : Int) (a0_2 : Int) (a0_3 : Int) (a0_4 : Int) (a0_5 : Int) : Option ((List (S151)) × Int × Int × Int × Int × Int) := (some (([] : List (S151)) : List (S151))).bind fun y228 => (if y228.length + l0_0.length < 8796093022208 then (some ((y228 ++ l0_0), a0_1, a0_2, a0_3, a0_4, a0_5)) else (none))
def spec_l07Shape.T1 : Bool × List (List Nat × List Nat) := (true, [([], []), ([], []), ([1], [1]), ([0, 2], [0, 2]), ([], []), ([4], [4]), ([], []), ([6], [6]), ([3, 5, 7], [3, 5, 7]), ([8, 3, 0, 1, 2, 3, 4, 5, 6, 7, 8], [8])])
def spec_l07Shape.B1 : List Nat := [0, 0, 2, 7, 0, 16, 0, 64, 255, 511]
theorem spec_l07Shape.tab1 : rtab .any (opsOf Tryz.f61 1) = spec_l07Shape.T1 := by kernel_rfl
theorem spec_l07Shape.bits1 : waitsOk spec_l07Shape.T1.2 spec_l07Shape.B1 = true := by kernel_rfl
theorem spec_l07Shape.calls (A0_0 : Option Addr) (c0_0 : Nat) (l0_0 : List (S151)) (a0_1 : Int) (a0_2 : Int) (a0_3 : Int) (a0_4 : Int) (a0_5 : Int) (r1 : List (S151)) (r2 : Int) (r3 : Int) (r4 : Int) (r5 : Int) (r6 : Int) (w : World) (hr0_0 : Kd.C k151 w A0_0 l0_0.length l0_0) (hc0_0 : l0_0.length ≤ c0_0) (h : spec_l07Shape.f l0_0 a0_1 a0_2 a0_3 a0_4 a0_5 = some (r1, r2, r3, r4, r5, r6)) :
  Calls Tryz.prog 61 #[.agg #[.slice A0_0 l0_0.length c0_0, .int .i64 a0_1, .int .i64 a0_2, .int .i64 a0_3, .int .i64 a0_4, .int .i64 a0_5]] w fun e w' => ∃ v0_ : Value, e = .returned (.agg #[v0_, .int .i64 r2, .int .i64 r3, .int .i64 r4, .int .i64 r5, .int .i64 r6]) ∧ Kd.R k151 151 w' w.heap.size (fun _ => True) v0_ r1 ∧ Below w.heap.size w w' := by
 have hu49 := Tryz.underlying49
 have hu47 := Tryz.underlying47
 have HR0_0 := Aside0.mk hr0_0
 have HC0_0 := Aside0.mk hc0_0
 clear hr0_0 hc0_0
 have HB := Aside0.mk (Below.refl w.heap.size w)
 have H : ((some (([] : List (S151)) : List (S151))).bind fun y228 => (if y228.length + l0_0.length < 8796093022208 then (some ((y228 ++ l0_0), a0_1, a0_2, a0_3, a0_4, a0_5)) else (none))) = some (r1, r2, r3, r4, r5, r6) := h
 clear h
 obtain ⟨y228, hy228⟩ : ∃ y_ : List (S151), y_ = (([] : List (S151))) := ⟨_, rfl⟩
 replace H : (if y228.length + l0_0.length < 8796093022208 then (some ((y228 ++ l0_0), a0_1, a0_2, a0_3, a0_4, a0_5)) else (none)) = some (r1, r2, r3, r4, r5, r6) := by first | (rw [hy228]; with_reducible exact H) | (have H2_ := (Option.bind_some _ _).symm.trans H; rw [hy228]; with_reducible exact H2_) | (have H2_ := (Option.bind_some _ _).symm.trans H; with_reducible exact H2_) | with_reducible exact H | (rw [hy228]; exact H) | exact H
 have Ny228 := Aside0.mk hy228
 clear hy228
 by_cases c2 : y228.length + l0_0.length < 8796093022208
 ·rw [if_pos c2] at H
  have LMc2 := Aside0.mk c2
  clear c2
  obtain ⟨y231, hy231⟩ : ∃ y_ : List (S151), y_ = (y228 ++ l0_0) := ⟨_, rfl⟩
  replace H : (some (y231, a0_1, a0_2, a0_3, a0_4, a0_5)) = some (r1, r2, r3, r4, r5, r6) := by first | (rw [hy231]; with_reducible exact H) | (have H2_ := (Option.bind_some _ _).symm.trans H; rw [hy231]; with_reducible exact H2_) | (have H2_ := (Option.bind_some _ _).symm.trans H; with_reducible exact H2_) | with_reducible exact H | (rw [hy231]; exact H) | exact H
  have Ny231 := Aside0.mk hy231
  clear hy231
  obtain ⟨rfl, rfl, rfl, rfl, rfl, rfl⟩ := sI6 H
  go_enter Tryz.func61, Tryz.ntmps61
  try go_wp2_with (first | ((with_reducible refine gD 1 ?_); refine bxE #[.slice A0_0 l0_0.length c0_0, .int .i64 a0_1, .int .i64 a0_2, .int .i64 a0_3, .int .i64 a0_4, .int .i64 a0_5] 49 ?_; intro gb226 hg w3 BK226 hb; have GW226 := gE hg; have GE226 := gE hg; replace HB := hB hb; clear hb hg) | ((with_reducible refine gD 2 ?_); refine bxE #[.slice none 0 0, .int .i64 0, .int .i64 0, .int .i64 0, .int .i64 0, .int .i64 0] 49 ?_; intro gb227 hg w4 BK227 hb; have GW227 := gE hg; have GE227 := gE hg; have NB226_227 := nL (g := gb226) hg; have NB227_226 := nG (g := gb226) hg; replace BK226 := kB (g := gb226) hb; replace HB := hB hb; clear hb hg))
  replace BK226 := Aside0.mk (blk_drew BK226.out)
  replace BK227 := Aside0.mk (blk_drew BK227.out)
  replace HB := Aside0.mk (below_drew1 HB.out)
  refine start_ (n := 10) (S := fun w' => w'.cell? ⟨gb226, 0, none⟩ = some (.slice A0_0 l0_0.length c0_0) ∧ w'.cell? ⟨gb226, 1, none⟩ = some (.int .i64 a0_1) ∧ w'.cell? ⟨gb226, 2, none⟩ = some (.int .i64 a0_2) ∧ w'.cell? ⟨gb226, 3, none⟩ = some (.int .i64 a0_3) ∧ w'.cell? ⟨gb226, 4, none⟩ = some (.int .i64 a0_4) ∧ w'.cell? ⟨gb226, 5, none⟩ = some (.int .i64 a0_5)) (ds := []) #[false, false, false, false, false, false, false, false, false, false] (by kernel_rfl) rfl rfl (cy6 BK226) (fun hHeld => ?_); refine with_tabW spec_l07Shape.tab1 spec_l07Shape.bits1 (fun HT_ HW_ => ?_)
  generalize w4.drew = w5 at BK226 BK227 HB hHeld ⊢
  refine pU 1 (some 4) #[false, true, false, false, false, false, false, false, false, false] ?_
  refine pU 4 (some 7) #[false, true, false, false, true, false, false, false, false, false] ?_
  refine pU 6 (some 9) #[false, true, false, false, true, false, true, false, false, false] ?_
  refine tK 2 (some 5) #[false, true, true, false, true, false, true, false, false, false] ?_
  refine tK 5 (some 8) #[false, true, true, false, true, true, true, false, false, false] ?_
  refine tK 7 (some 10) #[false, true, true, false, true, true, true, true, false, false] ?_
  refine one_ (i := 0) (N := some 3) #[true, true, true, false, true, true, true, true, false, false] rfl rfl (one_of HT_.out (by kernel_rfl)) (by decide) (fun K hK => ?_)
  refine Kd.R_lit_step k151 _ 151 ?hg (N := 3) ?hd (xs := ([] : List (S151))) (inner := []) (ok := fun _ => True) (okp := fun _ => True) ?hr ?hp (fun _ hk => hk) trivial (Below.refl _ _) (Nat.le_refl _) (by simp) ?_; (case hd => rfl); (case hg => rfl); (case hr => first | (go_simp; done) | (go_simp; rfl)); (case hp => exact (Reps.none _ _))
  intro v229 w6 ho7 hb hg_ hnew_
  clear hg_ hnew_
  (first | rw [← Ny228.out] at ho7 | (simp only [Int.reduceToNat] at ho7; rw [← Ny228.out] at ho7))
  have HO230 := Aside0.mk (Kd.R_lower ho7 (below_size bS))
  replace BK226 := kB (g := gb226) hb
  replace BK227 := kB (g := gb227) hb
  replace HB := hB hb
  clear hb ho7
  refine hK.out _ _ (cy6 BK226) (fun hHeld => ?_)
  clear hK K
  refine norm_ (a' := ?_) ?_ ?_
  rotate_left
  ·show Act.put _ (some 3) _ = _
   simp only [Act.put, List.setIfInBounds_toArray, List.set_cons_zero, List.set_cons_succ, i64_w, i32_w]
   rfl
  refine one_ (i := 3) (N := some 6) #[true, true, true, true, true, true, true, true, false, false] rfl rfl (one_of HT_.out (by kernel_rfl)) (by decide) (fun K hK => ?_)
  refine Kd.R_append_rows_step k151 (w0 := w) w.heap.size (by rfl) (.tmp 3) (.tmp 5) 46 151 (.agg #[(.int .i64 0), (.int .i64 0)]) 16 rfl Tryz.underlying46 info151 rfl (by decide) (by omega) v229 y228 l0_0 _ _ _ (fun _ => True) (fun _ => False) rfl rfl ?aO ?aR (fun _ _ h => h) (fun _ h => h.elim) ?aF ?aB ?aS ?aL ?_
  (case aR => exact cS (Kd.C_below HR0_0.out HB.out))
  (case aB => exact bS)
  (case aF => exact (fun _ _ => trivial))
  (case aO => exact (rS HO230))
  (case aS => exact (below_size bS))
  (case aL => have := LMc2.out; omega)
  intro v232 w8 ho hb hg hat
  rw [← Ny231.out] at ho
  have HO233 := Aside0.mk (ho)
  replace BK226 := Aside0.mk (blk_grown (g := gb226) kS hg (Kd.R_ne HO230.out BK226.out (by decide)))
  replace BK227 := Aside0.mk (blk_grown (g := gb227) kS hg (Kd.R_ne HO230.out BK227.out (by decide)))
  replace HB := Aside0.mk (hb)
  clear HO230
  clear ho hb hg hat
  obtain ⟨Ao9, co9, eo9⟩ := Kd.R_slice HO233.out
  (first | subst eo9 | (injection eo9 with f1_ f2_ f3_; have f4_ := f1_.symm; have f5_ := f3_.symm; clear f1_ f2_ f3_; subst f4_; subst f5_))
  refine hK.out _ _ (cy6 BK226) (fun hHeld => ?_)
  clear hK K
  refine norm_ (a' := ?_) ?_ ?_
  rotate_left
  ·show Act.put _ (some 6) _ = _
   simp only [Act.put, List.setIfInBounds_toArray, List.set_cons_zero, List.set_cons_succ, i64_w, i32_w]
   rfl
  refine pU 8 (some 11) #[true, true, true, true, true, true, true, true, true, false] ?_
  refine one_ (i := 9) (N := none) #[true, true, true, true, true, true, true, true, true, true] rfl rfl (one_of HT_.out (by kernel_rfl)) (by decide) (fun K hK => ?_)
  have hs10 : w8.cell? ⟨gb227, 0, none⟩ = some (.slice none 0 0) := (blk_cell BK227.out 0).trans rfl
  have hfs10 := blk_frozen BK227.out 0
  have hns10_0 := NB226_227.out
  have hms10_0 := NB227_226.out
  have hs11 : w8.cell? ⟨gb227, 1, none⟩ = some (.int .i64 0) := (blk_cell BK227.out 1).trans rfl
  have hfs11 := blk_frozen BK227.out 1
  have hns11_0 := NB226_227.out
  have hms11_0 := NB227_226.out
  have hs12 : w8.cell? ⟨gb227, 2, none⟩ = some (.int .i64 0) := (blk_cell BK227.out 2).trans rfl
  have hfs12 := blk_frozen BK227.out 2
  have hns12_0 := NB226_227.out
  have hms12_0 := NB227_226.out
  have hs13 : w8.cell? ⟨gb227, 3, none⟩ = some (.int .i64 0) := (blk_cell BK227.out 3).trans rfl
  have hfs13 := blk_frozen BK227.out 3
  have hns13_0 := NB226_227.out
  have hms13_0 := NB227_226.out
  have hs14 : w8.cell? ⟨gb227, 4, none⟩ = some (.int .i64 0) := (blk_cell BK227.out 4).trans rfl
  have hfs14 := blk_frozen BK227.out 4
  have hns14_0 := NB226_227.out
  have hms14_0 := NB227_226.out
  have hs15 : w8.cell? ⟨gb227, 5, none⟩ = some (.int .i64 0) := (blk_cell BK227.out 5).trans rfl
  have hfs15 := blk_frozen BK227.out 5
  have hns15_0 := NB226_227.out
  have hms15_0 := NB227_226.out
  refine skip_ (w1 := ?_) (by rfl) rfl ?_ ?_
  rotate_left
  ·go_simp
   rfl
  refine hK.out _ _ ⟨((cell_far (p := ⟨gb227, _, none⟩) NB226_227.out _).trans (((cell_far (p := ⟨gb227, _, none⟩) NB226_227.out _).trans (((cell_far (p := ⟨gb227, _, none⟩) NB226_227.out _).trans (((cell_far (p := ⟨gb227, _, none⟩) NB226_227.out _).trans (((cell_far (p := ⟨gb227, _, none⟩) NB226_227.out _).trans (((cell_far (p := ⟨gb227, _, none⟩) NB226_227.out _).trans (hHeld.1)))))))))))), ((cell_far (p := ⟨gb227, _, none⟩) NB226_227.out _).trans (((cell_far (p := ⟨gb227, _, none⟩) NB226_227.out _).trans (((cell_far (p := ⟨gb227, _, none⟩) NB226_227.out _).trans (((cell_far (p := ⟨gb227, _, none⟩) NB226_227.out _).trans (((cell_far (p := ⟨gb227, _, none⟩) NB226_227.out _).trans (((cell_far (p := ⟨gb227, _, none⟩) NB226_227.out _).trans (hHeld.2.1)))))))))))), ((cell_far (p := ⟨gb227, _, none⟩) NB226_227.out _).trans (((cell_far (p := ⟨gb227, _, none⟩) NB226_227.out _).trans (((cell_far (p := ⟨gb227, _, none⟩) NB226_227.out _).trans (((cell_far (p := ⟨gb227, _, none⟩) NB226_227.out _).trans (((cell_far (p := ⟨gb227, _, none⟩) NB226_227.out _).trans (((cell_far (p := ⟨gb227, _, none⟩) NB226_227.out _).trans (hHeld.2.2.1)))))))))))), ((cell_far (p := ⟨gb227, _, none⟩) NB226_227.out _).trans (((cell_far (p := ⟨gb227, _, none⟩) NB226_227.out _).trans (((cell_far (p := ⟨gb227, _, none⟩) NB226_227.out _).trans (((cell_far (p := ⟨gb227, _, none⟩) NB226_227.out _).trans (((cell_far (p := ⟨gb227, _, none⟩) NB226_227.out _).trans (((cell_far (p := ⟨gb227, _, none⟩) NB226_227.out _).trans (hHeld.2.2.2.1)))))))))))), ((cell_far (p := ⟨gb227, _, none⟩) NB226_227.out _).trans (((cell_far (p := ⟨gb227, _, none⟩) NB226_227.out _).trans (((cell_far (p := ⟨gb227, _, none⟩) NB226_227.out _).trans (((cell_far (p := ⟨gb227, _, none⟩) NB226_227.out _).trans (((cell_far (p := ⟨gb227, _, none⟩) NB226_227.out _).trans (((cell_far (p := ⟨gb227, _, none⟩) NB226_227.out _).trans (hHeld.2.2.2.2.1)))))))))))), ((cell_far (p := ⟨gb227, _, none⟩) NB226_227.out _).trans (((cell_far (p := ⟨gb227, _, none⟩) NB226_227.out _).trans (((cell_far (p := ⟨gb227, _, none⟩) NB226_227.out _).trans (((cell_far (p := ⟨gb227, _, none⟩) NB226_227.out _).trans (((cell_far (p := ⟨gb227, _, none⟩) NB226_227.out _).trans (((cell_far (p := ⟨gb227, _, none⟩) NB226_227.out _).trans (hHeld.2.2.2.2.2))))))))))))⟩ (fun hHeld => ?_)
  clear hK K
  refine done_ (done_of HT_.out (by kernel_rfl)) ?_
  try go_wp2
  refine bodyPost_ret (results_cell_row rfl _ _ gb227 49 #[.slice Ao9 y231.length co9, .int .i64 a0_1, .int .i64 a0_2, .int .i64 a0_3, .int .i64 a0_4, .int .i64 a0_5] (0, 0) _ rfl kS Tryz.underlying49 rfl (by kernel_rfl)) rfl ?_
  exact ⟨_, eS, by exact rT (Kd.R_mono (Kd.R_far (p := ⟨gb227, 5, none⟩) (Kd.R_far (p := ⟨gb227, 4, none⟩) (Kd.R_far (p := ⟨gb227, 3, none⟩) (Kd.R_far (p := ⟨gb227, 2, none⟩) (Kd.R_far (p := ⟨gb227, 1, none⟩) (Kd.R_far (p := ⟨gb227, 0, none⟩) (Kd.R_types HO233.out BK227.out (by decide)) (fun _ hk => hk.2) (.slice Ao9 y231.length co9)) (fun _ hk => hk.2) (.int .i64 a0_1)) (fun _ hk => hk.2) (.int .i64 a0_2)) (fun _ hk => hk.2) (.int .i64 a0_3)) (fun _ hk => hk.2) (.int .i64 a0_4)) (fun _ hk => hk.2) (.int .i64 a0_5)) (fun _ hk => trivial)), bS⟩
 ·rw [if_neg c2] at H
  exact absurd H (by simp)

/-! ### spec_l05Copy: function 137 -/
def spec_l05Copy.f (l0 : List Int) : Option (List Int) := (some (([] : List Int) : List Int)).bind fun y234 => (if y234.length + l0.length < 17592186044416 then (some (y234 ++ l0)) else (none))
theorem spec_l05Copy.calls (A0 : Option Addr) (c0 : Nat) (l0 : List Int) (r : List Int) (w : World) (hr0 : Kd.C (Kd.int .i64) w A0 l0.length l0) (hc0 : l0.length ≤ c0) (h : spec_l05Copy.f l0 = some r) :
  Calls Tryz.prog 137 #[.slice A0 l0.length c0] w fun e w' => ∃ v0_ : Value, e = .returned (v0_) ∧ Kd.R (Kd.int .i64) 3 w' w.heap.size (fun _ => True) v0_ r ∧ Below w.heap.size w w' := by
 have HR0 := Aside0.mk hr0
 have HC0 := Aside0.mk hc0
 clear hr0 hc0
 have HB := Aside0.mk (Below.refl w.heap.size w)
 have H : ((some (([] : List Int) : List Int)).bind fun y234 => (if y234.length + l0.length < 17592186044416 then (some (y234 ++ l0)) else (none))) = some r := h
 clear h
 obtain ⟨y234, hy234⟩ : ∃ y_ : List Int, y_ = (([] : List Int)) := ⟨_, rfl⟩
 replace H : (if y234.length + l0.length < 17592186044416 then (some (y234 ++ l0)) else (none)) = some r := by first | (rw [hy234]; with_reducible exact H) | (have H2_ := (Option.bind_some _ _).symm.trans H; rw [hy234]; with_reducible exact H2_) | (have H2_ := (Option.bind_some _ _).symm.trans H; with_reducible exact H2_) | with_reducible exact H | (rw [hy234]; exact H) | exact H
 have Ny234 := Aside0.mk hy234
 clear hy234
 by_cases c2 : y234.length + l0.length < 17592186044416
 ·rw [if_pos c2] at H
  have LMc2 := Aside0.mk c2
  clear c2
  obtain ⟨y237, hy237⟩ : ∃ y_ : List Int, y_ = (y234 ++ l0) := ⟨_, rfl⟩
  replace H : (some y237) = some r := by first | (rw [hy237]; with_reducible exact H) | (have H2_ := (Option.bind_some _ _).symm.trans H; rw [hy237]; with_reducible exact H2_) | (have H2_ := (Option.bind_some _ _).symm.trans H; with_reducible exact H2_) | with_reducible exact H | (rw [hy237]; exact H) | exact H
  have Ny237 := Aside0.mk hy237
  clear hy237
  obtain rfl := Option.some.inj H
  go_enter Tryz.func137, Tryz.ntmps137
  go_wp2_with (first | ((with_reducible refine gate_dst (N := 3) rfl ?_); refine Kd.R_lit (Kd.int .i64) _ 3 ?hg (N := 3) ?hd (xs := ([] : List Int)) (inner := []) (ok := fun _ => True) (okp := fun _ => True) ?hr ?hp (fun _ hk => hk) trivial (Below.refl _ _) (Nat.le_refl _) (by simp) ?_; (case hd => rfl); (case hg => rfl); (case hr => first | (go_simp; done) | (go_simp; rfl)); (case hp => exact (Reps.none _ _)); intro v235 w3 ho4 hb hg_ hnew_; clear hg_ hnew_; (first | rw [← Ny234.out] at ho4 | (simp only [Int.reduceToNat] at ho4; rw [← Ny234.out] at ho4)); have HO236 := Aside0.mk (Kd.R_lower ho4 (below_size bS)); replace HB := hB hb; clear hb ho4) | ((with_reducible refine gate_builtin (b := .append) (xs := #[.tmp 3, .tmp 4]) rfl ?_); at_builtin; refine Kd.R_append_rows (Kd.int .i64) (w0 := w) w.heap.size rfl (.tmp 3) (.tmp 4) 54 3 (.int .i64 0) 8 rfl Tryz.underlying54 info3 rfl (by decide) (by omega) v235 y234 l0 _ _ _ (fun _ => True) (fun _ => False) rfl rfl ?aO ?aR (fun _ _ h => h) (fun _ h => h.elim) ?aF ?aB ?aS ?aL ?_; (case aR => exact cS (Kd.C_below HR0.out HB.out)); (case aB => exact bS); (case aF => exact (fun _ _ => trivial)); (case aO => exact (rS HO236)); (case aS => exact (below_size bS)); (case aL => have := LMc2.out; omega); intro v238 w5 ho hb hg hat; rw [← Ny237.out] at ho; have HO239 := Aside0.mk (ho); replace HB := Aside0.mk (hb); clear HO236; clear ho hb hg hat))
  go_ret
  exact ⟨_, eS, rS HO239, bS⟩
 ·rw [if_neg c2] at H
  exact absurd H (by simp)

/-! ### spec_l11Copy: function 113 -/
def spec_l11Copy.l0 : Nat → List (List Int) → List (List Int) → Int → Option ((List (List Int)))
 | 0, _, _, _ => none
 | k + 1, x0, x3, x4 => if x4 < (x0.length : Int) then (if 0 ≤ x4 then ((spec_l05Copy.f (rd_L1 x0 x4)).bind fun t244 => (if x3.length < 5864062014805 then (spec_l11Copy.l0 k x0 (x3 ++ [t244]) (wrap64 (x4 + 1))) else (none))) else (none)) else (some x3)
def spec_l11Copy.f (k : Nat) (l0 : List (List Int)) : Option ((List (List Int))) := spec_l11Copy.l0 k l0 (([] : List (List Int))) 0
theorem spec_l11Copy.calls (k : Nat) (A0 : Option Addr) (c0 : Nat) (l0 : List (List Int)) (r : List (List Int)) (w : World) (hr0 : Kd.C (Kd.slice 3 (Kd.int .i64)) w A0 l0.length l0) (hc0 : l0.length ≤ c0) (h : spec_l11Copy.f k l0 = some r) :
  Calls Tryz.prog 113 #[.slice A0 l0.length c0] w fun e w' => ∃ v0_ : Value, e = .returned (v0_) ∧ Kd.S (Kd.slice 3 (Kd.int .i64)) 54 w' w.heap.size (fun _ => True) v0_ r ∧ Below w.heap.size w w' := by
 have HR0 := Aside0.mk hr0
 have HC0 := Aside0.mk hc0
 clear hr0 hc0
 have HB := Aside0.mk (Below.refl w.heap.size w)
 have H : (spec_l11Copy.l0 k l0 (([] : List (List Int))) 0) = some r := h
 clear h
 obtain ⟨y240, hy240⟩ : ∃ y_ : List (List Int), y_ = (([] : List (List Int))) := ⟨_, rfl⟩
 replace H : (spec_l11Copy.l0 k l0 y240 0) = some r := by first | (rw [hy240]; with_reducible exact H) | (have H2_ := (Option.bind_some _ _).symm.trans H; rw [hy240]; with_reducible exact H2_) | (have H2_ := (Option.bind_some _ _).symm.trans H; with_reducible exact H2_) | with_reducible exact H | (rw [hy240]; exact H) | exact H
 have Ny240 := Aside0.mk hy240
 clear hy240
 have H' := Aside0.mk H
 clear H
 go_enter Tryz.func113, Tryz.ntmps113
 go_wp2_with (first | ((with_reducible refine gate_dst (N := 5) rfl ?_); refine Kd.S_lit (Kd.slice 3 (Kd.int .i64)) _ 54 ?hg (N := 5) ?hd (xs := ([] : List (List Int))) (inner := []) (ok := fun _ => True) (okp := fun _ => True) ?hr ?hp (fun _ hk => hk) trivial (Below.refl _ _) (Nat.le_refl _) (by simp) ?_; (case hd => rfl); (case hg => rfl); (case hr => first | (go_simp; done) | (go_simp; rfl)); (case hp => exact (Reps.none _ _)); intro v241 w2 ho3 hb hg_ hnew_; clear hg_ hnew_; (first | rw [← Ny240.out] at ho3 | (simp only [Int.reduceToNat] at ho3; rw [← Ny240.out] at ho3)); have HO242 := Aside0.mk (Kd.S_lower ho3 (below_size bS)); replace HB := hB hb; clear hb ho3))
 go_loopg [3, 4] k (fun kq v3 v4 w' => ∃ (x3_1 : List (List Int)) (x4_1 : Int), v4 = .int .i64 x4_1 ∧ Aside0 (spec_l11Copy.l0 kq l0 x3_1 x4_1 = some r) ∧ Aside0 (kq ≤ k) ∧ Aside0 (Kd.S (Kd.slice 3 (Kd.int .i64)) 54 w' w.heap.size (fun _ => True) v3 x3_1) ∧ Aside0 (Below w.heap.size w w'))
 case atStart => exact ⟨(y240), (0), fS, H', ⟨Nat.le_refl _⟩, ⟨sS HO242⟩, ⟨bS⟩⟩
 case round =>
  clear H'
  try clear c1
  try clear p2
  obtain ⟨x3_1, x4_1, rfl, HA, HK1, HO_3, HB⟩ := hrel
  cases gk with
  | zero => exact absurd HA.out (by simp [spec_l11Copy.l0])
  | succ k1 =>
   have H := HA.out
   clear HA
   simp only [spec_l11Copy.l0] at H
   rcases iD H with ⟨c4b0, H⟩ | ⟨c4b0, H⟩
   ·obtain ⟨c5b0, H⟩ := iT H
    replace H := bN H
    obtain ⟨t244, A6, H⟩ := H
    obtain ⟨LMc7, H⟩ := iL H
    obtain ⟨y247, hy247⟩ : ∃ y_ : List (List Int), y_ = (x3_1 ++ [t244]) := ⟨_, rfl⟩
    replace H : (spec_l11Copy.l0 k1 l0 y247 (wrap64 (x4_1 + 1))) = some r := by first | (rw [hy247]; with_reducible exact H) | (have H2_ := (Option.bind_some _ _).symm.trans H; rw [hy247]; with_reducible exact H2_) | (have H2_ := (Option.bind_some _ _).symm.trans H; with_reducible exact H2_) | with_reducible exact H | (rw [hy247]; exact H) | exact H
    have Ny247 := Aside0.mk hy247
    clear hy247
    have H' := Aside0.mk H
    clear H
    have p243 : 0 ≤ (x4_1 : Int) := dA
    have q243 : x4_1 < (l0.length : Int) := dA
    obtain ⟨ad243, A243_0, c243_0, e243, hx243_0, hl243_0, hi243_0⟩ := at_L1 HR0.out x4_1 p243 q243
    cases e243
    replace hx243_0 := cB HB hx243_0
    have HR243_0 := Aside0.mk hi243_0
    have HC243_0 := Aside0.mk hl243_0
    clear hi243_0 hl243_0
    replace p243 := eq_true p243
    replace q243 := eq_true q243
    go_wp2_with (first | ((with_reducible refine gC 137 ?_); refine cL (some 17) Tryz.func137 #[.slice A243_0 (rd_L1 l0 x4_1).length c243_0] ?_; (with_reducible refine (spec_l05Copy.calls _ _ (rd_L1 l0 x4_1) t244 _ (cS (Kd.C_below HR243_0.out HB.out)) HC243_0.out A6.out).mono ?_); rintro e w8 ⟨v245, rfl, ho0, hb⟩; refine ⟨_, rfl, ?_⟩; have HO246 := Aside0.mk (Kd.R_lower ho0 (below_size bS)); replace HO_3 := Aside0.mk (Kd.S_elder' (sS HO_3) (Kd.R_base ho0) hb); replace HB := hB hb; (try clear hb); (try clear hb2); (try clear hk); (try clear hi); (try clear ho0); obtain ⟨Ao10, co10, eo10⟩ := Kd.R_slice HO246.out; subst eo10) | ((with_reducible refine gate_builtin (b := .append) (xs := #[.tmp 12, .tmp 18]) rfl ?_); at_builtin; refine Kd.S_append (Kd.slice 3 (Kd.int .i64)) (w0 := w) w.heap.size rfl (.tmp 12) (.tmp 18) 22 54 (.slice none 0 0) 24 rfl Tryz.underlying22 info54 rfl (by decide) (by omega) u3 x3_1 t244 [.slice Ao10 t244.length co10] (fun _ => True) (fun k_ => some k_ = (.slice Ao10 t244.length co10 : Value).ownBlock) rfl rfl ?aP (fun k_ hk_ => ((Kd.R_mono (ok' := fun k_ => ((fun _ => True)) k_ ∧ some k_ ≠ (u3 : Value).ownBlock) (Kd.R_apart' (HO246.out) (Kd.S_typed HO_3.out) (by decide)) (fun k_ hk => ⟨trivial, hk.2⟩))).1 k_ hk_.symm) ?aF ?aO ?aB ?aS ?aL ?_; (case aP => exact Kd.M_row (Kd.R_mono (Kd.R_tight rfl (Kd.R_mono (ok' := fun k_ => ((fun _ => True)) k_ ∧ some k_ ≠ (u3 : Value).ownBlock) (Kd.R_apart' (HO246.out) (Kd.S_typed HO_3.out) (by decide)) (fun k_ hk => ⟨trivial, hk.2⟩))) (fun _ h_ => h_))); (case aB => exact bS); (case aF => exact (fun _ _ => trivial)); (case aO => exact (by exact sT (Kd.S_mono HO_3.out (fun k_ hk => ⟨trivial, fun e_ => hk.2 e_⟩)))); (case aS => exact (below_size bS)); (case aL => have := LMc7.out; omega); intro v248 w9 ho hb hg hat; rw [← Ny247.out] at ho; have HO249 := Aside0.mk (ho); replace HB := Aside0.mk (hb); clear HO_3 HO246; clear ho hb hg hat))
    go_roundg k1
    case measure => have := HK1.out; omega
    case rel => exact ⟨(y247), (wrap64 (x4_1 + 1)), fS, H', ⟨by have := HK1.out; omega⟩, ⟨sS HO249⟩, ⟨bS⟩⟩
   ·obtain rfl := Option.some.inj H
    go_wp2
    go_ret
    exact ⟨_, eS, sS HO_3, bS⟩

end Go.Proofs.YtncfipboidmfbaaGreat.QFnExactMergeBand
