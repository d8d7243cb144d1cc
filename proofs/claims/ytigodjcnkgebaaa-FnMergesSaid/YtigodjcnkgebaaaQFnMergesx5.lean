-- Made out of the translation by a program of this session (a changed copy of the print). Not trusted: Lean checks it.
import Derived.Test.YtigodjcnkgebaaaQFnMergesx0
import Derived.Test.YtigodjcnkgebaaaQFnMergesx3
import Derived.Test.YtigodjcnkgebaaaQFnMergesx4
namespace Go.Proofs.Ytigodjcnkgebaaa.QFnMerges
open Go.RowKit Go.Proofs.YtigodjcnkgebaaaW.PrintWords Go.Proofs.YtigodjcnkgebaaaW.PrintLast Go.Proofs.YtigodjcnkgebaaaW.PrintMore
attribute [local go_sem] max2_int min2_int max_two min_two max_three min_three max_four min_four   -- for this text's walks alone
set_option linter.unusedVariables false
set_option linter.unusedSimpArgs false
set_option maxHeartbeats 8000000
set_option maxRecDepth 100000

/-! ### spec_BandCells: function 98 -/
def spec_BandCells.l0 : Nat → Int → Int → Int → Int → List (List Int) → List (S45) → Option (Int)
 | 0, _, _, _, _, _, _ => none
 | k + 1, x3, x4, x335000, x335001, x335002, x335003 => if x4 < (x335003.length : Int) then (if 0 ≤ x4 then (spec_BandCells.l0 k (wrap64 ((wrap64 (x3 + 2)) + (((rd_T45 x335003 x4).f0).length : Int))) (wrap64 (x4 + 1)) x335000 x335001 x335002 x335003) else (none)) else (some x3)
def spec_BandCells.f (k : Nat) (a0_0 : Int) (a0_1 : Int) (l0_2 : List (List Int)) (l0_3 : List (S45)) : Option (Int) := spec_BandCells.l0 k 0 0 a0_0 a0_1 l0_2 l0_3
theorem spec_BandCells.calls (k : Nat) (a0_0 : Int) (a0_1 : Int) (A0_2 : Option Addr) (c0_2 : Nat) (l0_2 : List (List Int)) (A0_3 : Option Addr) (c0_3 : Nat) (l0_3 : List (S45)) (r : Int) (w : World) (hr0_2 : Kd.C (Kd.slice 3 (Kd.int .i64)) w A0_2 l0_2.length l0_2) (hc0_2 : l0_2.length ≤ c0_2) (hr0_3 : Kd.C k45 w A0_3 l0_3.length l0_3) (hc0_3 : l0_3.length ≤ c0_3) (h : spec_BandCells.f k a0_0 a0_1 l0_2 l0_3 = some r) :
  Calls Try.prog 98 #[.agg #[.int .i64 a0_0, .int .i64 a0_1, .slice A0_2 l0_2.length c0_2, .slice A0_3 l0_3.length c0_3]] w fun e w' => e = .returned (.int .i64 r) ∧ Below w.heap.size w w' := by
 have hu58 := Try.underlying58
 have HR0_2 := Aside0.mk hr0_2
 have HC0_2 := Aside0.mk hc0_2
 clear hr0_2 hc0_2
 have HR0_3 := Aside0.mk hr0_3
 have HC0_3 := Aside0.mk hc0_3
 clear hr0_3 hc0_3
 have HB := Aside0.mk (Below.refl w.heap.size w)
 have H : (spec_BandCells.l0 k 0 0 a0_0 a0_1 l0_2 l0_3) = some r := h
 clear h
 have H' := Aside0.mk H
 clear H
 go_enter Try.func98, Try.ntmps98
 go_wp2_with (first | ((with_reducible refine gD 1 ?_); refine bxE #[.int .i64 a0_0, .int .i64 a0_1, .slice A0_2 l0_2.length c0_2, .slice A0_3 l0_3.length c0_3] 58 ?_; intro gb334 hg w2 BK334 hb; have GW334 := gE hg; have GE334 := gE hg; replace HB := hB hb; clear hb hg))
 go_loopg [3, 4] k (fun kq v3 v4 w' => ∃ (x3_1 : Int) (x4_1 : Int), v3 = .int .i64 x3_1 ∧ v4 = .int .i64 x4_1 ∧ Aside0 (spec_BandCells.l0 kq x3_1 x4_1 a0_0 a0_1 l0_2 l0_3 = some r) ∧ Aside0 (kq ≤ k) ∧ Aside0 (w'.heap[gb334]? = some (.cells #[.int .i64 a0_0, .int .i64 a0_1, (.slice A0_2 l0_2.length c0_2), (.slice A0_3 l0_3.length c0_3)] 58 (0, 0))) ∧ Aside0 (Below w.heap.size w w'))
 case atStart => exact ⟨(0), (0), fS, fS, H', ⟨Nat.le_refl _⟩, ⟨kS⟩, ⟨bS⟩⟩
 case round =>
  clear H'
  try clear p2
  obtain ⟨x3_1, x4_1, rfl, rfl, HA, HK1, BK334, HB⟩ := hrel
  cases gk with
  | zero => exact absurd HA.out (by simp [spec_BandCells.l0])
  | succ k1 =>
   have H := HA.out
   clear HA
   simp only [spec_BandCells.l0] at H
   rcases iD H with ⟨c3b0, H⟩ | ⟨c3b0, H⟩
   ·obtain ⟨c4b0, H⟩ := iT H
    have H' := Aside0.mk H
    clear H
    have hz5 := cz4 BK334
    have p335 : 0 ≤ (x4_1 : Int) := dA
    have q335 : x4_1 < (l0_3.length : Int) := dA
    obtain ⟨ad335, A335_0, c335_0, e335, hx335_0, hx335_1, hx335_2, hx335_3, hx335_4, hx335_5, hl335_0, hi335_0⟩ := at_T45 HR0_3.out x4_1 p335 q335
    cases e335
    replace hx335_0 := cB HB hx335_0
    replace hx335_1 := cB HB hx335_1
    replace hx335_2 := cB HB hx335_2
    replace hx335_3 := cB HB hx335_3
    replace hx335_4 := cB HB hx335_4
    replace hx335_5 := cB HB hx335_5
    have HR335_0 := Aside0.mk hi335_0
    have HC335_0 := Aside0.mk hl335_0
    clear hi335_0 hl335_0
    replace p335 := eq_true p335
    replace q335 := eq_true q335
    go_wp2
    go_roundg k1
    case measure => have := HK1.out; omega
    case rel => exact ⟨(wrap64 ((wrap64 (x3_1 + 2)) + (((rd_T45 l0_3 x4_1).f0).length : Int))), (wrap64 (x4_1 + 1)), fS, fS, H', ⟨by have := HK1.out; omega⟩, ⟨kS⟩, ⟨bS⟩⟩
   ·obtain rfl := Option.some.inj H
    have hz6 := cz4 BK334
    go_wp2
    go_ret
    exact ⟨eS, bS⟩

/-! ### spec_BandOk: function 33 -/
def spec_BandOk.l0 : Nat → Int → Int → Int → List (List Int) → List (S45) → Option (Bool)
 | 0, _, _, _, _, _ => none
 | k + 1, x3, x337000, x337001, x337002, x337003 => if x3 < (x337003.length : Int) then (if 0 ≤ x3 then ((spec_ObjectOk.f k ((rd_T45 x337003 x3).f0) ((rd_T45 x337003 x3).f1) ((rd_T45 x337003 x3).f2.f0) ((rd_T45 x337003 x3).f2.f1) ((rd_T45 x337003 x3).f2.f2) ((rd_T45 x337003 x3).f2.f3)).bind fun t338 => (if t338 = true then (spec_BandOk.l0 k (wrap64 (x3 + 1)) x337000 x337001 x337002 x337003) else (some false))) else (none)) else ((spec_l12Ok.f x337000 x337001).bind fun t339 => (if t339 = true then (if (x337002.length : Int) = x337000 then ((spec_RowsOk.f k x337002).bind fun t340 => (if t340 = true then ((spec_BandCells.f k x337000 x337001 x337002 x337003).bind fun t341 => (some (decide (t341 ≤ 60)))) else (some false))) else (some false)) else (some false)))
def spec_BandOk.f (k : Nat) (a0_0 : Int) (a0_1 : Int) (l0_2 : List (List Int)) (l0_3 : List (S45)) : Option (Bool) := spec_BandOk.l0 k 0 a0_0 a0_1 l0_2 l0_3
theorem spec_BandOk.calls (k : Nat) (a0_0 : Int) (a0_1 : Int) (A0_2 : Option Addr) (c0_2 : Nat) (l0_2 : List (List Int)) (A0_3 : Option Addr) (c0_3 : Nat) (l0_3 : List (S45)) (r : Bool) (w : World) (hr0_2 : Kd.C (Kd.slice 3 (Kd.int .i64)) w A0_2 l0_2.length l0_2) (hc0_2 : l0_2.length ≤ c0_2) (hr0_3 : Kd.C k45 w A0_3 l0_3.length l0_3) (hc0_3 : l0_3.length ≤ c0_3) (h : spec_BandOk.f k a0_0 a0_1 l0_2 l0_3 = some r) :
  Calls Try.prog 33 #[.agg #[.int .i64 a0_0, .int .i64 a0_1, .slice A0_2 l0_2.length c0_2, .slice A0_3 l0_3.length c0_3]] w fun e w' => e = .returned (.bool r) ∧ Below w.heap.size w w' := by
 have hu58 := Try.underlying58
 have hu45 := Try.underlying45
 have HR0_2 := Aside0.mk hr0_2
 have HC0_2 := Aside0.mk hc0_2
 clear hr0_2 hc0_2
 have HR0_3 := Aside0.mk hr0_3
 have HC0_3 := Aside0.mk hc0_3
 clear hr0_3 hc0_3
 have HB := Aside0.mk (Below.refl w.heap.size w)
 have H : (spec_BandOk.l0 k 0 a0_0 a0_1 l0_2 l0_3) = some r := h
 clear h
 have H' := Aside0.mk H
 clear H
 go_enter Try.func33, Try.ntmps33
 go_wp2_with (first | ((with_reducible refine gD 1 ?_); refine bxE #[.int .i64 a0_0, .int .i64 a0_1, .slice A0_2 l0_2.length c0_2, .slice A0_3 l0_3.length c0_3] 58 ?_; intro gb336 hg w2 BK336 hb; have GW336 := gE hg; have GE336 := gE hg; replace HB := hB hb; clear hb hg))
 go_loopg [3] k (fun kq v3 w' => ∃ (x3_1 : Int), v3 = .int .i64 x3_1 ∧ Aside0 (spec_BandOk.l0 kq x3_1 a0_0 a0_1 l0_2 l0_3 = some r) ∧ Aside0 (kq ≤ k) ∧ Aside0 (w'.heap[gb336]? = some (.cells #[.int .i64 a0_0, .int .i64 a0_1, (.slice A0_2 l0_2.length c0_2), (.slice A0_3 l0_3.length c0_3)] 58 (0, 0))) ∧ Aside0 (Below w.heap.size w w'))
 case atStart => exact ⟨(0), fS, H', ⟨Nat.le_refl _⟩, ⟨kS⟩, ⟨bS⟩⟩
 case round =>
  clear H'
  try clear p2
  obtain ⟨x3_1, rfl, HA, HK1, BK336, HB⟩ := hrel
  cases gk with
  | zero => exact absurd HA.out (by simp [spec_BandOk.l0])
  | succ k1 =>
   have H := HA.out
   clear HA
   simp only [spec_BandOk.l0] at H
   rcases iD H with ⟨c3b0, H⟩ | ⟨c3b0, H⟩
   ·obtain ⟨c4b0, H⟩ := iT H
    replace H := bN H
    obtain ⟨t338, A5, H⟩ := H
    by_cases c6 : t338 = true
    ·subst c6
     rw [if_pos rfl] at H
     have H' := Aside0.mk H
     clear H
     have hz7 := cz4 BK336
     have p337 : 0 ≤ (x3_1 : Int) := dA
     have q337 : x3_1 < (l0_3.length : Int) := dA
     obtain ⟨ad337, A337_0, c337_0, e337, hx337_0, hx337_1, hx337_2, hx337_3, hx337_4, hx337_5, hl337_0, hi337_0⟩ := at_T45 HR0_3.out x3_1 p337 q337
     cases e337
     replace hx337_0 := cB HB hx337_0
     replace hx337_1 := cB HB hx337_1
     replace hx337_2 := cB HB hx337_2
     replace hx337_3 := cB HB hx337_3
     replace hx337_4 := cB HB hx337_4
     replace hx337_5 := cB HB hx337_5
     have HR337_0 := Aside0.mk hi337_0
     have HC337_0 := Aside0.mk hl337_0
     clear hi337_0 hl337_0
     replace p337 := eq_true p337
     replace q337 := eq_true q337
     go_wp2_with (first | ((with_reducible refine gC 95 ?_); refine cL (some 16) Try.func95 #[.agg #[.slice A337_0 ((rd_T45 l0_3 x3_1).f0).length c337_0, .int .i64 ((rd_T45 l0_3 x3_1).f1), .int .i64 ((rd_T45 l0_3 x3_1).f2.f0), .int .i64 ((rd_T45 l0_3 x3_1).f2.f1), .int .i64 ((rd_T45 l0_3 x3_1).f2.f2), .int .i64 ((rd_T45 l0_3 x3_1).f2.f3)]] ?_; (with_reducible refine (spec_ObjectOk.calls k1 _ _ ((rd_T45 l0_3 x3_1).f0) ((rd_T45 l0_3 x3_1).f1) ((rd_T45 l0_3 x3_1).f2.f0) ((rd_T45 l0_3 x3_1).f2.f1) ((rd_T45 l0_3 x3_1).f2.f2) ((rd_T45 l0_3 x3_1).f2.f3) _ _ (cS (Kd.C_below HR337_0.out HB.out)) HC337_0.out A5.out).mono ?_); rintro e w8 ⟨rfl, hb⟩; refine ⟨_, rfl, ?_⟩; replace BK336 := kB (g := gb336) hb; replace HB := hB hb; (try clear hb); (try clear hb2); (try clear hk); (try clear hi)))
     go_roundg k1
     case measure => have := HK1.out; omega
     case rel => exact ⟨(wrap64 (x3_1 + 1)), fS, H', ⟨by have := HK1.out; omega⟩, ⟨kS⟩, ⟨bS⟩⟩
    ·obtain rfl := Bool.eq_false_iff.mpr c6
     rw [if_neg nF] at H
     obtain rfl := Option.some.inj H
     have hz9 := cz4 BK336
     have p337 : 0 ≤ (x3_1 : Int) := dA
     have q337 : x3_1 < (l0_3.length : Int) := dA
     obtain ⟨ad337, A337_0, c337_0, e337, hx337_0, hx337_1, hx337_2, hx337_3, hx337_4, hx337_5, hl337_0, hi337_0⟩ := at_T45 HR0_3.out x3_1 p337 q337
     cases e337
     replace hx337_0 := cB HB hx337_0
     replace hx337_1 := cB HB hx337_1
     replace hx337_2 := cB HB hx337_2
     replace hx337_3 := cB HB hx337_3
     replace hx337_4 := cB HB hx337_4
     replace hx337_5 := cB HB hx337_5
     have HR337_0 := Aside0.mk hi337_0
     have HC337_0 := Aside0.mk hl337_0
     clear hi337_0 hl337_0
     replace p337 := eq_true p337
     replace q337 := eq_true q337
     go_wp2_with (first | ((with_reducible refine gC 95 ?_); refine cL (some 16) Try.func95 #[.agg #[.slice A337_0 ((rd_T45 l0_3 x3_1).f0).length c337_0, .int .i64 ((rd_T45 l0_3 x3_1).f1), .int .i64 ((rd_T45 l0_3 x3_1).f2.f0), .int .i64 ((rd_T45 l0_3 x3_1).f2.f1), .int .i64 ((rd_T45 l0_3 x3_1).f2.f2), .int .i64 ((rd_T45 l0_3 x3_1).f2.f3)]] ?_; (with_reducible refine (spec_ObjectOk.calls k1 _ _ ((rd_T45 l0_3 x3_1).f0) ((rd_T45 l0_3 x3_1).f1) ((rd_T45 l0_3 x3_1).f2.f0) ((rd_T45 l0_3 x3_1).f2.f1) ((rd_T45 l0_3 x3_1).f2.f2) ((rd_T45 l0_3 x3_1).f2.f3) _ _ (cS (Kd.C_below HR337_0.out HB.out)) HC337_0.out A5.out).mono ?_); rintro e w10 ⟨rfl, hb⟩; refine ⟨_, rfl, ?_⟩; replace BK336 := kB (g := gb336) hb; replace HB := hB hb; (try clear hb); (try clear hb2); (try clear hk); (try clear hi)))
     go_ret
     exact ⟨eS, bS⟩
   ·replace H := bN H
    obtain ⟨t339, A11, H⟩ := H
    by_cases c12 : t339 = true
    ·subst c12
     rw [if_pos rfl] at H
     by_cases c13 : (l0_2.length : Int) = a0_0
     ·rw [if_pos c13] at H
      have c13b0 : ((l0_2.length : Int) == a0_0) = true := beq_iff_eq.mpr c13
      have c13b1 : ((l0_2.length : Int) != a0_0) = false := bne_eq_false_iff_eq.mpr c13
      clear c13
      replace H := bN H
      obtain ⟨t340, A14, H⟩ := H
      by_cases c15 : t340 = true
      ·subst c15
       rw [if_pos rfl] at H
       replace H := bN H
       obtain ⟨t341, A16, H⟩ := H
       obtain rfl := Option.some.inj H
       have hz17 := cz4 BK336
       go_wp2_with (first | ((with_reducible refine gC 96 ?_); refine cL (some 22) Try.func96 #[.int .i64 a0_0, .int .i64 a0_1] ?_; (with_reducible refine (spec_l12Ok.calls a0_0 a0_1 _ _ A11.out).mono ?_); rintro e w' ⟨rfl, ⟨nd, rfl⟩⟩; refine ⟨_, rfl, ?_⟩) | (go_at_call 97; (with_reducible refine (spec_RowsOk.calls k1 _ _ l0_2 _ _ (cS (Kd.C_below HR0_2.out bS)) HC0_2.out A14.out).mono ?_); rintro e w' ⟨rfl, ⟨nd, rfl⟩⟩) | (go_at_call 98; (with_reducible refine (spec_BandCells.calls k1 a0_0 a0_1 _ _ l0_2 _ _ l0_3 t341 _ (cS (Kd.C_below HR0_2.out bS)) HC0_2.out (cS (Kd.C_below HR0_3.out bS)) HC0_3.out A16.out).mono ?_); rintro e w18 ⟨rfl, hb⟩; replace BK336 := kB (g := gb336) hb; replace HB := hB hb; (try clear hb); (try clear hb2); (try clear hk); (try clear hi)))
       go_ret
       exact ⟨eS, bS⟩
      ·obtain rfl := Bool.eq_false_iff.mpr c15
       rw [if_neg nF] at H
       obtain rfl := Option.some.inj H
       have hz19 := cz4 BK336
       go_wp2_with (first | ((with_reducible refine gC 96 ?_); refine cL (some 22) Try.func96 #[.int .i64 a0_0, .int .i64 a0_1] ?_; (with_reducible refine (spec_l12Ok.calls a0_0 a0_1 _ _ A11.out).mono ?_); rintro e w' ⟨rfl, ⟨nd, rfl⟩⟩; refine ⟨_, rfl, ?_⟩) | (go_at_call 97; (with_reducible refine (spec_RowsOk.calls k1 _ _ l0_2 _ _ (cS (Kd.C_below HR0_2.out bS)) HC0_2.out A14.out).mono ?_); rintro e w' ⟨rfl, ⟨nd, rfl⟩⟩))
       go_ret
       exact ⟨eS, bS⟩
     ·rw [if_neg c13] at H
      have c13b0 : ((l0_2.length : Int) == a0_0) = false := beq_eq_false_iff_ne.mpr c13
      have c13b1 : ((l0_2.length : Int) != a0_0) = true := bne_iff_ne.mpr c13
      obtain rfl := Option.some.inj H
      have hz20 := cz4 BK336
      go_wp2_with (first | ((with_reducible refine gC 96 ?_); refine cL (some 22) Try.func96 #[.int .i64 a0_0, .int .i64 a0_1] ?_; (with_reducible refine (spec_l12Ok.calls a0_0 a0_1 _ _ A11.out).mono ?_); rintro e w' ⟨rfl, ⟨nd, rfl⟩⟩; refine ⟨_, rfl, ?_⟩))
      go_ret
      exact ⟨eS, bS⟩
    ·obtain rfl := Bool.eq_false_iff.mpr c12
     rw [if_neg nF] at H
     obtain rfl := Option.some.inj H
     have hz21 := cz4 BK336
     go_wp2_with (first | ((with_reducible refine gC 96 ?_); refine cL (some 22) Try.func96 #[.int .i64 a0_0, .int .i64 a0_1] ?_; (with_reducible refine (spec_l12Ok.calls a0_0 a0_1 _ _ A11.out).mono ?_); rintro e w' ⟨rfl, ⟨nd, rfl⟩⟩; refine ⟨_, rfl, ?_⟩))
     go_ret
     exact ⟨eS, bS⟩

/-! ### spec_MeetBox: function 142 -/
def spec_MeetBox.f (a0_0 : Int) (a0_1 : Int) (a0_2 : Int) (a0_3 : Int) (a1_0 : Int) (a1_1 : Int) (a1_2 : Int) (a1_3 : Int) : Option (Int × Int × Int × Int) := (spec_BoxOk.f a0_0 a0_1 a0_2 a0_3).bind fun t346 => (if t346 = true then ((spec_BoxOk.f a1_0 a1_1 a1_2 a1_3).bind fun t347 => (if t347 = true then (if (mx a0_0 a1_0) ≥ (mn a0_2 a1_2) then (some (0, 0, 0, 0)) else (if (mx a0_1 a1_1) ≥ (mn a0_3 a1_3) then (some (0, 0, 0, 0)) else (some (mx a0_0 a1_0, mx a0_1 a1_1, mn a0_2 a1_2, mn a0_3 a1_3)))) else (some (0, 0, 0, 0)))) else (some (0, 0, 0, 0)))
theorem spec_MeetBox.lf0 {p : Prop} (h : p := by
 go_enter Try.func142, Try.ntmps142
 go_wp2_with (first | ((with_reducible refine gD 2 ?_); refine bxE #[.int .i64 a0_0, .int .i64 a0_1, .int .i64 a0_2, .int .i64 a0_3] 43 ?_; intro gb342 hg w12 BK342 hb; have GW342 := gE hg; have GE342 := gE hg; replace HB := hB hb; clear hb hg) | ((with_reducible refine gD 3 ?_); refine bxE #[.int .i64 a1_0, .int .i64 a1_1, .int .i64 a1_2, .int .i64 a1_3] 43 ?_; intro gb343 hg w13 BK343 hb; have GW343 := gE hg; have GE343 := gE hg; have NB342_343 := nL (g := gb342) hg; have NB343_342 := nG (g := gb342) hg; replace BK342 := kB (g := gb342) hb; replace HB := hB hb; clear hb hg) | ((with_reducible refine gD 4 ?_); refine bxE #[.int .i64 0, .int .i64 0, .int .i64 0, .int .i64 0] 43 ?_; intro gb344 hg w14 BK344 hb; have GW344 := gE hg; have GE344 := gE hg; have NB342_344 := nL (g := gb342) hg; have NB344_342 := nG (g := gb342) hg; have NB343_344 := nL (g := gb343) hg; have NB344_343 := nG (g := gb343) hg; replace BK342 := kB (g := gb342) hb; replace BK343 := kB (g := gb343) hb; replace HB := hB hb; clear hb hg; have hnb15 := NB342_343.out; have hnc15 := NB343_342.out; have hnb16 := NB342_344.out; have hnc16 := NB344_342.out; have hz17 := cz4 BK342; have hnb18 := NB343_344.out; have hnc18 := NB344_343.out; have hz19 := cz4 BK343) | ((with_reducible refine gD 5 ?_); refine bxE #[.int .i64 0, .int .i64 0, .int .i64 0, .int .i64 0] 43 ?_; intro gb345 hg w20 BK345 hb; have GW345 := gE hg; have GE345 := gE hg; have NB342_345 := nL (g := gb342) hg; have NB345_342 := nG (g := gb342) hg; have NB343_345 := nL (g := gb343) hg; have NB345_343 := nG (g := gb343) hg; have NB344_345 := nL (g := gb344) hg; have NB345_344 := nG (g := gb344) hg; replace BK342 := kB (g := gb342) hb; replace BK343 := kB (g := gb343) hb; replace BK344 := kB (g := gb344) hb; replace HB := hB hb; clear hb hg; have hnb21 := NB345_342.out; have hnc21 := NB342_345.out; have hnb22 := NB345_343.out; have hnc22 := NB343_345.out; have hnb23 := NB345_344.out; have hnc23 := NB344_345.out; have hz24 := cz4 BK345; have hz25 := cz4 BK342) | ((with_reducible refine gC 145 ?_); refine cL (some 28) Try.func145 #[.agg #[.int .i64 a0_0, .int .i64 a0_1, .int .i64 a0_2, .int .i64 a0_3]] ?_; (with_reducible refine (spec_BoxOk.calls a0_0 a0_1 a0_2 a0_3 _ _ A7.out).mono ?_); rintro e w26 ⟨rfl, hb⟩; refine ⟨_, rfl, ?_⟩; replace BK342 := kB (g := gb342) hb; replace BK343 := kB (g := gb343) hb; replace BK344 := kB (g := gb344) hb; replace BK345 := Aside0.mk (blk_below (g := gb345) (o := .cells #[.int .i64 ji3, .int .i64 ji4, .int .i64 ji5, .int .i64 ji6] 43 (0, 0)) kS hb); replace HB := hB hb; (try clear hb); (try clear hb2); (try clear hk); (try clear hi); have hz27 := cz4 BK343) | (go_at_call 145; (with_reducible refine (spec_BoxOk.calls a1_0 a1_1 a1_2 a1_3 _ _ A9.out).mono ?_); rintro e w28 ⟨rfl, hb⟩; replace BK342 := kB (g := gb342) hb; replace BK343 := kB (g := gb343) hb; replace BK344 := kB (g := gb344) hb; replace BK345 := kB (g := gb345) hb; replace HB := hB hb; (try clear hb); (try clear hb2); (try clear hk); (try clear hi); have hz29 := cz4 BK345; have hz30 := cz4 BK344))
 refine bodyPost_ret (results_cell_row rfl _ _ gb344 43 #[.int .i64 0, .int .i64 0, .int .i64 0, .int .i64 0] (0, 0) _ rfl kS Try.underlying43 rfl (by kernel_rfl)) rfl ?_
 exact ⟨by first | rfl | (simp [errW_none, errW_some] <;> rfl) | (simp only [← hji3, ← hji4, ← hji5, ← hji6]; first | rfl | (simp [errW_none, errW_some] <;> rfl)) | (simp [*, errW_none, errW_some] <;> rfl), bS⟩) : p := h
theorem spec_MeetBox.calls (a0_0 : Int) (a0_1 : Int) (a0_2 : Int) (a0_3 : Int) (a1_0 : Int) (a1_1 : Int) (a1_2 : Int) (a1_3 : Int) (r1 : Int) (r2 : Int) (r3 : Int) (r4 : Int) (w : World) (h : spec_MeetBox.f a0_0 a0_1 a0_2 a0_3 a1_0 a1_1 a1_2 a1_3 = some (r1, r2, r3, r4)) :
  Calls Try.prog 142 #[.agg #[.int .i64 a0_0, .int .i64 a0_1, .int .i64 a0_2, .int .i64 a0_3], .agg #[.int .i64 a1_0, .int .i64 a1_1, .int .i64 a1_2, .int .i64 a1_3]] w fun e w' => e = .returned (.agg #[.int .i64 r1, .int .i64 r2, .int .i64 r3, .int .i64 r4]) ∧ Below w.heap.size w w' := by
 have hu43 := Try.underlying43
 have HB := Aside0.mk (Below.refl w.heap.size w)
 have H : ((spec_BoxOk.f a0_0 a0_1 a0_2 a0_3).bind fun t346 => (if t346 = true then ((spec_BoxOk.f a1_0 a1_1 a1_2 a1_3).bind fun t347 => (if t347 = true then (if (mx a0_0 a1_0) ≥ (mn a0_2 a1_2) then (some (0, 0, 0, 0)) else (if (mx a0_1 a1_1) ≥ (mn a0_3 a1_3) then (some (0, 0, 0, 0)) else (some (mx a0_0 a1_0, mx a0_1 a1_1, mn a0_2 a1_2, mn a0_3 a1_3)))) else (some (0, 0, 0, 0)))) else (some (0, 0, 0, 0)))) = some (r1, r2, r3, r4) := h
 clear h
 obtain ⟨ji3, hji3⟩ : ∃ j_ : Int, (mx a0_0 a1_0) = j_ := ⟨_, rfl⟩
 replace H : ((spec_BoxOk.f a0_0 a0_1 a0_2 a0_3).bind fun t346 => (if t346 = true then ((spec_BoxOk.f a1_0 a1_1 a1_2 a1_3).bind fun t347 => (if t347 = true then (if (ji3) ≥ (mn a0_2 a1_2) then (some (0, 0, 0, 0)) else (if (mx a0_1 a1_1) ≥ (mn a0_3 a1_3) then (some (0, 0, 0, 0)) else (some (ji3, mx a0_1 a1_1, mn a0_2 a1_2, mn a0_3 a1_3)))) else (some (0, 0, 0, 0)))) else (some (0, 0, 0, 0)))) = some (r1, r2, r3, r4) := by first | (rw [hji3] at H; exact H) | (simp only [hji3] at H ⊢; exact H)
 have hji3_ : (if a0_0 < a1_0 then a1_0 else a0_0) = ji3 := hji3
 obtain ⟨ji4, hji4⟩ : ∃ j_ : Int, (mx a0_1 a1_1) = j_ := ⟨_, rfl⟩
 replace H : ((spec_BoxOk.f a0_0 a0_1 a0_2 a0_3).bind fun t346 => (if t346 = true then ((spec_BoxOk.f a1_0 a1_1 a1_2 a1_3).bind fun t347 => (if t347 = true then (if (ji3) ≥ (mn a0_2 a1_2) then (some (0, 0, 0, 0)) else (if (ji4) ≥ (mn a0_3 a1_3) then (some (0, 0, 0, 0)) else (some (ji3, ji4, mn a0_2 a1_2, mn a0_3 a1_3)))) else (some (0, 0, 0, 0)))) else (some (0, 0, 0, 0)))) = some (r1, r2, r3, r4) := by first | (rw [hji4] at H; exact H) | (simp only [hji4] at H ⊢; exact H)
 have hji4_ : (if a0_1 < a1_1 then a1_1 else a0_1) = ji4 := hji4
 obtain ⟨ji5, hji5⟩ : ∃ j_ : Int, (mn a0_2 a1_2) = j_ := ⟨_, rfl⟩
 replace H : ((spec_BoxOk.f a0_0 a0_1 a0_2 a0_3).bind fun t346 => (if t346 = true then ((spec_BoxOk.f a1_0 a1_1 a1_2 a1_3).bind fun t347 => (if t347 = true then (if (ji3) ≥ (ji5) then (some (0, 0, 0, 0)) else (if (ji4) ≥ (mn a0_3 a1_3) then (some (0, 0, 0, 0)) else (some (ji3, ji4, ji5, mn a0_3 a1_3)))) else (some (0, 0, 0, 0)))) else (some (0, 0, 0, 0)))) = some (r1, r2, r3, r4) := by first | (rw [hji5] at H; exact H) | (simp only [hji5] at H ⊢; exact H)
 have hji5_ : (if a1_2 < a0_2 then a1_2 else a0_2) = ji5 := hji5
 obtain ⟨ji6, hji6⟩ : ∃ j_ : Int, (mn a0_3 a1_3) = j_ := ⟨_, rfl⟩
 replace H : ((spec_BoxOk.f a0_0 a0_1 a0_2 a0_3).bind fun t346 => (if t346 = true then ((spec_BoxOk.f a1_0 a1_1 a1_2 a1_3).bind fun t347 => (if t347 = true then (if (ji3) ≥ (ji5) then (some (0, 0, 0, 0)) else (if (ji4) ≥ (ji6) then (some (0, 0, 0, 0)) else (some (ji3, ji4, ji5, ji6)))) else (some (0, 0, 0, 0)))) else (some (0, 0, 0, 0)))) = some (r1, r2, r3, r4) := by first | (rw [hji6] at H; exact H) | (simp only [hji6] at H ⊢; exact H)
 have hji6_ : (if a1_3 < a0_3 then a1_3 else a0_3) = ji6 := hji6
 replace H := bN H
 obtain ⟨t346, A7, H⟩ := H
 by_cases c8 : t346 = true
 ·subst c8
  rw [if_pos rfl] at H
  replace H := bN H
  obtain ⟨t347, A9, H⟩ := H
  by_cases c10 : t347 = true
  ·subst c10
   rw [if_pos rfl] at H
   by_cases c11 : (ji3) ≥ (ji5)
   ·rw [if_pos c11] at H
    have c11b0 : decide ((ji5) ≤ (ji3)) = true := decide_eq_true c11
    clear c11
    obtain ⟨rfl, rfl, rfl, rfl⟩ := sI4 H
    exact spec_MeetBox.lf0
   ·rw [if_neg c11] at H
    have c11b0 : decide ((ji5) ≤ (ji3)) = false := decide_eq_false c11
    clear c11
    by_cases c31 : (ji4) ≥ (ji6)
    ·rw [if_pos c31] at H
     have c31b0 : decide ((ji6) ≤ (ji4)) = true := decide_eq_true c31
     clear c31
     obtain ⟨rfl, rfl, rfl, rfl⟩ := sI4 H
     exact spec_MeetBox.lf0
    ·rw [if_neg c31] at H
     have c31b0 : decide ((ji6) ≤ (ji4)) = false := decide_eq_false c31
     clear c31
     obtain ⟨rfl, rfl, rfl, rfl⟩ := sI4 H
     go_enter Try.func142, Try.ntmps142
     go_wp2_with (first | ((with_reducible refine gD 2 ?_); refine bxE #[.int .i64 a0_0, .int .i64 a0_1, .int .i64 a0_2, .int .i64 a0_3] 43 ?_; intro gb342 hg w51 BK342 hb; have GW342 := gE hg; have GE342 := gE hg; replace HB := hB hb; clear hb hg) | ((with_reducible refine gD 3 ?_); refine bxE #[.int .i64 a1_0, .int .i64 a1_1, .int .i64 a1_2, .int .i64 a1_3] 43 ?_; intro gb343 hg w52 BK343 hb; have GW343 := gE hg; have GE343 := gE hg; have NB342_343 := nL (g := gb342) hg; have NB343_342 := nG (g := gb342) hg; replace BK342 := kB (g := gb342) hb; replace HB := hB hb; clear hb hg) | ((with_reducible refine gD 4 ?_); refine bxE #[.int .i64 0, .int .i64 0, .int .i64 0, .int .i64 0] 43 ?_; intro gb344 hg w53 BK344 hb; have GW344 := gE hg; have GE344 := gE hg; have NB342_344 := nL (g := gb342) hg; have NB344_342 := nG (g := gb342) hg; have NB343_344 := nL (g := gb343) hg; have NB344_343 := nG (g := gb343) hg; replace BK342 := kB (g := gb342) hb; replace BK343 := kB (g := gb343) hb; replace HB := hB hb; clear hb hg; have hnb54 := NB342_343.out; have hnc54 := NB343_342.out; have hnb55 := NB342_344.out; have hnc55 := NB344_342.out; have hz56 := cz4 BK342; have hnb57 := NB343_344.out; have hnc57 := NB344_343.out; have hz58 := cz4 BK343) | ((with_reducible refine gD 5 ?_); refine bxE #[.int .i64 0, .int .i64 0, .int .i64 0, .int .i64 0] 43 ?_; intro gb345 hg w59 BK345 hb; have GW345 := gE hg; have GE345 := gE hg; have NB342_345 := nL (g := gb342) hg; have NB345_342 := nG (g := gb342) hg; have NB343_345 := nL (g := gb343) hg; have NB345_343 := nG (g := gb343) hg; have NB344_345 := nL (g := gb344) hg; have NB345_344 := nG (g := gb344) hg; replace BK342 := kB (g := gb342) hb; replace BK343 := kB (g := gb343) hb; replace BK344 := kB (g := gb344) hb; replace HB := hB hb; clear hb hg; have hnb60 := NB345_342.out; have hnc60 := NB342_345.out; have hnb61 := NB345_343.out; have hnc61 := NB343_345.out; have hnb62 := NB345_344.out; have hnc62 := NB344_345.out; have hz63 := cz4 BK345; have hz64 := cz4 BK342) | ((with_reducible refine gC 145 ?_); refine cL (some 28) Try.func145 #[.agg #[.int .i64 a0_0, .int .i64 a0_1, .int .i64 a0_2, .int .i64 a0_3]] ?_; (with_reducible refine (spec_BoxOk.calls a0_0 a0_1 a0_2 a0_3 _ _ A7.out).mono ?_); rintro e w65 ⟨rfl, hb⟩; refine ⟨_, rfl, ?_⟩; replace BK342 := kB (g := gb342) hb; replace BK343 := kB (g := gb343) hb; replace BK344 := kB (g := gb344) hb; replace BK345 := Aside0.mk (blk_below (g := gb345) (o := .cells #[.int .i64 ji3, .int .i64 ji4, .int .i64 ji5, .int .i64 ji6] 43 (0, 0)) kS hb); replace HB := hB hb; (try clear hb); (try clear hb2); (try clear hk); (try clear hi); have hz66 := cz4 BK343) | (go_at_call 145; (with_reducible refine (spec_BoxOk.calls a1_0 a1_1 a1_2 a1_3 _ _ A9.out).mono ?_); rintro e w67 ⟨rfl, hb⟩; replace BK342 := kB (g := gb342) hb; replace BK343 := kB (g := gb343) hb; replace BK344 := kB (g := gb344) hb; replace BK345 := kB (g := gb345) hb; replace HB := hB hb; (try clear hb); (try clear hb2); (try clear hk); (try clear hi); have hz68 := cz4 BK345; have hz69 := cz4 BK344))
     refine bodyPost_ret (results_cell_row rfl _ _ gb344 43 #[.int .i64 ji3, .int .i64 ji4, .int .i64 ji5, .int .i64 ji6] (0, 0) _ rfl kS Try.underlying43 rfl (by kernel_rfl)) rfl ?_
     exact ⟨by first | rfl | (simp [errW_none, errW_some] <;> rfl) | (simp only [← hji3, ← hji4, ← hji5, ← hji6]; first | rfl | (simp [errW_none, errW_some] <;> rfl)) | (simp [*, errW_none, errW_some] <;> rfl), bS⟩
  ·obtain rfl := Bool.eq_false_iff.mpr c10
   rw [if_neg nF] at H
   obtain ⟨rfl, rfl, rfl, rfl⟩ := sI4 H
   go_enter Try.func142, Try.ntmps142
   go_wp2_with (first | ((with_reducible refine gD 2 ?_); refine bxE #[.int .i64 a0_0, .int .i64 a0_1, .int .i64 a0_2, .int .i64 a0_3] 43 ?_; intro gb342 hg w70 BK342 hb; have GW342 := gE hg; have GE342 := gE hg; replace HB := hB hb; clear hb hg) | ((with_reducible refine gD 3 ?_); refine bxE #[.int .i64 a1_0, .int .i64 a1_1, .int .i64 a1_2, .int .i64 a1_3] 43 ?_; intro gb343 hg w71 BK343 hb; have GW343 := gE hg; have GE343 := gE hg; have NB342_343 := nL (g := gb342) hg; have NB343_342 := nG (g := gb342) hg; replace BK342 := kB (g := gb342) hb; replace HB := hB hb; clear hb hg) | ((with_reducible refine gD 4 ?_); refine bxE #[.int .i64 0, .int .i64 0, .int .i64 0, .int .i64 0] 43 ?_; intro gb344 hg w72 BK344 hb; have GW344 := gE hg; have GE344 := gE hg; have NB342_344 := nL (g := gb342) hg; have NB344_342 := nG (g := gb342) hg; have NB343_344 := nL (g := gb343) hg; have NB344_343 := nG (g := gb343) hg; replace BK342 := kB (g := gb342) hb; replace BK343 := kB (g := gb343) hb; replace HB := hB hb; clear hb hg; have hnb73 := NB342_343.out; have hnc73 := NB343_342.out; have hnb74 := NB342_344.out; have hnc74 := NB344_342.out; have hz75 := cz4 BK342; have hnb76 := NB343_344.out; have hnc76 := NB344_343.out; have hz77 := cz4 BK343) | ((with_reducible refine gD 5 ?_); refine bxE #[.int .i64 0, .int .i64 0, .int .i64 0, .int .i64 0] 43 ?_; intro gb345 hg w78 BK345 hb; have GW345 := gE hg; have GE345 := gE hg; have NB342_345 := nL (g := gb342) hg; have NB345_342 := nG (g := gb342) hg; have NB343_345 := nL (g := gb343) hg; have NB345_343 := nG (g := gb343) hg; have NB344_345 := nL (g := gb344) hg; have NB345_344 := nG (g := gb344) hg; replace BK342 := kB (g := gb342) hb; replace BK343 := kB (g := gb343) hb; replace BK344 := kB (g := gb344) hb; replace HB := hB hb; clear hb hg; have hnb79 := NB345_342.out; have hnc79 := NB342_345.out; have hnb80 := NB345_343.out; have hnc80 := NB343_345.out; have hnb81 := NB345_344.out; have hnc81 := NB344_345.out; have hz82 := cz4 BK345; have hz83 := cz4 BK342) | ((with_reducible refine gC 145 ?_); refine cL (some 28) Try.func145 #[.agg #[.int .i64 a0_0, .int .i64 a0_1, .int .i64 a0_2, .int .i64 a0_3]] ?_; (with_reducible refine (spec_BoxOk.calls a0_0 a0_1 a0_2 a0_3 _ _ A7.out).mono ?_); rintro e w84 ⟨rfl, hb⟩; refine ⟨_, rfl, ?_⟩; replace BK342 := kB (g := gb342) hb; replace BK343 := kB (g := gb343) hb; replace BK344 := kB (g := gb344) hb; replace BK345 := Aside0.mk (blk_below (g := gb345) (o := .cells #[.int .i64 ji3, .int .i64 ji4, .int .i64 ji5, .int .i64 ji6] 43 (0, 0)) kS hb); replace HB := hB hb; (try clear hb); (try clear hb2); (try clear hk); (try clear hi); have hz85 := cz4 BK343) | (go_at_call 145; (with_reducible refine (spec_BoxOk.calls a1_0 a1_1 a1_2 a1_3 _ _ A9.out).mono ?_); rintro e w86 ⟨rfl, hb⟩; replace BK342 := kB (g := gb342) hb; replace BK343 := kB (g := gb343) hb; replace BK344 := kB (g := gb344) hb; replace BK345 := kB (g := gb345) hb; replace HB := hB hb; (try clear hb); (try clear hb2); (try clear hk); (try clear hi); have hz87 := cz4 BK344))
   refine bodyPost_ret (results_cell_row rfl _ _ gb344 43 #[.int .i64 0, .int .i64 0, .int .i64 0, .int .i64 0] (0, 0) _ rfl kS Try.underlying43 rfl (by kernel_rfl)) rfl ?_
   exact ⟨by first | rfl | (simp [errW_none, errW_some] <;> rfl) | (simp only [← hji3, ← hji4, ← hji5, ← hji6]; first | rfl | (simp [errW_none, errW_some] <;> rfl)) | (simp [*, errW_none, errW_some] <;> rfl), bS⟩
 ·obtain rfl := Bool.eq_false_iff.mpr c8
  rw [if_neg nF] at H
  obtain ⟨rfl, rfl, rfl, rfl⟩ := sI4 H
  go_enter Try.func142, Try.ntmps142
  go_wp2_with (first | ((with_reducible refine gD 2 ?_); refine bxE #[.int .i64 a0_0, .int .i64 a0_1, .int .i64 a0_2, .int .i64 a0_3] 43 ?_; intro gb342 hg w88 BK342 hb; have GW342 := gE hg; have GE342 := gE hg; replace HB := hB hb; clear hb hg) | ((with_reducible refine gD 3 ?_); refine bxE #[.int .i64 a1_0, .int .i64 a1_1, .int .i64 a1_2, .int .i64 a1_3] 43 ?_; intro gb343 hg w89 BK343 hb; have GW343 := gE hg; have GE343 := gE hg; have NB342_343 := nL (g := gb342) hg; have NB343_342 := nG (g := gb342) hg; replace BK342 := kB (g := gb342) hb; replace HB := hB hb; clear hb hg) | ((with_reducible refine gD 4 ?_); refine bxE #[.int .i64 0, .int .i64 0, .int .i64 0, .int .i64 0] 43 ?_; intro gb344 hg w90 BK344 hb; have GW344 := gE hg; have GE344 := gE hg; have NB342_344 := nL (g := gb342) hg; have NB344_342 := nG (g := gb342) hg; have NB343_344 := nL (g := gb343) hg; have NB344_343 := nG (g := gb343) hg; replace BK342 := kB (g := gb342) hb; replace BK343 := kB (g := gb343) hb; replace HB := hB hb; clear hb hg; have hnb91 := NB342_343.out; have hnc91 := NB343_342.out; have hnb92 := NB342_344.out; have hnc92 := NB344_342.out; have hz93 := cz4 BK342; have hnb94 := NB343_344.out; have hnc94 := NB344_343.out; have hz95 := cz4 BK343) | ((with_reducible refine gD 5 ?_); refine bxE #[.int .i64 0, .int .i64 0, .int .i64 0, .int .i64 0] 43 ?_; intro gb345 hg w96 BK345 hb; have GW345 := gE hg; have GE345 := gE hg; have NB342_345 := nL (g := gb342) hg; have NB345_342 := nG (g := gb342) hg; have NB343_345 := nL (g := gb343) hg; have NB345_343 := nG (g := gb343) hg; have NB344_345 := nL (g := gb344) hg; have NB345_344 := nG (g := gb344) hg; replace BK342 := kB (g := gb342) hb; replace BK343 := kB (g := gb343) hb; replace BK344 := kB (g := gb344) hb; replace HB := hB hb; clear hb hg; have hnb97 := NB345_342.out; have hnc97 := NB342_345.out; have hnb98 := NB345_343.out; have hnc98 := NB343_345.out; have hnb99 := NB345_344.out; have hnc99 := NB344_345.out; have hz100 := cz4 BK345; have hz101 := cz4 BK342) | ((with_reducible refine gC 145 ?_); refine cL (some 28) Try.func145 #[.agg #[.int .i64 a0_0, .int .i64 a0_1, .int .i64 a0_2, .int .i64 a0_3]] ?_; (with_reducible refine (spec_BoxOk.calls a0_0 a0_1 a0_2 a0_3 _ _ A7.out).mono ?_); rintro e w102 ⟨rfl, hb⟩; refine ⟨_, rfl, ?_⟩; replace BK342 := kB (g := gb342) hb; replace BK343 := kB (g := gb343) hb; replace BK344 := kB (g := gb344) hb; replace BK345 := Aside0.mk (blk_below (g := gb345) (o := .cells #[.int .i64 ji3, .int .i64 ji4, .int .i64 ji5, .int .i64 ji6] 43 (0, 0)) kS hb); replace HB := hB hb; (try clear hb); (try clear hb2); (try clear hk); (try clear hi); have hz103 := cz4 BK344))
  refine bodyPost_ret (results_cell_row rfl _ _ gb344 43 #[.int .i64 0, .int .i64 0, .int .i64 0, .int .i64 0] (0, 0) _ rfl kS Try.underlying43 rfl (by kernel_rfl)) rfl ?_
  exact ⟨by first | rfl | (simp [errW_none, errW_some] <;> rfl) | (simp only [← hji3, ← hji4, ← hji5, ← hji6]; first | rfl | (simp [errW_none, errW_some] <;> rfl)) | (simp [*, errW_none, errW_some] <;> rfl), bS⟩

/-! ### spec_BoxOf: function 143 -/
def spec_BoxOf.l0 : Nat → List (S171) → Int → Int → Int → Int → Int → Option (Int × Int × Int × Int)
 | 0, _, _, _, _, _, _ => none
 | k + 1, x0, x4, x350000, x350001, x350002, x350003 => if x4 < (x0.length : Int) then (if 0 ≤ x4 then ((spec_PointOk.f ((rd_T171 x0 x4).f0) ((rd_T171 x0 x4).f1)).bind fun t352 => (if t352 = true then (if x4 = 0 then (spec_BoxOf.l0 k x0 (wrap64 (x4 + 1)) ((rd_T171 x0 x4).f0) ((rd_T171 x0 x4).f1) ((rd_T171 x0 x4).f0) ((rd_T171 x0 x4).f1)) else (spec_BoxOf.l0 k x0 (wrap64 (x4 + 1)) (mn x350000 ((rd_T171 x0 x4).f0)) (mn x350001 ((rd_T171 x0 x4).f1)) (mx x350002 ((rd_T171 x0 x4).f0)) (mx x350003 ((rd_T171 x0 x4).f1)))) else (some (0, 0, 0, 0)))) else (none)) else (some (x350000, x350001, x350002, x350003))
def spec_BoxOf.f (k : Nat) (l0 : List (S171)) : Option (Int × Int × Int × Int) := spec_BoxOf.l0 k l0 0 0 0 0 0
theorem spec_BoxOf.calls (k : Nat) (A0 : Option Addr) (c0 : Nat) (l0 : List (S171)) (r1 : Int) (r2 : Int) (r3 : Int) (r4 : Int) (w : World) (hr0 : Kd.C k171 w A0 l0.length l0) (hc0 : l0.length ≤ c0) (h : spec_BoxOf.f k l0 = some (r1, r2, r3, r4)) :
  Calls Try.prog 143 #[.slice A0 l0.length c0] w fun e w' => e = .returned (.agg #[.int .i64 r1, .int .i64 r2, .int .i64 r3, .int .i64 r4]) ∧ Below w.heap.size w w' := by
 have hu43 := Try.underlying43
 have hu171 := Try.underlying171
 have HR0 := Aside0.mk hr0
 have HC0 := Aside0.mk hc0
 clear hr0 hc0
 have HB := Aside0.mk (Below.refl w.heap.size w)
 have H : (spec_BoxOf.l0 k l0 0 0 0 0 0) = some (r1, r2, r3, r4) := h
 clear h
 have H' := Aside0.mk H
 clear H
 go_enter Try.func143, Try.ntmps143
 go_wp2_with (first | ((with_reducible refine gD 2 ?_); refine bxE #[.int .i64 0, .int .i64 0, .int .i64 0, .int .i64 0] 43 ?_; intro gb348 hg w2 BK348 hb; have GW348 := gE hg; have GE348 := gE hg; replace HB := hB hb; clear hb hg) | ((with_reducible refine gD 3 ?_); refine bxE #[.int .i64 0, .int .i64 0, .int .i64 0, .int .i64 0] 43 ?_; intro gb349 hg w3 BK349 hb; have GW349 := gE hg; have GE349 := gE hg; have NB348_349 := nL (g := gb348) hg; have NB349_348 := nG (g := gb348) hg; replace BK348 := kB (g := gb348) hb; replace HB := hB hb; clear hb hg; have hnb4 := NB349_348.out; have hnc4 := NB348_349.out; have hcz5_0 : w3.cell? ⟨gb349, 0, none⟩ = some (.int .i64 0) := (blk_cell BK349.out 0).trans rfl; have hcz5_1 : w3.cell? ⟨gb349, 1, none⟩ = some (.int .i64 0) := (blk_cell BK349.out 1).trans rfl; have hcz5_2 : w3.cell? ⟨gb349, 2, none⟩ = some (.int .i64 0) := (blk_cell BK349.out 2).trans rfl; have hcz5_3 : w3.cell? ⟨gb349, 3, none⟩ = some (.int .i64 0) := (blk_cell BK349.out 3).trans rfl; have hfz5_0 := blk_frozen BK349.out 0; have hfz5_1 := blk_frozen BK349.out 1; have hfz5_2 := blk_frozen BK349.out 2; have hfz5_3 := blk_frozen BK349.out 3))
 go_loopg [4] k (fun kq v4 w' => ∃ (x4_1 : Int) (x349000_1 : Int) (x349001_1 : Int) (x349002_1 : Int) (x349003_1 : Int) (x350000_1 : Int) (x350001_1 : Int) (x350002_1 : Int) (x350003_1 : Int), v4 = .int .i64 x4_1 ∧ Aside0 (spec_BoxOf.l0 kq l0 x4_1 x350000_1 x350001_1 x350002_1 x350003_1 = some (r1, r2, r3, r4)) ∧ Aside0 (kq ≤ k) ∧ Aside0 (w'.heap[gb348]? = some (.cells #[.int .i64 x349000_1, .int .i64 x349001_1, .int .i64 x349002_1, .int .i64 x349003_1] 43 (0, 0))) ∧ Aside0 (w'.heap[gb349]? = some (.cells #[.int .i64 x350000_1, .int .i64 x350001_1, .int .i64 x350002_1, .int .i64 x350003_1] 43 (0, 0))) ∧ Aside0 (Below w.heap.size w w'))
 case atStart => exact ⟨(0), (0), (0), (0), (0), (0), (0), (0), (0), fS, H', ⟨Nat.le_refl _⟩, ⟨kS⟩, ⟨kS⟩, ⟨bS⟩⟩
 case round =>
  clear H'
  try clear c1
  try clear p2
  try clear c4
  try clear hcz5_0
  try clear hcz5_1
  try clear hcz5_2
  try clear hcz5_3
  try clear hfz5_0
  try clear hfz5_1
  try clear hfz5_2
  try clear hfz5_3
  obtain ⟨x4_1, x349000_1, x349001_1, x349002_1, x349003_1, x350000_1, x350001_1, x350002_1, x350003_1, rfl, HA, HK1, BK348, BK349, HB⟩ := hrel
  cases gk with
  | zero => exact absurd HA.out (by simp [spec_BoxOf.l0])
  | succ k1 =>
   have H := HA.out
   clear HA
   simp only [spec_BoxOf.l0] at H
   rcases iD H with ⟨c6b0, H⟩ | ⟨c6b0, H⟩
   ·obtain ⟨c7b0, H⟩ := iT H
    replace H := bN H
    obtain ⟨t352, A8, H⟩ := H
    by_cases c9 : t352 = true
    ·subst c9
     rw [if_pos rfl] at H
     by_cases c10 : x4_1 = 0
     ·rw [if_pos c10] at H
      have c10b0 : (x4_1 == 0) = true := beq_iff_eq.mpr c10
      have c10b1 : (x4_1 != 0) = false := bne_eq_false_iff_eq.mpr c10
      clear c10
      have H' := Aside0.mk H
      clear H
      have p350 : 0 ≤ (x4_1 : Int) := dA
      have q350 : x4_1 < (l0.length : Int) := dA
      obtain ⟨ad350, e350, hx350_0, hx350_1⟩ := at_T171 HR0.out x4_1 p350 q350
      cases e350
      replace hx350_0 := cB HB hx350_0
      replace hx350_1 := cB HB hx350_1
      replace p350 := eq_true p350
      replace q350 := eq_true q350
      go_wp2_with (first | ((with_reducible refine gD 5 ?_); refine bxE #[.int .i64 0, .int .i64 0] 171 ?_; intro gb351 hg w11 BK351 hb; have GW351 := gE hg; have GE351 := gE hg; have NB348_351 := nL (g := gb348) hg; have NB351_348 := nG (g := gb348) hg; have NB349_351 := nL (g := gb349) hg; have NB351_349 := nG (g := gb349) hg; replace BK348 := kB (g := gb348) hb; replace BK349 := kB (g := gb349) hb; replace HB := hB hb; clear hb hg; have hnb12 := NB351_348.out; have hnc12 := NB348_351.out; have hnb13 := NB351_349.out; have hnc13 := NB349_351.out; have hz14 := cz2 BK351) | ((with_reducible refine gC 186 ?_); refine cL (some 18) Try.func186 #[.agg #[.int .i64 ((rd_T171 l0 x4_1).f0), .int .i64 ((rd_T171 l0 x4_1).f1)]] ?_; (with_reducible refine (spec_PointOk.calls ((rd_T171 l0 x4_1).f0) ((rd_T171 l0 x4_1).f1) _ _ A8.out).mono ?_); rintro e w15 ⟨rfl, hb⟩; refine ⟨_, rfl, ?_⟩; replace BK348 := kB (g := gb348) hb; replace BK349 := kB (g := gb349) hb; replace BK351 := Aside0.mk (blk_below (g := gb351) (o := .cells #[.int .i64 ((rd_T171 l0 x4_1).f0), .int .i64 ((rd_T171 l0 x4_1).f1)] 171 (0, 0)) kS hb); replace HB := hB hb; (try clear hb); (try clear hb2); (try clear hk); (try clear hi); have hz16 := cz2 BK351; have hnb17 := NB349_348.out; have hnc17 := NB348_349.out; have hz18 := cz4 BK349))
      go_roundg k1
      case measure => have := HK1.out; omega
      case rel => exact ⟨(wrap64 (x4_1 + 1)), (x349000_1), (x349001_1), (x349002_1), (x349003_1), ((rd_T171 l0 x4_1).f0), ((rd_T171 l0 x4_1).f1), ((rd_T171 l0 x4_1).f0), ((rd_T171 l0 x4_1).f1), fS, H', ⟨by have := HK1.out; omega⟩, ⟨kS⟩, ⟨kS⟩, ⟨bS⟩⟩
     ·rw [if_neg c10] at H
      have c10b0 : (x4_1 == 0) = false := beq_eq_false_iff_ne.mpr c10
      have c10b1 : (x4_1 != 0) = true := bne_iff_ne.mpr c10
      obtain ⟨ji19, hji19⟩ : ∃ j_ : Int, (mn x350000_1 ((rd_T171 l0 x4_1).f0)) = j_ := ⟨_, rfl⟩
      replace H : (spec_BoxOf.l0 k1 l0 (wrap64 (x4_1 + 1)) ji19 (mn x350001_1 ((rd_T171 l0 x4_1).f1)) (mx x350002_1 ((rd_T171 l0 x4_1).f0)) (mx x350003_1 ((rd_T171 l0 x4_1).f1))) = some (r1, r2, r3, r4) := by first | (rw [hji19] at H; exact H) | (simp only [hji19] at H ⊢; exact H)
      (try rw [hji19] at A8)
      have hji19_ : (if ((rd_T171 l0 x4_1).f0) < x350000_1 then ((rd_T171 l0 x4_1).f0) else x350000_1) = ji19 := hji19
      obtain ⟨ji20, hji20⟩ : ∃ j_ : Int, (mn x350001_1 ((rd_T171 l0 x4_1).f1)) = j_ := ⟨_, rfl⟩
      replace H : (spec_BoxOf.l0 k1 l0 (wrap64 (x4_1 + 1)) ji19 ji20 (mx x350002_1 ((rd_T171 l0 x4_1).f0)) (mx x350003_1 ((rd_T171 l0 x4_1).f1))) = some (r1, r2, r3, r4) := by first | (rw [hji20] at H; exact H) | (simp only [hji20] at H ⊢; exact H)
      (try rw [hji20] at A8)
      have hji20_ : (if ((rd_T171 l0 x4_1).f1) < x350001_1 then ((rd_T171 l0 x4_1).f1) else x350001_1) = ji20 := hji20
      obtain ⟨ji21, hji21⟩ : ∃ j_ : Int, (mx x350002_1 ((rd_T171 l0 x4_1).f0)) = j_ := ⟨_, rfl⟩
      replace H : (spec_BoxOf.l0 k1 l0 (wrap64 (x4_1 + 1)) ji19 ji20 ji21 (mx x350003_1 ((rd_T171 l0 x4_1).f1))) = some (r1, r2, r3, r4) := by first | (rw [hji21] at H; exact H) | (simp only [hji21] at H ⊢; exact H)
      (try rw [hji21] at A8)
      have hji21_ : (if x350002_1 < ((rd_T171 l0 x4_1).f0) then ((rd_T171 l0 x4_1).f0) else x350002_1) = ji21 := hji21
      obtain ⟨ji22, hji22⟩ : ∃ j_ : Int, (mx x350003_1 ((rd_T171 l0 x4_1).f1)) = j_ := ⟨_, rfl⟩
      replace H : (spec_BoxOf.l0 k1 l0 (wrap64 (x4_1 + 1)) ji19 ji20 ji21 ji22) = some (r1, r2, r3, r4) := by first | (rw [hji22] at H; exact H) | (simp only [hji22] at H ⊢; exact H)
      (try rw [hji22] at A8)
      have hji22_ : (if x350003_1 < ((rd_T171 l0 x4_1).f1) then ((rd_T171 l0 x4_1).f1) else x350003_1) = ji22 := hji22
      have H' := Aside0.mk H
      clear H
      have p350 : 0 ≤ (x4_1 : Int) := dA
      have q350 : x4_1 < (l0.length : Int) := dA
      obtain ⟨ad350, e350, hx350_0, hx350_1⟩ := at_T171 HR0.out x4_1 p350 q350
      cases e350
      replace hx350_0 := cB HB hx350_0
      replace hx350_1 := cB HB hx350_1
      replace p350 := eq_true p350
      replace q350 := eq_true q350
      go_wp2_with (first | ((with_reducible refine gD 5 ?_); refine bxE #[.int .i64 0, .int .i64 0] 171 ?_; intro gb351 hg w23 BK351 hb; have GW351 := gE hg; have GE351 := gE hg; have NB348_351 := nL (g := gb348) hg; have NB351_348 := nG (g := gb348) hg; have NB349_351 := nL (g := gb349) hg; have NB351_349 := nG (g := gb349) hg; replace BK348 := kB (g := gb348) hb; replace BK349 := kB (g := gb349) hb; replace HB := hB hb; clear hb hg; have hnb24 := NB351_348.out; have hnc24 := NB348_351.out; have hnb25 := NB351_349.out; have hnc25 := NB349_351.out; have hz26 := cz2 BK351) | ((with_reducible refine gC 186 ?_); refine cL (some 18) Try.func186 #[.agg #[.int .i64 ((rd_T171 l0 x4_1).f0), .int .i64 ((rd_T171 l0 x4_1).f1)]] ?_; (with_reducible refine (spec_PointOk.calls ((rd_T171 l0 x4_1).f0) ((rd_T171 l0 x4_1).f1) _ _ A8.out).mono ?_); rintro e w27 ⟨rfl, hb⟩; refine ⟨_, rfl, ?_⟩; replace BK348 := kB (g := gb348) hb; replace BK349 := kB (g := gb349) hb; replace BK351 := Aside0.mk (blk_below (g := gb351) (o := .cells #[.int .i64 ((rd_T171 l0 x4_1).f0), .int .i64 ((rd_T171 l0 x4_1).f1)] 171 (0, 0)) kS hb); replace HB := hB hb; (try clear hb); (try clear hb2); (try clear hk); (try clear hi); have hnb28 := NB349_348.out; have hnc28 := NB348_349.out; have hz29 := cz4 BK349; have hz30 := cz2 BK351))
      go_roundg k1
      case measure => have := HK1.out; omega
      case rel => exact ⟨(wrap64 (x4_1 + 1)), (x349000_1), (x349001_1), (x349002_1), (x349003_1), (ji19), (ji20), (ji21), (ji22), fS, H', ⟨by have := HK1.out; omega⟩, ⟨kS⟩, ⟨kS⟩, ⟨bS⟩⟩
    ·obtain rfl := Bool.eq_false_iff.mpr c9
     rw [if_neg nF] at H
     obtain ⟨rfl, rfl, rfl, rfl⟩ := sI4 H
     have p350 : 0 ≤ (x4_1 : Int) := dA
     have q350 : x4_1 < (l0.length : Int) := dA
     obtain ⟨ad350, e350, hx350_0, hx350_1⟩ := at_T171 HR0.out x4_1 p350 q350
     cases e350
     replace hx350_0 := cB HB hx350_0
     replace hx350_1 := cB HB hx350_1
     replace p350 := eq_true p350
     replace q350 := eq_true q350
     go_wp2_with (first | ((with_reducible refine gD 5 ?_); refine bxE #[.int .i64 0, .int .i64 0] 171 ?_; intro gb351 hg w31 BK351 hb; have GW351 := gE hg; have GE351 := gE hg; have NB348_351 := nL (g := gb348) hg; have NB351_348 := nG (g := gb348) hg; have NB349_351 := nL (g := gb349) hg; have NB351_349 := nG (g := gb349) hg; replace BK348 := kB (g := gb348) hb; replace BK349 := kB (g := gb349) hb; replace HB := hB hb; clear hb hg; have hnb32 := NB351_348.out; have hnc32 := NB348_351.out; have hnb33 := NB351_349.out; have hnc33 := NB349_351.out; have hz34 := cz2 BK351) | ((with_reducible refine gC 186 ?_); refine cL (some 18) Try.func186 #[.agg #[.int .i64 ((rd_T171 l0 x4_1).f0), .int .i64 ((rd_T171 l0 x4_1).f1)]] ?_; (with_reducible refine (spec_PointOk.calls ((rd_T171 l0 x4_1).f0) ((rd_T171 l0 x4_1).f1) _ _ A8.out).mono ?_); rintro e w35 ⟨rfl, hb⟩; refine ⟨_, rfl, ?_⟩; replace BK348 := kB (g := gb348) hb; replace BK349 := kB (g := gb349) hb; replace BK351 := Aside0.mk (blk_below (g := gb351) (o := .cells #[.int .i64 ((rd_T171 l0 x4_1).f0), .int .i64 ((rd_T171 l0 x4_1).f1)] 171 (0, 0)) kS hb); replace HB := hB hb; (try clear hb); (try clear hb2); (try clear hk); (try clear hi); have hnb36 := NB348_349.out; have hnc36 := NB349_348.out; have hz37 := cz4 BK348))
     refine bodyPost_ret (results_cell_row rfl _ _ gb348 43 #[.int .i64 0, .int .i64 0, .int .i64 0, .int .i64 0] (0, 0) _ rfl kS Try.underlying43 rfl (by kernel_rfl)) rfl ?_
     exact ⟨eS, bS⟩
   ·obtain ⟨rfl, rfl, rfl, rfl⟩ := sI4 H
    have hnb38 := NB349_348.out
    have hnc38 := NB348_349.out
    have hz39 := cz4 BK349
    have hz40 := cz4 BK348
    go_wp2
    refine bodyPost_ret (results_cell_row rfl _ _ gb348 43 #[.int .i64 x350000_1, .int .i64 x350001_1, .int .i64 x350002_1, .int .i64 x350003_1] (0, 0) _ rfl kS Try.underlying43 rfl (by kernel_rfl)) rfl ?_
    exact ⟨eS, bS⟩

/-! ### spec_ObjectBox: function 81 -/
def spec_ObjectBox.f (k : Nat) (l0_0 : List (S171)) (a0_1 : Int) (a0_2 : Int) (a0_3 : Int) (a0_4 : Int) (a0_5 : Int) : Option (Int × Int × Int × Int) := (spec_ObjectOk.f k l0_0 a0_1 a0_2 a0_3 a0_4 a0_5).bind fun t355 => (if t355 = true then ((spec_BoxOf.f k l0_0).bind fun bt356 => ((spec_MeetBox.f bt356.1 bt356.2.1 bt356.2.2.1 bt356.2.2.2 a0_2 a0_3 a0_4 a0_5).bind fun bt360 => ((spec_l07Full.f).bind fun bt364 => ((spec_MeetBox.f bt360.1 bt360.2.1 bt360.2.2.1 bt360.2.2.2 bt364.1 bt364.2.1 bt364.2.2.1 bt364.2.2.2).bind fun bt368 => (some (bt368.1, bt368.2.1, bt368.2.2.1, bt368.2.2.2)))))) else (some (0, 0, 0, 0)))
def spec_ObjectBox.T3 : Bool × List (List Nat × List Nat) := (true, [([], []), ([0], [0]), ([1], [1]), ([], []), ([3], [3]), ([2, 4, 2], [2, 4]), ([5], []), ([5, 6, 6], [5, 6]), ([7, 7, 0, 1, 2, 3, 4, 5, 6, 7], [7])])
def spec_ObjectBox.B3 : List Nat := [0, 1, 3, 0, 8, 31, 63, 127, 255]
theorem spec_ObjectBox.tab3 : rtab .any (opsOf Try.f81 3) = spec_ObjectBox.T3 := by kernel_rfl
theorem spec_ObjectBox.bits3 : waitsOk spec_ObjectBox.T3.2 spec_ObjectBox.B3 = true := by kernel_rfl
theorem spec_ObjectBox.calls (k : Nat) (A0_0 : Option Addr) (c0_0 : Nat) (l0_0 : List (S171)) (a0_1 : Int) (a0_2 : Int) (a0_3 : Int) (a0_4 : Int) (a0_5 : Int) (r1 : Int) (r2 : Int) (r3 : Int) (r4 : Int) (w : World) (hr0_0 : Kd.C k171 w A0_0 l0_0.length l0_0) (hc0_0 : l0_0.length ≤ c0_0) (h : spec_ObjectBox.f k l0_0 a0_1 a0_2 a0_3 a0_4 a0_5 = some (r1, r2, r3, r4)) :
  Calls Try.prog 81 #[.agg #[.slice A0_0 l0_0.length c0_0, .int .i64 a0_1, .int .i64 a0_2, .int .i64 a0_3, .int .i64 a0_4, .int .i64 a0_5]] w fun e w' => e = .returned (.agg #[.int .i64 r1, .int .i64 r2, .int .i64 r3, .int .i64 r4]) ∧ Below w.heap.size w w' := by
 have hu45 := Try.underlying45
 have hu43 := Try.underlying43
 have HR0_0 := Aside0.mk hr0_0
 have HC0_0 := Aside0.mk hc0_0
 clear hr0_0 hc0_0
 have HB := Aside0.mk (Below.refl w.heap.size w)
 have H : ((spec_ObjectOk.f k l0_0 a0_1 a0_2 a0_3 a0_4 a0_5).bind fun t355 => (if t355 = true then ((spec_BoxOf.f k l0_0).bind fun bt356 => ((spec_MeetBox.f bt356.1 bt356.2.1 bt356.2.2.1 bt356.2.2.2 a0_2 a0_3 a0_4 a0_5).bind fun bt360 => ((spec_l07Full.f).bind fun bt364 => ((spec_MeetBox.f bt360.1 bt360.2.1 bt360.2.2.1 bt360.2.2.2 bt364.1 bt364.2.1 bt364.2.2.1 bt364.2.2.2).bind fun bt368 => (some (bt368.1, bt368.2.1, bt368.2.2.1, bt368.2.2.2)))))) else (some (0, 0, 0, 0)))) = some (r1, r2, r3, r4) := h
 clear h
 replace H := bN H
 obtain ⟨t355, A2, H⟩ := H
 by_cases c3 : t355 = true
 ·subst c3
  rw [if_pos rfl] at H
  replace H := bN H
  obtain ⟨⟨t356, t357, t358, t359⟩, A4, H⟩ := H
  replace H := bN H
  obtain ⟨⟨t360, t361, t362, t363⟩, A5, H⟩ := H
  replace H := bN H
  obtain ⟨⟨t364, t365, t366, t367⟩, A6, H⟩ := H
  replace H := bN H
  obtain ⟨⟨t368, t369, t370, t371⟩, A7, H⟩ := H
  obtain ⟨rfl, rfl, rfl, rfl⟩ := sI4 H
  go_enter Try.func81, Try.ntmps81
  try go_wp2_with (first | ((with_reducible refine gD 1 ?_); refine bxE #[.slice A0_0 l0_0.length c0_0, .int .i64 a0_1, .int .i64 a0_2, .int .i64 a0_3, .int .i64 a0_4, .int .i64 a0_5] 45 ?_; intro gb353 hg w8 BK353 hb; have GW353 := gE hg; have GE353 := gE hg; replace HB := hB hb; clear hb hg) | ((with_reducible refine gD 2 ?_); refine bxE #[.int .i64 0, .int .i64 0, .int .i64 0, .int .i64 0] 43 ?_; intro gb354 hg w9 BK354 hb; have GW354 := gE hg; have GE354 := gE hg; have NB353_354 := nL (g := gb353) hg; have NB354_353 := nG (g := gb353) hg; replace BK353 := kB (g := gb353) hb; replace HB := hB hb; clear hb hg; have hnb10 := NB353_354.out; have hnc10 := NB354_353.out; have hz11 := cz6 BK353) | ((with_reducible refine gC 95 ?_); refine cL (some 4) Try.func95 #[.agg #[.slice A0_0 l0_0.length c0_0, .int .i64 a0_1, .int .i64 a0_2, .int .i64 a0_3, .int .i64 a0_4, .int .i64 a0_5]] ?_; (with_reducible refine (spec_ObjectOk.calls k _ _ l0_0 a0_1 a0_2 a0_3 a0_4 a0_5 _ _ (cS (Kd.C_below HR0_0.out HB.out)) HC0_0.out A2.out).mono ?_); rintro e w12 ⟨rfl, hb⟩; refine ⟨_, rfl, ?_⟩; replace BK353 := kB (g := gb353) hb; replace BK354 := kB (g := gb354) hb; replace HB := hB hb; (try clear hb); (try clear hb2); (try clear hk); (try clear hi)))
  replace BK353 := Aside0.mk (blk_drew BK353.out)
  replace BK354 := Aside0.mk (blk_drew BK354.out)
  replace HB := Aside0.mk (below_drew1 HB.out)
  refine start_ (n := 9) (S := fun w' => w'.cell? ⟨gb353, 0, none⟩ = some (.slice A0_0 l0_0.length c0_0) ∧ w'.cell? ⟨gb353, 1, none⟩ = some (.int .i64 a0_1) ∧ w'.cell? ⟨gb353, 2, none⟩ = some (.int .i64 a0_2) ∧ w'.cell? ⟨gb353, 3, none⟩ = some (.int .i64 a0_3) ∧ w'.cell? ⟨gb353, 4, none⟩ = some (.int .i64 a0_4) ∧ w'.cell? ⟨gb353, 5, none⟩ = some (.int .i64 a0_5)) (ds := []) #[false, false, false, false, false, false, false, false, false] (by kernel_rfl) rfl rfl (cy6 BK353) (fun hHeld => ?_); refine with_tabW spec_ObjectBox.tab3 spec_ObjectBox.bits3 (fun HT_ HW_ => ?_)
  generalize w12.drew = w13 at BK353 BK354 HB hHeld ⊢
  refine pU 0 (some 7) #[true, false, false, false, false, false, false, false, false] ?_
  refine pU 3 (some 10) #[true, false, false, true, false, false, false, false, false] ?_
  refine tK 1 (some 8) #[true, true, false, true, false, false, false, false, false] ?_
  refine tK 4 (some 11) #[true, true, false, true, true, false, false, false, false] ?_
  refine one_ (i := 2) (N := some 9) #[true, true, true, true, true, false, false, false, false] rfl rfl (one_of HT_.out (by kernel_rfl)) (by decide) (fun K hK => ?_)
  refine goes_ Try.func143 (by kernel_rfl) rfl #[.slice A0_0 l0_0.length c0_0] (by rfl) rfl rfl (by (try simp only [List.map_toArray, List.map_cons, List.map_nil]); first | done | rfl | (simp only [List.length_drop, List.length_take]; rfl)) ?_
  with_reducible refine (spec_BoxOf.calls k _ _ l0_0 t356 t357 t358 t359 _ ?side1 ?side2 A4.out).mono ?_
  (case side1 => exact cS (Kd.C_below HR0_0.out HB.out))
  (case side2 => exact HC0_0.out)
  rintro e w14 ⟨rfl, hb⟩
  refine ⟨_, rfl, ?_⟩
  replace BK353 := kB (g := gb353) hb
  replace BK354 := kB (g := gb354) hb
  replace HB := hB hb
  (try clear hb)
  (try clear hb2)
  (try clear hk)
  (try clear hi)
  refine hK.out _ _ (cy6 BK353) (fun hHeld => ?_)
  clear hK K
  refine norm_ (a' := ?_) ?_ ?_
  rotate_left
  ·show Act.put _ (some 9) _ = _
   simp only [Act.put, List.setIfInBounds_toArray, List.set_cons_zero, List.set_cons_succ, i64_w, i32_w]
   rfl
  refine one_ (i := 5) (N := some 12) #[true, true, true, true, true, true, false, false, false] rfl rfl (one_of HT_.out (by kernel_rfl)) (by decide) (fun K hK => ?_)
  refine goes_ Try.func142 (by kernel_rfl) rfl #[.agg #[.int .i64 t356, .int .i64 t357, .int .i64 t358, .int .i64 t359], .agg #[.int .i64 a0_2, .int .i64 a0_3, .int .i64 a0_4, .int .i64 a0_5]] (by rfl) rfl rfl (by (try simp only [List.map_toArray, List.map_cons, List.map_nil]); first | done | rfl | (simp only [List.length_drop, List.length_take]; rfl)) ?_
  with_reducible refine (spec_MeetBox.calls t356 t357 t358 t359 a0_2 a0_3 a0_4 a0_5 t360 t361 t362 t363 _ A5.out).mono ?_
  rintro e w15 ⟨rfl, hb⟩
  refine ⟨_, rfl, ?_⟩
  replace BK353 := kB (g := gb353) hb
  replace BK354 := kB (g := gb354) hb
  replace HB := hB hb
  (try clear hb)
  (try clear hb2)
  (try clear hk)
  (try clear hi)
  refine hK.out _ _ (cy6 BK353) (fun hHeld => ?_)
  clear hK K
  refine norm_ (a' := ?_) ?_ ?_
  rotate_left
  ·show Act.put _ (some 12) _ = _
   simp only [Act.put, List.setIfInBounds_toArray, List.set_cons_zero, List.set_cons_succ, i64_w, i32_w]
   rfl
  refine one_ (i := 6) (N := some 13) #[true, true, true, true, true, true, true, false, false] rfl rfl (one_of HT_.out (by kernel_rfl)) (by decide) (fun K hK => ?_)
  refine goes_ Try.func144 (by kernel_rfl) rfl #[] (by rfl) rfl rfl (by (try simp only [List.map_toArray, List.map_cons, List.map_nil]); first | done | rfl | (simp only [List.length_drop, List.length_take]; rfl)) ?_
  with_reducible refine (spec_l07Full.calls  t364 t365 t366 t367 _ A6.out).mono ?_
  rintro e w16 ⟨rfl, hb⟩
  refine ⟨_, rfl, ?_⟩
  replace BK353 := kB (g := gb353) hb
  replace BK354 := kB (g := gb354) hb
  replace HB := hB hb
  (try clear hb)
  (try clear hb2)
  (try clear hk)
  (try clear hi)
  refine hK.out _ _ (cy6 BK353) (fun hHeld => ?_)
  clear hK K
  refine norm_ (a' := ?_) ?_ ?_
  rotate_left
  ·show Act.put _ (some 13) _ = _
   simp only [Act.put, List.setIfInBounds_toArray, List.set_cons_zero, List.set_cons_succ, i64_w, i32_w]
   rfl
  refine one_ (i := 7) (N := some 14) #[true, true, true, true, true, true, true, true, false] rfl rfl (one_of HT_.out (by kernel_rfl)) (by decide) (fun K hK => ?_)
  refine goes_ Try.func142 (by kernel_rfl) rfl #[.agg #[.int .i64 t360, .int .i64 t361, .int .i64 t362, .int .i64 t363], .agg #[.int .i64 t364, .int .i64 t365, .int .i64 t366, .int .i64 t367]] (by rfl) rfl rfl (by (try simp only [List.map_toArray, List.map_cons, List.map_nil]); first | done | rfl | (simp only [List.length_drop, List.length_take]; rfl)) ?_
  with_reducible refine (spec_MeetBox.calls t360 t361 t362 t363 t364 t365 t366 t367 t368 t369 t370 t371 _ A7.out).mono ?_
  rintro e w17 ⟨rfl, hb⟩
  refine ⟨_, rfl, ?_⟩
  replace BK353 := kB (g := gb353) hb
  replace BK354 := kB (g := gb354) hb
  replace HB := hB hb
  (try clear hb)
  (try clear hb2)
  (try clear hk)
  (try clear hi)
  refine hK.out _ _ (cy6 BK353) (fun hHeld => ?_)
  clear hK K
  refine norm_ (a' := ?_) ?_ ?_
  rotate_left
  ·show Act.put _ (some 14) _ = _
   simp only [Act.put, List.setIfInBounds_toArray, List.set_cons_zero, List.set_cons_succ, i64_w, i32_w]
   rfl
  refine one_ (i := 8) (N := none) #[true, true, true, true, true, true, true, true, true] rfl rfl (one_of HT_.out (by kernel_rfl)) (by decide) (fun K hK => ?_)
  have hs18 : w17.cell? ⟨gb354, 0, none⟩ = some (.int .i64 0) := (blk_cell BK354.out 0).trans rfl
  have hfs18 := blk_frozen BK354.out 0
  have hns18_0 := NB353_354.out
  have hms18_0 := NB354_353.out
  have hs19 : w17.cell? ⟨gb354, 1, none⟩ = some (.int .i64 0) := (blk_cell BK354.out 1).trans rfl
  have hfs19 := blk_frozen BK354.out 1
  have hns19_0 := NB353_354.out
  have hms19_0 := NB354_353.out
  have hs20 : w17.cell? ⟨gb354, 2, none⟩ = some (.int .i64 0) := (blk_cell BK354.out 2).trans rfl
  have hfs20 := blk_frozen BK354.out 2
  have hns20_0 := NB353_354.out
  have hms20_0 := NB354_353.out
  have hs21 : w17.cell? ⟨gb354, 3, none⟩ = some (.int .i64 0) := (blk_cell BK354.out 3).trans rfl
  have hfs21 := blk_frozen BK354.out 3
  have hns21_0 := NB353_354.out
  have hms21_0 := NB354_353.out
  refine skip_ (w1 := ?_) (by rfl) rfl ?_ ?_
  rotate_left
  ·go_simp
   rfl
  refine hK.out _ _ ⟨((cell_far (p := ⟨gb354, _, none⟩) NB353_354.out _).trans (((cell_far (p := ⟨gb354, _, none⟩) NB353_354.out _).trans (((cell_far (p := ⟨gb354, _, none⟩) NB353_354.out _).trans (((cell_far (p := ⟨gb354, _, none⟩) NB353_354.out _).trans (hHeld.1)))))))), ((cell_far (p := ⟨gb354, _, none⟩) NB353_354.out _).trans (((cell_far (p := ⟨gb354, _, none⟩) NB353_354.out _).trans (((cell_far (p := ⟨gb354, _, none⟩) NB353_354.out _).trans (((cell_far (p := ⟨gb354, _, none⟩) NB353_354.out _).trans (hHeld.2.1)))))))), ((cell_far (p := ⟨gb354, _, none⟩) NB353_354.out _).trans (((cell_far (p := ⟨gb354, _, none⟩) NB353_354.out _).trans (((cell_far (p := ⟨gb354, _, none⟩) NB353_354.out _).trans (((cell_far (p := ⟨gb354, _, none⟩) NB353_354.out _).trans (hHeld.2.2.1)))))))), ((cell_far (p := ⟨gb354, _, none⟩) NB353_354.out _).trans (((cell_far (p := ⟨gb354, _, none⟩) NB353_354.out _).trans (((cell_far (p := ⟨gb354, _, none⟩) NB353_354.out _).trans (((cell_far (p := ⟨gb354, _, none⟩) NB353_354.out _).trans (hHeld.2.2.2.1)))))))), ((cell_far (p := ⟨gb354, _, none⟩) NB353_354.out _).trans (((cell_far (p := ⟨gb354, _, none⟩) NB353_354.out _).trans (((cell_far (p := ⟨gb354, _, none⟩) NB353_354.out _).trans (((cell_far (p := ⟨gb354, _, none⟩) NB353_354.out _).trans (hHeld.2.2.2.2.1)))))))), ((cell_far (p := ⟨gb354, _, none⟩) NB353_354.out _).trans (((cell_far (p := ⟨gb354, _, none⟩) NB353_354.out _).trans (((cell_far (p := ⟨gb354, _, none⟩) NB353_354.out _).trans (((cell_far (p := ⟨gb354, _, none⟩) NB353_354.out _).trans (hHeld.2.2.2.2.2))))))))⟩ (fun hHeld => ?_)
  clear hK K
  refine done_ (done_of HT_.out (by kernel_rfl)) ?_
  try go_wp2
  refine bodyPost_ret (results_cell_row rfl _ _ gb354 43 #[.int .i64 t368, .int .i64 t369, .int .i64 t370, .int .i64 t371] (0, 0) _ rfl kS Try.underlying43 rfl (by kernel_rfl)) rfl ?_
  exact ⟨eS, bS⟩
 ·obtain rfl := Bool.eq_false_iff.mpr c3
  rw [if_neg nF] at H
  obtain ⟨rfl, rfl, rfl, rfl⟩ := sI4 H
  go_enter Try.func81, Try.ntmps81
  go_wp2_with (first | ((with_reducible refine gD 1 ?_); refine bxE #[.slice A0_0 l0_0.length c0_0, .int .i64 a0_1, .int .i64 a0_2, .int .i64 a0_3, .int .i64 a0_4, .int .i64 a0_5] 45 ?_; intro gb353 hg w22 BK353 hb; have GW353 := gE hg; have GE353 := gE hg; replace HB := hB hb; clear hb hg) | ((with_reducible refine gD 2 ?_); refine bxE #[.int .i64 0, .int .i64 0, .int .i64 0, .int .i64 0] 43 ?_; intro gb354 hg w23 BK354 hb; have GW354 := gE hg; have GE354 := gE hg; have NB353_354 := nL (g := gb353) hg; have NB354_353 := nG (g := gb353) hg; replace BK353 := kB (g := gb353) hb; replace HB := hB hb; clear hb hg; have hnb24 := NB353_354.out; have hnc24 := NB354_353.out; have hz25 := cz6 BK353) | ((with_reducible refine gC 95 ?_); refine cL (some 4) Try.func95 #[.agg #[.slice A0_0 l0_0.length c0_0, .int .i64 a0_1, .int .i64 a0_2, .int .i64 a0_3, .int .i64 a0_4, .int .i64 a0_5]] ?_; (with_reducible refine (spec_ObjectOk.calls k _ _ l0_0 a0_1 a0_2 a0_3 a0_4 a0_5 _ _ (cS (Kd.C_below HR0_0.out HB.out)) HC0_0.out A2.out).mono ?_); rintro e w26 ⟨rfl, hb⟩; refine ⟨_, rfl, ?_⟩; replace BK353 := kB (g := gb353) hb; replace BK354 := kB (g := gb354) hb; replace HB := hB hb; (try clear hb); (try clear hb2); (try clear hk); (try clear hi); have hz27 := cz4 BK354))
  refine bodyPost_ret (results_cell_row rfl _ _ gb354 43 #[.int .i64 0, .int .i64 0, .int .i64 0, .int .i64 0] (0, 0) _ rfl kS Try.underlying43 rfl (by kernel_rfl)) rfl ?_
  exact ⟨eS, bS⟩

/-! ### spec_CountDots: function 82 -/
def spec_CountDots.f (a0_0 : Int) (a0_1 : Int) (a0_2 : Int) (a0_3 : Int) : Option (Int) := (spec_BoxOk.f a0_0 a0_1 a0_2 a0_3).bind fun t373 => (if t373 = true then (some (wrap64 ((wrap64 (a0_2 - a0_0)) * (wrap64 (a0_3 - a0_1))))) else (some 0))
theorem spec_CountDots.calls (a0_0 : Int) (a0_1 : Int) (a0_2 : Int) (a0_3 : Int) (r : Int) (w : World) (h : spec_CountDots.f a0_0 a0_1 a0_2 a0_3 = some r) :
  Calls Try.prog 82 #[.agg #[.int .i64 a0_0, .int .i64 a0_1, .int .i64 a0_2, .int .i64 a0_3]] w fun e w' => e = .returned (.int .i64 r) ∧ Below w.heap.size w w' := by
 have hu43 := Try.underlying43
 have HB := Aside0.mk (Below.refl w.heap.size w)
 have H : ((spec_BoxOk.f a0_0 a0_1 a0_2 a0_3).bind fun t373 => (if t373 = true then (some (wrap64 ((wrap64 (a0_2 - a0_0)) * (wrap64 (a0_3 - a0_1))))) else (some 0))) = some r := h
 clear h
 replace H := bN H
 obtain ⟨t373, A2, H⟩ := H
 by_cases c3 : t373 = true
 ·subst c3
  rw [if_pos rfl] at H
  obtain rfl := Option.some.inj H
  go_enter Try.func82, Try.ntmps82
  go_wp2_with (first | ((with_reducible refine gD 1 ?_); refine bxE #[.int .i64 a0_0, .int .i64 a0_1, .int .i64 a0_2, .int .i64 a0_3] 43 ?_; intro gb372 hg w4 BK372 hb; have GW372 := gE hg; have GE372 := gE hg; replace HB := hB hb; clear hb hg; have hz5 := cz4 BK372) | ((with_reducible refine gC 145 ?_); refine cL (some 4) Try.func145 #[.agg #[.int .i64 a0_0, .int .i64 a0_1, .int .i64 a0_2, .int .i64 a0_3]] ?_; (with_reducible refine (spec_BoxOk.calls a0_0 a0_1 a0_2 a0_3 _ _ A2.out).mono ?_); rintro e w6 ⟨rfl, hb⟩; refine ⟨_, rfl, ?_⟩; replace BK372 := kB (g := gb372) hb; replace HB := hB hb; (try clear hb); (try clear hb2); (try clear hk); (try clear hi); have hz7 := cz4 BK372))
  go_ret
  exact ⟨eS, bS⟩
 ·obtain rfl := Bool.eq_false_iff.mpr c3
  rw [if_neg nF] at H
  obtain rfl := Option.some.inj H
  go_enter Try.func82, Try.ntmps82
  go_wp2_with (first | ((with_reducible refine gD 1 ?_); refine bxE #[.int .i64 a0_0, .int .i64 a0_1, .int .i64 a0_2, .int .i64 a0_3] 43 ?_; intro gb372 hg w8 BK372 hb; have GW372 := gE hg; have GE372 := gE hg; replace HB := hB hb; clear hb hg; have hz9 := cz4 BK372) | ((with_reducible refine gC 145 ?_); refine cL (some 4) Try.func145 #[.agg #[.int .i64 a0_0, .int .i64 a0_1, .int .i64 a0_2, .int .i64 a0_3]] ?_; (with_reducible refine (spec_BoxOk.calls a0_0 a0_1 a0_2 a0_3 _ _ A2.out).mono ?_); rintro e w10 ⟨rfl, hb⟩; refine ⟨_, rfl, ?_⟩; replace BK372 := kB (g := gb372) hb; replace HB := hB hb; (try clear hb); (try clear hb2); (try clear hk); (try clear hi)))
  go_ret
  exact ⟨eS, bS⟩

end Go.Proofs.Ytigodjcnkgebaaa.QFnMerges
