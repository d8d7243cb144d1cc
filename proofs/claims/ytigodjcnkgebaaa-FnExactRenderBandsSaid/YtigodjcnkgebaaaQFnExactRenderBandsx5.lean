-- Made out of the translation by a program of this session (a changed copy of the print). Not trusted: Lean checks it.
import Derived.Test.YtigodjcnkgebaaaQFnExactRenderBandsx0
import Derived.Test.YtigodjcnkgebaaaQFnExactRenderBandsx1
import Derived.Test.YtigodjcnkgebaaaQFnExactRenderBandsx4
namespace Go.Proofs.Ytigodjcnkgebaaa.QFnExactRenderBands
open Go.RowKit Go.Proofs.YtigodjcnkgebaaaW.PrintWords Go.Proofs.YtigodjcnkgebaaaW.PrintLast Go.Proofs.YtigodjcnkgebaaaW.PrintMore
attribute [local go_sem] max2_int min2_int max_two min_two max_three min_three max_four min_four   -- for this text's walks alone
set_option linter.unusedVariables false
set_option linter.unusedSimpArgs false
set_option maxHeartbeats 8000000
set_option maxRecDepth 100000

/-! ### impl_InsidePath: function 158 -/
mutual
def impl_InsidePath.j0 : Nat → List (S171) → Int → Int → Bool → Option (Bool)
 | 0, _, _, _, _ => none
 | k + 1, x0, x1, x2, x22 => if x22 = true then (some false) else (impl_InsidePath.l0 k x0 x1 x2 false x0 (x0.length : Int) 0)
def impl_InsidePath.l0 : Nat → List (S171) → Int → Int → Bool → List (S171) → Int → Int → Option (Bool)
 | 0, _, _, _, _, _, _, _ => none
 | k + 1, x0, x1, x2, x7, x23, x24, x25 => if x25 < x24 then (if 0 ≤ x25 then (if x25 < (x23.length : Int) then (if (x0.length : Int) = 0 then (none) else (if 0 ≤ (Int.tmod (wrap64 (x25 + 1)) (x0.length : Int)) then (if (Int.tmod (wrap64 (x25 + 1)) (x0.length : Int)) < (x0.length : Int) then ((impl_crosses.f ((rd_T171 x23 x25).f0) ((rd_T171 x23 x25).f1) ((rd_T171 x0 (Int.tmod (wrap64 (x25 + 1)) (x0.length : Int))).f0) ((rd_T171 x0 (Int.tmod (wrap64 (x25 + 1)) (x0.length : Int))).f1) x1 x2).bind fun t185 => (if t185 = true then (impl_InsidePath.l0 k x0 x1 x2 (!x7) x23 x24 (wrap64 (x25 + 1))) else (impl_InsidePath.l0 k x0 x1 x2 x7 x23 x24 (wrap64 (x25 + 1))))) else (none)) else (none))) else (none)) else (none)) else (some x7)
end
def impl_InsidePath.f (k : Nat) (l0 : List (S171)) (a1 : Int) (a2 : Int) : Option (Bool) := (impl_pathOk.f k l0).bind fun t179 => (if t179 = true then ((impl_coordOk.f a1).bind fun t180 => (if t180 = true then ((impl_coordOk.f a2).bind fun t181 => (impl_InsidePath.j0 k l0 a1 a2 (!t181))) else (impl_InsidePath.j0 k l0 a1 a2 true))) else (impl_InsidePath.j0 k l0 a1 a2 true))
def impl_InsidePath.T7 : Bool × List (List Nat × List Nat) := (true, [([], []), ([], []), ([], []), ([2], [2]), ([], []), ([4], [4]), ([3, 5], [3, 5]), ([1, 6], [1, 6]), ([7], [7]), ([], []), ([], []), ([0, 8, 9, 10], [0, 8, 9, 10])])
def impl_InsidePath.B7 : List Nat := [0, 0, 0, 4, 0, 16, 60, 126, 254, 0, 0, 2047]
theorem impl_InsidePath.tab7 : rtab .any (opsOf Try.f158 7) = impl_InsidePath.T7 := by kernel_rfl
theorem impl_InsidePath.bits7 : waitsOk impl_InsidePath.T7.2 impl_InsidePath.B7 = true := by kernel_rfl
theorem impl_InsidePath.calls (k : Nat) (A0 : Option Addr) (c0 : Nat) (l0 : List (S171)) (a1 : Int) (a2 : Int) (r : Bool) (w : World) (hr0 : Kd.C k171 w A0 l0.length l0) (hc0 : l0.length ≤ c0) (h : impl_InsidePath.f k l0 a1 a2 = some r) :
  Calls Try.prog 158 #[.slice A0 l0.length c0, .int .i64 a1, .int .i64 a2] w fun e w' => e = .returned (.bool r) ∧ Below w.heap.size w w' := by
 have hu171 := Try.underlying171
 have HR0 := Aside0.mk hr0
 have HC0 := Aside0.mk hc0
 clear hr0 hc0
 have HB := Aside0.mk (Below.refl w.heap.size w)
 have H : ((impl_pathOk.f k l0).bind fun t179 => (if t179 = true then ((impl_coordOk.f a1).bind fun t180 => (if t180 = true then ((impl_coordOk.f a2).bind fun t181 => (impl_InsidePath.j0 k l0 a1 a2 (!t181))) else (impl_InsidePath.j0 k l0 a1 a2 true))) else (impl_InsidePath.j0 k l0 a1 a2 true))) = some r := h
 clear h
 have HC4 := Aside0.mk H
 clear H
 go_enter Try.func158, Try.ntmps158
 go_upto_region 1 with (fail)
 go_cut [22] (fun v22 wc => ∃ (kq : Nat) (x22_3 : Bool), v22 = .bool x22_3 ∧ Aside0 (impl_InsidePath.j0 kq l0 a1 a2 x22_3 = some r) ∧ Aside0 (kq ≤ k) ∧ Aside0 (Below w.heap.size w wc))
 case first =>
  have H := HC4.out
  clear HC4
  replace H := bN H
  obtain ⟨t179, A5, H⟩ := H
  by_cases c6 : t179 = true
  ·subst c6
   rw [if_pos rfl] at H
   replace H := bN H
   obtain ⟨t180, A7, H⟩ := H
   by_cases c8 : t180 = true
   ·subst c8
    rw [if_pos rfl] at H
    replace H := bN H
    obtain ⟨t181, A9, H⟩ := H
    have H' := Aside0.mk H
    clear H
    go_wp2_with (first | ((with_reducible refine gC 156 ?_); refine cL (some 11) Try.func156 #[.slice A0 l0.length c0] ?_; (with_reducible refine (impl_pathOk.calls k _ _ l0 _ _ (cS (Kd.C_below HR0.out HB.out)) HC0.out A5.out).mono ?_); rintro e w10 ⟨rfl, hb⟩; refine ⟨_, rfl, ?_⟩; replace HB := hB hb; (try clear hb); (try clear hb2); (try clear hk); (try clear hi)) | (go_at_call 157; (with_reducible refine (impl_coordOk.calls a1 _ _ A7.out).mono ?_); rintro e w' ⟨rfl, ⟨nd, rfl⟩⟩) | (go_at_call 157; (with_reducible refine (impl_coordOk.calls a2 t181 _ A9.out).mono ?_); rintro e w' ⟨rfl, ⟨nd, rfl⟩⟩))
    go_meet
    case rel => exact ⟨_, (!t181), fS, H', ⟨by first | omega | exact Nat.le_refl _⟩, ⟨bS⟩⟩
   ·obtain rfl := Bool.eq_false_iff.mpr c8
    rw [if_neg nF] at H
    have H' := Aside0.mk H
    clear H
    go_wp2_with (first | ((with_reducible refine gC 156 ?_); refine cL (some 11) Try.func156 #[.slice A0 l0.length c0] ?_; (with_reducible refine (impl_pathOk.calls k _ _ l0 _ _ (cS (Kd.C_below HR0.out HB.out)) HC0.out A5.out).mono ?_); rintro e w11 ⟨rfl, hb⟩; refine ⟨_, rfl, ?_⟩; replace HB := hB hb; (try clear hb); (try clear hb2); (try clear hk); (try clear hi)) | (go_at_call 157; (with_reducible refine (impl_coordOk.calls a1 _ _ A7.out).mono ?_); rintro e w' ⟨rfl, ⟨nd, rfl⟩⟩))
    go_meet
    case rel => exact ⟨_, (true), fS, H', ⟨by first | omega | exact Nat.le_refl _⟩, ⟨bS⟩⟩
  ·obtain rfl := Bool.eq_false_iff.mpr c6
   rw [if_neg nF] at H
   have H' := Aside0.mk H
   clear H
   go_wp2_with (first | ((with_reducible refine gC 156 ?_); refine cL (some 11) Try.func156 #[.slice A0 l0.length c0] ?_; (with_reducible refine (impl_pathOk.calls k _ _ l0 _ _ (cS (Kd.C_below HR0.out HB.out)) HC0.out A5.out).mono ?_); rintro e w12 ⟨rfl, hb⟩; refine ⟨_, rfl, ?_⟩; replace HB := hB hb; (try clear hb); (try clear hb2); (try clear hk); (try clear hi)))
   go_meet
   case rel => exact ⟨_, (true), fS, H', ⟨by first | omega | exact Nat.le_refl _⟩, ⟨bS⟩⟩
 case rest =>
  clear HC4
  try clear c1
  try clear p2
  try clear c6
  try clear c8
  obtain ⟨kq, x22_3, rfl, HA, HJ3, HB⟩ := hcut
  cases kq with
  | zero => exact absurd HA.out (by simp [impl_InsidePath.j0])
  | succ kj3 =>
   have H := HA.out
   clear HA
   simp only [impl_InsidePath.j0] at H
   by_cases c13 : x22_3 = true
   ·subst c13
    rw [if_pos rfl] at H
    obtain rfl := Option.some.inj H
    go_wp2
    go_ret
    exact ⟨eS, bS⟩
   ·obtain rfl := Bool.eq_false_iff.mpr c13
    rw [if_neg nF] at H
    have H' := Aside0.mk H
    clear H
    go_wp2
    go_loopg [7, 25] kj3 (fun kq v7 v25 w' => ∃ (x7_2 : Bool) (x25_2 : Int), v7 = .bool x7_2 ∧ v25 = .int .i64 x25_2 ∧ Aside0 (impl_InsidePath.l0 kq l0 a1 a2 x7_2 l0 (l0.length : Int) x25_2 = some r) ∧ Aside0 (kq ≤ kj3) ∧ Aside0 (Below w.heap.size w w'))
    case atStart => exact ⟨(false), (0), fS, fS, H', ⟨Nat.le_refl _⟩, ⟨bS⟩⟩
    case round =>
     clear H'
     try clear c1
     try clear p2
     try clear c6
     try clear c8
     try clear c13
     try clear p2
     obtain ⟨x7_2, x25_2, rfl, rfl, HA, HK2, HB⟩ := hrel
     cases gk with
     | zero => exact absurd HA.out (by simp [impl_InsidePath.l0])
     | succ k2 =>
      have H := HA.out
      clear HA
      simp only [impl_InsidePath.l0] at H
      rcases iD H with ⟨c14b0, H⟩ | ⟨c14b0, H⟩
      ·obtain ⟨c15b0, H⟩ := iT H
       obtain ⟨c16b0, H⟩ := iT H
       by_cases c17 : (l0.length : Int) = 0
       ·rw [if_pos c17] at H
        exact absurd H (by simp)
       ·rw [if_neg c17] at H
        have c17b0 : ((l0.length : Int) == 0) = false := beq_eq_false_iff_ne.mpr c17
        have c17b1 : ((l0.length : Int) != 0) = true := bne_iff_ne.mpr c17
        have c17b2 : ¬ (l0 = []) := fun h_ => c17 (by rw [h_]; rfl)
        obtain ⟨ji18, hji18⟩ : ∃ j_ : Int, (Int.tmod (wrap64 (x25_2 + 1)) (l0.length : Int)) = j_ := ⟨_, rfl⟩
        replace H : (if 0 ≤ (ji18) then (if (ji18) < (l0.length : Int) then ((impl_crosses.f ((rd_T171 l0 x25_2).f0) ((rd_T171 l0 x25_2).f1) ((rd_T171 l0 (ji18)).f0) ((rd_T171 l0 (ji18)).f1) a1 a2).bind fun t185 => (if t185 = true then (impl_InsidePath.l0 k2 l0 a1 a2 (!x7_2) l0 (l0.length : Int) (wrap64 (x25_2 + 1))) else (impl_InsidePath.l0 k2 l0 a1 a2 x7_2 l0 (l0.length : Int) (wrap64 (x25_2 + 1))))) else (none)) else (none)) = some r := by first | (rw [hji18] at H; exact H) | (simp only [hji18] at H ⊢; exact H)
        obtain ⟨c19b0, H⟩ := iT H
        obtain ⟨c20b0, H⟩ := iT H
        replace H := bN H
        obtain ⟨t185, A21, H⟩ := H
        by_cases c22 : t185 = true
        ·subst c22
         rw [if_pos rfl] at H
         have H' := Aside0.mk H
         clear H
         have p182 : 0 ≤ (x25_2 : Int) := dA
         have q182 : x25_2 < (l0.length : Int) := dA
         obtain ⟨ad182, e182, hx182_0, hx182_1⟩ := at_T171 HR0.out x25_2 p182 q182
         cases e182
         replace hx182_0 := cB HB hx182_0
         replace hx182_1 := cB HB hx182_1
         replace p182 := eq_true p182
         replace q182 := eq_true q182
         try go_wp2_with (first | ((with_reducible refine gD 9 ?_); refine bxE #[.int .i64 0, .int .i64 0] 171 ?_; intro gb183 hg w23 BK183 hb; have GW183 := gE hg; have GE183 := gE hg; replace HB := hB hb; clear hb hg; have hz24 := cz2 BK183))
         have n0_ : Aside0 (((w23.setCell ⟨gb183, 0, none⟩ (.int .i64 ((rd_T171 l0 x25_2).f0))).setCell ⟨gb183, 1, none⟩ (.int .i64 ((rd_T171 l0 x25_2).f1))).heap[gb183]? = some (.cells #[.int .i64 ((rd_T171 l0 x25_2).f0), .int .i64 ((rd_T171 l0 x25_2).f1)] 171 (0, 0))) := ⟨kS⟩
         have n1_ : Aside0 (Below w.heap.size w ((w23.setCell ⟨gb183, 0, none⟩ (.int .i64 ((rd_T171 l0 x25_2).f0))).setCell ⟨gb183, 1, none⟩ (.int .i64 ((rd_T171 l0 x25_2).f1)))) := ⟨bS⟩
         (try clear BK183)
         (try clear HB)
         generalize ((w23.setCell ⟨gb183, 0, none⟩ (.int .i64 ((rd_T171 l0 x25_2).f0))).setCell ⟨gb183, 1, none⟩ (.int .i64 ((rd_T171 l0 x25_2).f1))) = w25 at n0_ n1_ ⊢
         have BK183 := n0_
         have HB := n1_
         clear n0_ n1_
         replace BK183 := Aside0.mk (blk_drew BK183.out)
         replace HB := Aside0.mk (below_drew1 HB.out)
         have p184 : 0 ≤ ((ji18) : Int) := dA
         have q184 : (ji18) < (l0.length : Int) := dA
         obtain ⟨ad184, e184, hx184_0, hx184_1⟩ := at_T171 HR0.out (ji18) p184 q184
         have hw184_1 := hx184_1
         have hw184_0 := hx184_0
         obtain rfl : ad182 = ad184 := (by injection e184)
         replace hx184_0 := cB HB hx184_0
         replace hx184_1 := cB HB hx184_1
         replace p184 := eq_true p184
         replace q184 := eq_true q184
         refine start_ (n := 12) (S := fun w' => w'.cell? ⟨gb183, 0, none⟩ = some (.int .i64 ((rd_T171 l0 x25_2).f0)) ∧ w'.cell? ⟨gb183, 1, none⟩ = some (.int .i64 ((rd_T171 l0 x25_2).f1)) ∧ w'.cell? (ad182.add (((ji18)).toNat * 2)) = some (.int .i64 ((rd_T171 l0 (ji18)).f0)) ∧ w'.cell? ⟨(ad182.add (((ji18)).toNat * 2)).block, (ad182.add (((ji18)).toNat * 2)).off + 1, none⟩ = some (.int .i64 ((rd_T171 l0 (ji18)).f1))) (ds := []) #[false, false, false, false, false, false, false, false, false, false, false, false] (by kernel_rfl) rfl rfl ⟨(blk_cell BK183.out 0).trans rfl, (blk_cell BK183.out 1).trans rfl, (cB HB hw184_0), (cB HB hw184_1)⟩ (fun hHeld => ?_); refine with_tabW impl_InsidePath.tab7 impl_InsidePath.bits7 (fun HT_ HW_ => ?_)
         generalize w25.drew = w26 at BK183 HB hx184_0 hx184_1 hHeld ⊢
         refine pU 1 (some 31) #[false, true, false, false, false, false, false, false, false, false, false, false] ?_
         refine pU 2 (some 32) #[false, true, true, false, false, false, false, false, false, false, false, false] ?_
         refine pU 3 (some 33) #[false, true, true, true, false, false, false, false, false, false, false, false] ?_
         refine pU 4 (some 34) #[false, true, true, true, true, false, false, false, false, false, false, false] ?_
         refine pU 5 (some 35) #[false, true, true, true, true, true, false, false, false, false, false, false] ?_
         refine pU 6 (some 36) #[false, true, true, true, true, true, true, false, false, false, false, false] ?_
         refine pU 7 (some 37) #[false, true, true, true, true, true, true, true, false, false, false, false] ?_
         refine pU 9 (some 39) #[false, true, true, true, true, true, true, true, false, true, false, false] ?_
         refine pU 10 (some 40) #[false, true, true, true, true, true, true, true, false, true, true, false] ?_
         refine tK 0 (some 30) #[true, true, true, true, true, true, true, true, false, true, true, false] ?_
         refine tK 8 (some 38) #[true, true, true, true, true, true, true, true, true, true, true, false] ?_
         refine one_ (i := 11) (N := some 41) #[true, true, true, true, true, true, true, true, true, true, true, true] rfl rfl (one_of HT_.out (by kernel_rfl)) (by decide) (fun K hK => ?_)
         refine goes_ Try.func189 (by kernel_rfl) rfl #[.agg #[.int .i64 ((rd_T171 l0 x25_2).f0), .int .i64 ((rd_T171 l0 x25_2).f1)], .agg #[.int .i64 ((rd_T171 l0 (ji18)).f0), .int .i64 ((rd_T171 l0 (ji18)).f1)], .int .i64 a1, .int .i64 a2] (by rfl) rfl rfl (by (try simp only [List.map_toArray, List.map_cons, List.map_nil]); first | done | (simp only [hji18]; rfl) | rfl | (simp only [List.length_drop, List.length_take]; rfl)) ?_
         with_reducible refine (impl_crosses.calls ((rd_T171 l0 x25_2).f0) ((rd_T171 l0 x25_2).f1) ((rd_T171 l0 (ji18)).f0) ((rd_T171 l0 (ji18)).f1) a1 a2 _ _ A21.out).mono ?_
         rintro e w27 ⟨rfl, hb⟩
         refine ⟨_, rfl, ?_⟩
         replace BK183 := kB (g := gb183) hb
         replace HB := hB hb
         (try clear hb)
         (try clear hb2)
         (try clear hk)
         (try clear hi)
         refine hK.out _ _ ⟨(blk_cell BK183.out 0).trans rfl, (blk_cell BK183.out 1).trans rfl, (cB HB hw184_0), (cB HB hw184_1)⟩ (fun hHeld => ?_)
         clear hK K
         refine norm_ (a' := ?_) ?_ ?_
         rotate_left
         ·show Act.put _ (some 41) _ = _
          simp only [Act.put, List.setIfInBounds_toArray, List.set_cons_zero, List.set_cons_succ, i64_w, i32_w]
          rfl
         refine done_ (done_of HT_.out (by kernel_rfl)) ?_
         try go_wp2
         go_roundg k2
         case measure => have := HJ3.out; have := HK2.out; omega
         case rel => exact ⟨(!x7_2), (wrap64 (x25_2 + 1)), fS, fS, H', ⟨by have := HJ3.out; have := HK2.out; omega⟩, ⟨bS⟩⟩
        ·obtain rfl := Bool.eq_false_iff.mpr c22
         rw [if_neg nF] at H
         have H' := Aside0.mk H
         clear H
         have p182 : 0 ≤ (x25_2 : Int) := dA
         have q182 : x25_2 < (l0.length : Int) := dA
         obtain ⟨ad182, e182, hx182_0, hx182_1⟩ := at_T171 HR0.out x25_2 p182 q182
         cases e182
         replace hx182_0 := cB HB hx182_0
         replace hx182_1 := cB HB hx182_1
         replace p182 := eq_true p182
         replace q182 := eq_true q182
         try go_wp2_with (first | ((with_reducible refine gD 9 ?_); refine bxE #[.int .i64 0, .int .i64 0] 171 ?_; intro gb183 hg w28 BK183 hb; have GW183 := gE hg; have GE183 := gE hg; replace HB := hB hb; clear hb hg; have hz29 := cz2 BK183))
         have n0_ : Aside0 (((w28.setCell ⟨gb183, 0, none⟩ (.int .i64 ((rd_T171 l0 x25_2).f0))).setCell ⟨gb183, 1, none⟩ (.int .i64 ((rd_T171 l0 x25_2).f1))).heap[gb183]? = some (.cells #[.int .i64 ((rd_T171 l0 x25_2).f0), .int .i64 ((rd_T171 l0 x25_2).f1)] 171 (0, 0))) := ⟨kS⟩
         have n1_ : Aside0 (Below w.heap.size w ((w28.setCell ⟨gb183, 0, none⟩ (.int .i64 ((rd_T171 l0 x25_2).f0))).setCell ⟨gb183, 1, none⟩ (.int .i64 ((rd_T171 l0 x25_2).f1)))) := ⟨bS⟩
         (try clear BK183)
         (try clear HB)
         generalize ((w28.setCell ⟨gb183, 0, none⟩ (.int .i64 ((rd_T171 l0 x25_2).f0))).setCell ⟨gb183, 1, none⟩ (.int .i64 ((rd_T171 l0 x25_2).f1))) = w30 at n0_ n1_ ⊢
         have BK183 := n0_
         have HB := n1_
         clear n0_ n1_
         replace BK183 := Aside0.mk (blk_drew BK183.out)
         replace HB := Aside0.mk (below_drew1 HB.out)
         have p184 : 0 ≤ ((ji18) : Int) := dA
         have q184 : (ji18) < (l0.length : Int) := dA
         obtain ⟨ad184, e184, hx184_0, hx184_1⟩ := at_T171 HR0.out (ji18) p184 q184
         have hw184_1 := hx184_1
         have hw184_0 := hx184_0
         obtain rfl : ad182 = ad184 := (by injection e184)
         replace hx184_0 := cB HB hx184_0
         replace hx184_1 := cB HB hx184_1
         replace p184 := eq_true p184
         replace q184 := eq_true q184
         refine start_ (n := 12) (S := fun w' => w'.cell? ⟨gb183, 0, none⟩ = some (.int .i64 ((rd_T171 l0 x25_2).f0)) ∧ w'.cell? ⟨gb183, 1, none⟩ = some (.int .i64 ((rd_T171 l0 x25_2).f1)) ∧ w'.cell? (ad182.add (((ji18)).toNat * 2)) = some (.int .i64 ((rd_T171 l0 (ji18)).f0)) ∧ w'.cell? ⟨(ad182.add (((ji18)).toNat * 2)).block, (ad182.add (((ji18)).toNat * 2)).off + 1, none⟩ = some (.int .i64 ((rd_T171 l0 (ji18)).f1))) (ds := []) #[false, false, false, false, false, false, false, false, false, false, false, false] (by kernel_rfl) rfl rfl ⟨(blk_cell BK183.out 0).trans rfl, (blk_cell BK183.out 1).trans rfl, (cB HB hw184_0), (cB HB hw184_1)⟩ (fun hHeld => ?_); refine with_tabW impl_InsidePath.tab7 impl_InsidePath.bits7 (fun HT_ HW_ => ?_)
         generalize w30.drew = w31 at BK183 HB hx184_0 hx184_1 hHeld ⊢
         refine pU 1 (some 31) #[false, true, false, false, false, false, false, false, false, false, false, false] ?_
         refine pU 2 (some 32) #[false, true, true, false, false, false, false, false, false, false, false, false] ?_
         refine pU 3 (some 33) #[false, true, true, true, false, false, false, false, false, false, false, false] ?_
         refine pU 4 (some 34) #[false, true, true, true, true, false, false, false, false, false, false, false] ?_
         refine pU 5 (some 35) #[false, true, true, true, true, true, false, false, false, false, false, false] ?_
         refine pU 6 (some 36) #[false, true, true, true, true, true, true, false, false, false, false, false] ?_
         refine pU 7 (some 37) #[false, true, true, true, true, true, true, true, false, false, false, false] ?_
         refine pU 9 (some 39) #[false, true, true, true, true, true, true, true, false, true, false, false] ?_
         refine pU 10 (some 40) #[false, true, true, true, true, true, true, true, false, true, true, false] ?_
         refine tK 0 (some 30) #[true, true, true, true, true, true, true, true, false, true, true, false] ?_
         refine tK 8 (some 38) #[true, true, true, true, true, true, true, true, true, true, true, false] ?_
         refine one_ (i := 11) (N := some 41) #[true, true, true, true, true, true, true, true, true, true, true, true] rfl rfl (one_of HT_.out (by kernel_rfl)) (by decide) (fun K hK => ?_)
         refine goes_ Try.func189 (by kernel_rfl) rfl #[.agg #[.int .i64 ((rd_T171 l0 x25_2).f0), .int .i64 ((rd_T171 l0 x25_2).f1)], .agg #[.int .i64 ((rd_T171 l0 (ji18)).f0), .int .i64 ((rd_T171 l0 (ji18)).f1)], .int .i64 a1, .int .i64 a2] (by rfl) rfl rfl (by (try simp only [List.map_toArray, List.map_cons, List.map_nil]); first | done | (simp only [hji18]; rfl) | rfl | (simp only [List.length_drop, List.length_take]; rfl)) ?_
         with_reducible refine (impl_crosses.calls ((rd_T171 l0 x25_2).f0) ((rd_T171 l0 x25_2).f1) ((rd_T171 l0 (ji18)).f0) ((rd_T171 l0 (ji18)).f1) a1 a2 _ _ A21.out).mono ?_
         rintro e w32 ⟨rfl, hb⟩
         refine ⟨_, rfl, ?_⟩
         replace BK183 := kB (g := gb183) hb
         replace HB := hB hb
         (try clear hb)
         (try clear hb2)
         (try clear hk)
         (try clear hi)
         refine hK.out _ _ ⟨(blk_cell BK183.out 0).trans rfl, (blk_cell BK183.out 1).trans rfl, (cB HB hw184_0), (cB HB hw184_1)⟩ (fun hHeld => ?_)
         clear hK K
         refine norm_ (a' := ?_) ?_ ?_
         rotate_left
         ·show Act.put _ (some 41) _ = _
          simp only [Act.put, List.setIfInBounds_toArray, List.set_cons_zero, List.set_cons_succ, i64_w, i32_w]
          rfl
         refine done_ (done_of HT_.out (by kernel_rfl)) ?_
         try go_wp2
         go_roundg k2
         case measure => have := HJ3.out; have := HK2.out; omega
         case rel => exact ⟨(x7_2), (wrap64 (x25_2 + 1)), fS, fS, H', ⟨by have := HJ3.out; have := HK2.out; omega⟩, ⟨bS⟩⟩
      ·obtain rfl := Option.some.inj H
       go_wp2
       go_ret
       exact ⟨eS, bS⟩

/-! ### impl_SpansAt: function 90 -/
mutual
def impl_SpansAt.j0 : Nat → List (S171) → Int → Bool → Option ((List (S124)))
 | 0, _, _, _ => none
 | k + 1, x0, x1, x14 => if x14 = true then (some ([] : List (S124))) else (impl_SpansAt.l0 k x0 x1 ([] : List (S124)) (-200))
def impl_SpansAt.l0 : Nat → List (S171) → Int → List (S124) → Int → Option ((List (S124)))
 | 0, _, _, _, _ => none
 | k + 1, x0, x1, x5, x6 => if x6 ≤ 200 then ((impl_InsidePath.f k x0 x6 x1).bind fun t188 => (if t188 = true then (if (x5.length : Int) > 0 then (if 0 ≤ (wrap64 ((x5.length : Int) - 1)) then (if (wrap64 ((x5.length : Int) - 1)) < (x5.length : Int) then (if ((rd_T124 x5 (wrap64 ((x5.length : Int) - 1))).f1) = x6 then (impl_SpansAt.l0 k x0 x1 (x5.set ((wrap64 ((x5.length : Int) - 1)) : Int).toNat (⟨(rd_T124 x5 (wrap64 ((x5.length : Int) - 1))).f0, wrap64 (((rd_T124 x5 (wrap64 ((x5.length : Int) - 1))).f1) + 1)⟩ : S124)) (wrap64 (x6 + 1))) else (if x5.length < 8796093022208 then (impl_SpansAt.l0 k x0 x1 (x5 ++ [(⟨x6, wrap64 (x6 + 1)⟩ : S124)]) (wrap64 (x6 + 1))) else (none))) else (none)) else (none)) else (if x5.length < 8796093022208 then (impl_SpansAt.l0 k x0 x1 (x5 ++ [(⟨x6, wrap64 (x6 + 1)⟩ : S124)]) (wrap64 (x6 + 1))) else (none))) else (impl_SpansAt.l0 k x0 x1 x5 (wrap64 (x6 + 1))))) else (some x5)
end
def impl_SpansAt.f (k : Nat) (l0 : List (S171)) (a1 : Int) : Option ((List (S124))) := (impl_pathOk.f k l0).bind fun t186 => (if t186 = true then ((impl_coordOk.f a1).bind fun t187 => (impl_SpansAt.j0 k l0 a1 (!t187))) else (impl_SpansAt.j0 k l0 a1 true))
theorem impl_SpansAt.calls (k : Nat) (A0 : Option Addr) (c0 : Nat) (l0 : List (S171)) (a1 : Int) (r : List (S124)) (w : World) (hr0 : Kd.C k171 w A0 l0.length l0) (hc0 : l0.length ≤ c0) (h : impl_SpansAt.f k l0 a1 = some r) :
  Calls Try.prog 90 #[.slice A0 l0.length c0, .int .i64 a1] w fun e w' => ∃ v0_ : Value, e = .returned (v0_) ∧ Kd.R k124 124 w' w.heap.size (fun _ => True) v0_ r ∧ Below w.heap.size w w' := by
 have hu124 := Try.underlying124
 have HR0 := Aside0.mk hr0
 have HC0 := Aside0.mk hc0
 clear hr0 hc0
 have HB := Aside0.mk (Below.refl w.heap.size w)
 have H : ((impl_pathOk.f k l0).bind fun t186 => (if t186 = true then ((impl_coordOk.f a1).bind fun t187 => (impl_SpansAt.j0 k l0 a1 (!t187))) else (impl_SpansAt.j0 k l0 a1 true))) = some r := h
 clear h
 have HC3 := Aside0.mk H
 clear H
 go_enter Try.func90, Try.ntmps90
 go_upto_region 1 with (fail)
 go_cut [14] (fun v14 wc => ∃ (kq : Nat) (x14_2 : Bool), v14 = .bool x14_2 ∧ Aside0 (impl_SpansAt.j0 kq l0 a1 x14_2 = some r) ∧ Aside0 (kq ≤ k) ∧ Aside0 (Below w.heap.size w wc))
 case first =>
  have H := HC3.out
  clear HC3
  replace H := bN H
  obtain ⟨t186, A4, H⟩ := H
  by_cases c5 : t186 = true
  ·subst c5
   rw [if_pos rfl] at H
   replace H := bN H
   obtain ⟨t187, A6, H⟩ := H
   have H' := Aside0.mk H
   clear H
   go_wp2_with (first | ((with_reducible refine gC 156 ?_); refine cL (some 8) Try.func156 #[.slice A0 l0.length c0] ?_; (with_reducible refine (impl_pathOk.calls k _ _ l0 _ _ (cS (Kd.C_below HR0.out HB.out)) HC0.out A4.out).mono ?_); rintro e w7 ⟨rfl, hb⟩; refine ⟨_, rfl, ?_⟩; replace HB := hB hb; (try clear hb); (try clear hb2); (try clear hk); (try clear hi)) | (go_at_call 157; (with_reducible refine (impl_coordOk.calls a1 t187 _ A6.out).mono ?_); rintro e w' ⟨rfl, ⟨nd, rfl⟩⟩))
   go_meet
   case rel => exact ⟨_, (!t187), fS, H', ⟨by first | omega | exact Nat.le_refl _⟩, ⟨bS⟩⟩
  ·obtain rfl := Bool.eq_false_iff.mpr c5
   rw [if_neg nF] at H
   have H' := Aside0.mk H
   clear H
   go_wp2_with (first | ((with_reducible refine gC 156 ?_); refine cL (some 8) Try.func156 #[.slice A0 l0.length c0] ?_; (with_reducible refine (impl_pathOk.calls k _ _ l0 _ _ (cS (Kd.C_below HR0.out HB.out)) HC0.out A4.out).mono ?_); rintro e w8 ⟨rfl, hb⟩; refine ⟨_, rfl, ?_⟩; replace HB := hB hb; (try clear hb); (try clear hb2); (try clear hk); (try clear hi)))
   go_meet
   case rel => exact ⟨_, (true), fS, H', ⟨by first | omega | exact Nat.le_refl _⟩, ⟨bS⟩⟩
 case rest =>
  clear HC3
  try clear c1
  try clear p2
  try clear c5
  obtain ⟨kq, x14_2, rfl, HA, HJ2, HB⟩ := hcut
  cases kq with
  | zero => exact absurd HA.out (by simp [impl_SpansAt.j0])
  | succ kj2 =>
   have H := HA.out
   clear HA
   simp only [impl_SpansAt.j0] at H
   by_cases c9 : x14_2 = true
   ·subst c9
    rw [if_pos rfl] at H
    obtain rfl := Option.some.inj H
    go_wp2
    go_ret
    exact ⟨_, eS, by first | exact Kd.R_nil _ _ _ _ _ | exact Kd.N_nil _ _ _ _ _ | exact Kd.V_nil _ _ _ _ _ | exact Kd.Q_nil _ _ _ _ _ | exact Kd.S_nil _ _ _ _ _, bS⟩
   ·obtain rfl := Bool.eq_false_iff.mpr c9
    rw [if_neg nF] at H
    have H' := Aside0.mk H
    clear H
    go_wp2
    go_loopg [5, 6] kj2 (fun kq v5 v6 w' => ∃ (x5_2 : List (S124)) (x6_2 : Int), v6 = .int .i64 x6_2 ∧ Aside0 (impl_SpansAt.l0 kq l0 a1 x5_2 x6_2 = some r) ∧ Aside0 (kq ≤ kj2) ∧ Aside0 (Kd.R k124 124 w' w.heap.size (fun _ => True) v5 x5_2) ∧ Aside0 (Below w.heap.size w w'))
    case atStart => exact ⟨(([] : List (S124))), ((-200)), fS, H', ⟨Nat.le_refl _⟩, ⟨by first | exact Kd.R_nil _ _ _ _ _ | exact Kd.N_nil _ _ _ _ _ | exact Kd.V_nil _ _ _ _ _ | exact Kd.Q_nil _ _ _ _ _ | exact Kd.S_nil _ _ _ _ _⟩, ⟨bS⟩⟩
    case round =>
     clear H'
     try clear c1
     try clear p2
     try clear c5
     try clear c9
     try clear p2
     obtain ⟨x5_2, x6_2, rfl, HA, HK2, HO_5, HB⟩ := hrel
     cases gk with
     | zero => exact absurd HA.out (by simp [impl_SpansAt.l0])
     | succ k2 =>
      have H := HA.out
      clear HA
      simp only [impl_SpansAt.l0] at H
      rcases iD H with ⟨c10b0, H⟩ | ⟨c10b0, H⟩
      ·replace H := bN H
       obtain ⟨t188, A11, H⟩ := H
       by_cases c12 : t188 = true
       ·subst c12
        rw [if_pos rfl] at H
        by_cases c13 : (x5_2.length : Int) > 0
        ·rw [if_pos c13] at H
         have c13b0 : decide (0 < (x5_2.length : Int)) = true := decide_eq_true c13
         have c13b1 : decide (0 < x5_2.length) = true := decide_eq_true (by omega)
         clear c13
         obtain ⟨ji14, hji14⟩ : ∃ j_ : Int, (wrap64 ((x5_2.length : Int) - 1)) = j_ := ⟨_, rfl⟩
         replace H : (if 0 ≤ (ji14) then (if (ji14) < (x5_2.length : Int) then (if ((rd_T124 x5_2 (ji14)).f1) = x6_2 then (impl_SpansAt.l0 k2 l0 a1 (x5_2.set ((ji14) : Int).toNat (⟨(rd_T124 x5_2 (ji14)).f0, wrap64 (((rd_T124 x5_2 (ji14)).f1) + 1)⟩ : S124)) (wrap64 (x6_2 + 1))) else (if x5_2.length < 8796093022208 then (impl_SpansAt.l0 k2 l0 a1 (x5_2 ++ [(⟨x6_2, wrap64 (x6_2 + 1)⟩ : S124)]) (wrap64 (x6_2 + 1))) else (none))) else (none)) else (none)) = some r := by first | (rw [hji14] at H; exact H) | (simp only [hji14] at H ⊢; exact H)
         (try rw [hji14] at A11)
         have hji14w : (IntKind.i64.wrap ((x5_2.length : Int) - 1)) = ji14 := (i64_w _).trans hji14
         obtain ⟨c15b0, H⟩ := iT H
         obtain ⟨c16b0, H⟩ := iT H
         by_cases c17 : ((rd_T124 x5_2 (ji14)).f1) = x6_2
         ·rw [if_pos c17] at H
          have c17b0 : (((rd_T124 x5_2 (ji14)).f1) == x6_2) = true := beq_iff_eq.mpr c17
          have c17b1 : (((rd_T124 x5_2 (ji14)).f1) != x6_2) = false := bne_eq_false_iff_eq.mpr c17
          clear c17
          obtain ⟨y191, hy191⟩ : ∃ y_ : List (S124), y_ = (x5_2.set ((ji14) : Int).toNat (⟨(rd_T124 x5_2 (ji14)).f0, wrap64 (((rd_T124 x5_2 (ji14)).f1) + 1)⟩ : S124)) := ⟨_, rfl⟩
          replace H : (impl_SpansAt.l0 k2 l0 a1 y191 (wrap64 (x6_2 + 1))) = some r := by first | (rw [hy191]; with_reducible exact H) | (have H2_ := (Option.bind_some _ _).symm.trans H; rw [hy191]; with_reducible exact H2_) | (have H2_ := (Option.bind_some _ _).symm.trans H; with_reducible exact H2_) | with_reducible exact H | (rw [hy191]; exact H) | exact H
          have Ny191 := Aside0.mk hy191
          clear hy191
          have H' := Aside0.mk H
          clear H
          go_wp2_with (first | ((with_reducible refine gC 158 ?_); refine cL (some 22) Try.func158 #[.slice A0 l0.length c0, .int .i64 x6_2, .int .i64 a1] ?_; (with_reducible refine (impl_InsidePath.calls k2 _ _ l0 x6_2 a1 _ _ (cS (Kd.C_below HR0.out HB.out)) HC0.out A11.out).mono ?_); rintro e w19 ⟨rfl, hb⟩; refine ⟨_, rfl, ?_⟩; replace HO_5 := Aside0.mk (Kd.R_below (rS HO_5) hb); replace HB := hB hb; (try clear hb); (try clear hb2); (try clear hk); (try clear hi); obtain ⟨Ao20, co20, eo20⟩ := Kd.R_slice HO_5.out; subst eo20; have p189 : 0 ≤ ((ji14) : Int) := dA; have q189 : (ji14) < (x5_2.length : Int) := dA; obtain ⟨ad189, e189, hx189_0, hx189_1⟩ := at_T124 (Kd.R_reads' HO_5.out).2.2 (ji14) p189 q189; cases e189; replace p189 := eq_true p189; replace q189 := eq_true q189; have p190 : 0 ≤ ((ji14) : Int) := dA; have q190 : (ji14) < (x5_2.length : Int) := dA; obtain ⟨ad190, e190, hx190_0, hx190_1⟩ := at_T124 (Kd.R_reads' HO_5.out).2.2 (ji14) p190 q190; obtain rfl : ad189 = ad190 := (by injection e190); replace p190 := eq_true p190; replace q190 := eq_true q190; have p18 : 0 ≤ ((ji14) : Int) := dA; have q18 : ((ji14) : Int) < ((x5_2.length : Int) : Int) := dA; obtain ⟨go18, co18, eo18, gb18, gl18, cl18, HG18⟩ := Kd.R_form HO_5.out (by omega); (first | cases eo18 | (injection eo18 with ea_ en_ ec_; (first | subst ea_ | (injection ea_ with ea_; subst ea_)); subst ec_; clear en_)); have GB18 := Aside0.mk gb18; have GG18 := Aside0.mk HG18; clear gb18 gl18 HG18; (first | simp only [add_plain] at hx189_0 | skip); (first | simp only [add_plain] at hx189_1 | skip); (first | simp only [add_plain] at hx190_0 | skip); (first | simp only [add_plain] at hx190_1 | skip); obtain ⟨ce18, hcl18, hM18, hcc18, hfr18⟩ := Kd.R_elem HO_5.out z124 ((ji14) : Int) p18 q18; obtain rfl := k124_openM hM18; have hx18_0 : w19.cell? ⟨go18, ((ji14) : Int).toNat * 2, none⟩ = some (.int .i64 ((rd_T124 x5_2 (ji14)).f0)) := hcc18 0 _ rfl; have hx18_1 : w19.cell? ⟨go18, ((ji14) : Int).toNat * 2 + 1, none⟩ = some (.int .i64 ((rd_T124 x5_2 (ji14)).f1)) := hcc18 1 _ rfl; have hf18_0 : w19.frozen? ⟨go18, ((ji14) : Int).toNat * 2, none⟩ = false := hfr18 0; have hf18_1 : w19.frozen? ⟨go18, ((ji14) : Int).toNat * 2 + 1, none⟩ = false := hfr18 1; (try clear hM18); clear hcl18 hcc18 hfr18; replace p18 := eq_true p18; replace q18 := eq_true q18; have HX21 := Aside0.mk (show Kd.R k124 124 w19 w.heap.size (fun _ => True) (.slice (some ⟨go18, 0, none⟩) x5_2.length co20) x5_2 from (rS HO_5)); obtain ⟨ce21, hcl21, hM21, hcc21, hfr21⟩ := Kd.R_elem HX21.out z124 ((ji14) : Int) (dA) (by have h_ : ((ji14) : Int) < ((x5_2.length : Int) : Int) := dA; first | exact h_ | (have e_ := (Kd.R_reads' HO_5.out).1; omega) | simpa using h_); obtain rfl := k124_openM hM21; have HP21 := Kd.R_seg HX21.out ((ji14) : Int) (dA) (by have h_ : ((ji14) : Int) < ((x5_2.length : Int) : Int) := dA; first | exact h_ | (have e_ := (Kd.R_reads' HO_5.out).1; omega) | simpa using h_) (seg := [.int .i64 (wrap64 (((rd_T124 x5_2 (ji14)).f1) + 1))]) (j := 1) hcl21 hcc21 (show 2 ≤ 2 from by decide) (x' := (⟨(rd_T124 x5_2 (ji14)).f0, wrap64 (((rd_T124 x5_2 (ji14)).f1) + 1)⟩ : S124)) (k124_mkM _ _ _ (⟨(rd_T124 x5_2 (ji14)).f0, wrap64 (((rd_T124 x5_2 (ji14)).f1) + 1)⟩ : S124) ) (fun _ hk => hk); have hx21_1 := hcc21 1 _ rfl; (try simp only [show (k124).sz = 2 from rfl, Nat.mul_one, Nat.add_zero] at hx21_1); have hf21_1 := hfr21 1; (try simp only [show (k124).sz = 2 from rfl, Nat.mul_one, Nat.add_zero] at hf21_1); (try clear hM21); clear hcl21 hcc21 hfr21) | ((with_reducible refine gate_store (t := 3) (p := 47) rfl ?_); refine store_event (t := 3) (p := 47) (v := ?vo_w22) (w1 := (w19.setCell ⟨go18, ((ji14) : Int).toNat * 2 + 1, none⟩ (.int .i64 (wrap64 (((rd_T124 x5_2 (ji14)).f1) + 1))))) ?hg ?ho ?hn ?hr ?_; (case ho => rfl); (case hg => rfl); (case hn => rfl); (case hr => first | (go_simp; done) | (go_simp; rfl)); intro w22 hw; have hg : w19.grownBy w22 (some go18) := (by rw [hw]; exact HP21.2); have hp_ : Kd.R k124 124 w22 w.heap.size (fun _ => True) (.slice (some ⟨go18, 0, none⟩) x5_2.length co20) y191 := (by rw [hw, Ny191.out]; exact HP21.1); clear HP21; replace HO_5 := Aside0.mk (hp_); replace HB := Aside0.mk ((by rw [hw]; exact below_set (HB.out) GB18.out : Below w.heap.size w w22)); clear hg hw hp_))
          go_roundg k2
          case measure => have := HJ2.out; have := HK2.out; omega
          case rel => exact ⟨(y191), (wrap64 (x6_2 + 1)), fS, H', ⟨by have := HJ2.out; have := HK2.out; omega⟩, ⟨rS HO_5⟩, ⟨bS⟩⟩
         ·rw [if_neg c17] at H
          have c17b0 : (((rd_T124 x5_2 (ji14)).f1) == x6_2) = false := beq_eq_false_iff_ne.mpr c17
          have c17b1 : (((rd_T124 x5_2 (ji14)).f1) != x6_2) = true := bne_iff_ne.mpr c17
          obtain ⟨LMc23, H⟩ := iL H
          obtain ⟨y192, hy192⟩ : ∃ y_ : List (S124), y_ = (x5_2 ++ [(⟨x6_2, wrap64 (x6_2 + 1)⟩ : S124)]) := ⟨_, rfl⟩
          replace H : (impl_SpansAt.l0 k2 l0 a1 y192 (wrap64 (x6_2 + 1))) = some r := by first | (rw [hy192]; with_reducible exact H) | (have H2_ := (Option.bind_some _ _).symm.trans H; rw [hy192]; with_reducible exact H2_) | (have H2_ := (Option.bind_some _ _).symm.trans H; with_reducible exact H2_) | with_reducible exact H | (rw [hy192]; exact H) | exact H
          have Ny192 := Aside0.mk hy192
          clear hy192
          have H' := Aside0.mk H
          clear H
          go_wp2_with (first | ((with_reducible refine gC 158 ?_); refine cL (some 22) Try.func158 #[.slice A0 l0.length c0, .int .i64 x6_2, .int .i64 a1] ?_; (with_reducible refine (impl_InsidePath.calls k2 _ _ l0 x6_2 a1 _ _ (cS (Kd.C_below HR0.out HB.out)) HC0.out A11.out).mono ?_); rintro e w24 ⟨rfl, hb⟩; refine ⟨_, rfl, ?_⟩; replace HO_5 := Aside0.mk (Kd.R_below (rS HO_5) hb); replace HB := hB hb; (try clear hb); (try clear hb2); (try clear hk); (try clear hi); obtain ⟨Ao25, co25, eo25⟩ := Kd.R_slice HO_5.out; subst eo25; have p189 : 0 ≤ ((ji14) : Int) := dA; have q189 : (ji14) < (x5_2.length : Int) := dA; obtain ⟨ad189, e189, hx189_0, hx189_1⟩ := at_T124 (Kd.R_reads' HO_5.out).2.2 (ji14) p189 q189; cases e189; replace p189 := eq_true p189; replace q189 := eq_true q189) | ((with_reducible refine gate_builtin (b := .append) (xs := #[.tmp 48, .tmp 53]) rfl ?_); (try (refine gG (by rfl) (by rfl) ?_; dsimp only)); at_builtin; refine Kd.R_append k124 (w0 := w) w.heap.size rfl (.tmp 48) (.tmp 53) 40 124 (.agg #[(.int .i64 0), (.int .i64 0)]) 16 rfl Try.underlying40 info124 rfl (by decide) (by omega) (.slice (some ad189) x5_2.length co25) x5_2 (⟨x6_2, wrap64 (x6_2 + 1)⟩ : S124) [.int .i64 x6_2, .int .i64 (wrap64 (x6_2 + 1))] (fun _ => True) (fun _ => False) rfl rfl ?aP (fun _ hk => hk.elim) ?aF ?aO ?aB ?aS ?aL ?_; (case aP => exact k124_mkM _ _ _ (⟨x6_2, wrap64 (x6_2 + 1)⟩ : S124)); (case aB => exact bS); (case aF => exact (fun _ _ => trivial)); (case aO => exact (rS HO_5)); (case aS => exact (below_size bS)); (case aL => have := LMc23.out; omega); intro v193 w26 ho hb hg hat; rw [← Ny192.out] at ho; have HO194 := Aside0.mk (ho); replace HB := Aside0.mk (hb); clear HO_5; clear ho hb hg hat))
          go_roundg k2
          case measure => have := HJ2.out; have := HK2.out; omega
          case rel => exact ⟨(y192), (wrap64 (x6_2 + 1)), fS, H', ⟨by have := HJ2.out; have := HK2.out; omega⟩, ⟨rS HO194⟩, ⟨bS⟩⟩
        ·rw [if_neg c13] at H
         have c13b0 : decide (0 < (x5_2.length : Int)) = false := decide_eq_false c13
         have c13b1 : decide (0 < x5_2.length) = false := decide_eq_false (by omega)
         clear c13
         obtain ⟨LMc27, H⟩ := iL H
         obtain ⟨y195, hy195⟩ : ∃ y_ : List (S124), y_ = (x5_2 ++ [(⟨x6_2, wrap64 (x6_2 + 1)⟩ : S124)]) := ⟨_, rfl⟩
         replace H : (impl_SpansAt.l0 k2 l0 a1 y195 (wrap64 (x6_2 + 1))) = some r := by first | (rw [hy195]; with_reducible exact H) | (have H2_ := (Option.bind_some _ _).symm.trans H; rw [hy195]; with_reducible exact H2_) | (have H2_ := (Option.bind_some _ _).symm.trans H; with_reducible exact H2_) | with_reducible exact H | (rw [hy195]; exact H) | exact H
         have Ny195 := Aside0.mk hy195
         clear hy195
         have H' := Aside0.mk H
         clear H
         go_wp2_with (first | ((with_reducible refine gC 158 ?_); refine cL (some 22) Try.func158 #[.slice A0 l0.length c0, .int .i64 x6_2, .int .i64 a1] ?_; (with_reducible refine (impl_InsidePath.calls k2 _ _ l0 x6_2 a1 _ _ (cS (Kd.C_below HR0.out HB.out)) HC0.out A11.out).mono ?_); rintro e w28 ⟨rfl, hb⟩; refine ⟨_, rfl, ?_⟩; replace HO_5 := Aside0.mk (Kd.R_below (rS HO_5) hb); replace HB := hB hb; (try clear hb); (try clear hb2); (try clear hk); (try clear hi); obtain ⟨Ao29, co29, eo29⟩ := Kd.R_slice HO_5.out; subst eo29) | ((with_reducible refine gate_builtin (b := .append) (xs := #[.tmp 48, .tmp 53]) rfl ?_); (try (refine gG (by rfl) (by rfl) ?_; dsimp only)); at_builtin; refine Kd.R_append k124 (w0 := w) w.heap.size rfl (.tmp 48) (.tmp 53) 40 124 (.agg #[(.int .i64 0), (.int .i64 0)]) 16 rfl Try.underlying40 info124 rfl (by decide) (by omega) (.slice Ao29 x5_2.length co29) x5_2 (⟨x6_2, wrap64 (x6_2 + 1)⟩ : S124) [.int .i64 x6_2, .int .i64 (wrap64 (x6_2 + 1))] (fun _ => True) (fun _ => False) rfl rfl ?aP (fun _ hk => hk.elim) ?aF ?aO ?aB ?aS ?aL ?_; (case aP => exact k124_mkM _ _ _ (⟨x6_2, wrap64 (x6_2 + 1)⟩ : S124)); (case aB => exact bS); (case aF => exact (fun _ _ => trivial)); (case aO => exact (rS HO_5)); (case aS => exact (below_size bS)); (case aL => have := LMc27.out; omega); intro v196 w30 ho hb hg hat; rw [← Ny195.out] at ho; have HO197 := Aside0.mk (ho); replace HB := Aside0.mk (hb); clear HO_5; clear ho hb hg hat))
         go_roundg k2
         case measure => have := HJ2.out; have := HK2.out; omega
         case rel => exact ⟨(y195), (wrap64 (x6_2 + 1)), fS, H', ⟨by have := HJ2.out; have := HK2.out; omega⟩, ⟨rS HO197⟩, ⟨bS⟩⟩
       ·obtain rfl := Bool.eq_false_iff.mpr c12
        rw [if_neg nF] at H
        have H' := Aside0.mk H
        clear H
        go_wp2_with (first | ((with_reducible refine gC 158 ?_); refine cL (some 22) Try.func158 #[.slice A0 l0.length c0, .int .i64 x6_2, .int .i64 a1] ?_; (with_reducible refine (impl_InsidePath.calls k2 _ _ l0 x6_2 a1 _ _ (cS (Kd.C_below HR0.out HB.out)) HC0.out A11.out).mono ?_); rintro e w31 ⟨rfl, hb⟩; refine ⟨_, rfl, ?_⟩; replace HO_5 := Aside0.mk (Kd.R_below (rS HO_5) hb); replace HB := hB hb; (try clear hb); (try clear hb2); (try clear hk); (try clear hi)))
        go_roundg k2
        case measure => have := HJ2.out; have := HK2.out; omega
        case rel => exact ⟨(x5_2), (wrap64 (x6_2 + 1)), fS, H', ⟨by have := HJ2.out; have := HK2.out; omega⟩, ⟨rS HO_5⟩, ⟨bS⟩⟩
      ·obtain rfl := Option.some.inj H
       go_wp2
       go_ret
       exact ⟨_, eS, rS HO_5, bS⟩

end Go.Proofs.Ytigodjcnkgebaaa.QFnExactRenderBands
