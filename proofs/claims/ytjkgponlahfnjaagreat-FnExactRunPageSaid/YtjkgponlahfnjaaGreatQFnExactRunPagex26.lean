/- Walks of functions of the program: each answers what its plain function tells, for every input at which that is told. -/
import Derived.Test.YtjkgponlahfnjaaGreatQFnExactRunPagex0
import Derived.Test.YtjkgponlahfnjaaGreatQFnExactRunPagex16
import Derived.Test.YtjkgponlahfnjaaGreatQFnExactRunPagex18
namespace Go.Proofs.YtjkgponlahfnjaaGreat.QFnExactRunPage
open Go.RowKit Go.Proofs.YtjkgponlahfnjaaGreatW.PrintWords Go.Proofs.YtjkgponlahfnjaaGreatW.PrintLast Go.Proofs.YtjkgponlahfnjaaGreatW.PrintMore
attribute [local go_sem] max2_int min2_int max_two min_two max_three min_three max_four min_four   -- for this text's walks alone
set_option linter.unusedVariables false
set_option linter.unusedSimpArgs false
set_option maxHeartbeats 8000000
set_option maxRecDepth 100000
/-! ### impl_tokensOk: function 123 -/
def impl_tokensOk.l0 : Nat → List (S50) → Int → Int → Option (Bool)
 | 0, _, _, _ => none
 | k + 1, x5, x6, x7 => if x7 < x6 then (if 0 ≤ x7 then (if x7 < (x5.length : Int) then ((impl_TokenOk.f k ((rd_T50 x5 x7).f0) ((rd_T50 x5 x7).f1)).bind fun a2 => (if a2 = true then (impl_tokensOk.l0 k x5 x6 (wrap64 (x7 + 1))) else (some false))) else (none)) else (none)) else (some true)
def impl_tokensOk.f (k : Nat) (l0 : List (S50)) : Option (Bool) := impl_tokensOk.l0 k l0 (l0.length : Int) 0
theorem impl_tokensOk.calls (k : Nat) (A0 : Option Addr) (c0 : Nat) (l0 : List (S50)) (r : Bool) (w : World) (hr0 : Kd.C k50 w A0 l0.length l0) (b7 : l0.length ≤ c0) (h : impl_tokensOk.f k l0 = some r) :
  Calls Tryz.prog 123 #[.slice A0 l0.length c0] w fun e w' => e = .returned (.bool r) ∧ Below w.heap.size w w' := by
 have hu50 := Tryz.underlying50
 have b8 := aM hr0
 have d2 := aM b7
 clear hr0 b7
 have HB := aM (Below.refl w.heap.size w)
 have H := h
 clear h
 unfold impl_tokensOk.f at H
 have H' := aM H
 clear H
 go_enter Tryz.func123, Tryz.ntmps123
 go_wp2
 go_loopg [7] k (fun kq v7 w' => ∃ (a2 : Int), v7 = .int .i64 a2 ∧ Aside0 (impl_tokensOk.l0 kq l0 (l0.length : Int) a2 = some r) ∧ Aside0 (kq ≤ k) ∧ Aside0 (Below w.heap.size w w'))
 case atStart => exact ⟨(0), fS, H', ⟨Nat.le_refl _⟩, ⟨bS⟩⟩
 case round =>
  clear H'
  try clear c1
  obtain ⟨a2, rfl, HA, b9, HB⟩ := hrel
  cases gk with
  | zero => exact absurd HA.out (by simp [impl_tokensOk.l0])
  | succ k1 =>
   have H := HA.out
   clear HA
   simp only [impl_tokensOk.l0] at H
   rcases iD H with ⟨b6, H⟩ | ⟨b6, H⟩
   ·obtain ⟨d0, H⟩ := iT H
    obtain ⟨d1, H⟩ := iT H
    replace H := bN H
    obtain ⟨b2, A5, H⟩ := H
    by_cases c6 : b2 = true
    ·subst c6
     rw [if_pos rfl] at H
     have H' := aM H
     clear H
     have a6 : 0 ≤ (a2 : Int) := dA
     have a7 : a2 < (l0.length : Int) := dA
     obtain ⟨b1, b0, a3, a5⟩ := at_T50 b8.out a2 a6 a7
     cases b0
     replace a3 := cB HB a3
     replace a5 := cB HB a5
     replace a6 := eq_true a6
     replace a7 := eq_true a7
     go_wp2_with (first | ((with_reducible refine gD 4 ?_); refine bxE #[.string (⟨#[]⟩ : ByteArray), .int .i64 0] 50 ?_; intro a9 hg w7 a8 hb; have GE1150 := gE hg; replace HB := hB hb; clear hb hg; have hz8 := cz2 a8) | ((with_reducible refine gC 37 ?_); refine cM (some 12) Tryz.func37 (impl_TokenOk.calls k1 ((rd_T50 l0 a2).f0) ((rd_T50 l0 a2).f1) _ _ A5.out) ?_; rintro e w9 ⟨rfl, hb⟩; refine ⟨_, rfl, ?_⟩; replace a8 := kO a9 #[.string ((rd_T50 l0 a2).f0), .int .i64 ((rd_T50 l0 a2).f1)] 50 hb; replace HB := hB hb; (try clear hb)))
     go_roundg k1
     case measure => have := b9.out; omega
     case rel => exact ⟨(wrap64 (a2 + 1)), fS, H', ⟨by have := b9.out; omega⟩, ⟨bS⟩⟩
    ·obtain rfl := Bool.eq_false_iff.mpr c6
     rw [if_neg nF] at H
     obtain rfl := Option.some.inj H
     have a6 : 0 ≤ (a2 : Int) := dA
     have a7 : a2 < (l0.length : Int) := dA
     obtain ⟨b1, b0, a3, a5⟩ := at_T50 b8.out a2 a6 a7
     cases b0
     replace a3 := cB HB a3
     replace a5 := cB HB a5
     replace a6 := eq_true a6
     replace a7 := eq_true a7
     go_wp2_with (first | ((with_reducible refine gD 4 ?_); refine bxE #[.string (⟨#[]⟩ : ByteArray), .int .i64 0] 50 ?_; intro a9 hg d3 a8 hb; have GE1150 := gE hg; replace HB := hB hb; clear hb hg; have hz11 := cz2 a8) | ((with_reducible refine gC 37 ?_); refine cM (some 12) Tryz.func37 (impl_TokenOk.calls k1 ((rd_T50 l0 a2).f0) ((rd_T50 l0 a2).f1) _ _ A5.out) ?_; rintro e d4 ⟨rfl, hb⟩; refine ⟨_, rfl, ?_⟩; replace a8 := kO a9 #[.string ((rd_T50 l0 a2).f0), .int .i64 ((rd_T50 l0 a2).f1)] 50 hb; replace HB := hB hb; (try clear hb)))
     go_ret
     exact ⟨eS, bS⟩
   ·obtain rfl := Option.some.inj H
    go_wp2
    go_ret
    exact ⟨eS, bS⟩
mutual
def impl_BlocksOk.j0 : Nat → List (S50) → Bool → Option (Bool)
 | 0, _, _ => none
 | k + 1, x0, a3 => if a3 = true then (some false) else (impl_BlocksOk.l0 k x0 0 x0 (x0.length : Int) 0)
def impl_BlocksOk.l0 : Nat → List (S50) → Int → List (S50) → Int → Int → Option (Bool)
 | 0, _, _, _, _, _ => none
 | k + 1, x0, x3, x14, x15, x16 => if x16 < x15 then (if 0 ≤ x16 then (if x16 < (x14.length : Int) then (if ((rd_T50 x14 x16).f0).toList = ([114, 101, 112, 101, 97, 116] : List UInt8) then (if x16 = 0 then (impl_BlocksOk.j2 k x0 x3 x14 x15 x16 true) else (if 0 ≤ (wrap64 (x16 - 1)) then (if (wrap64 (x16 - 1)) < (x0.length : Int) then (if ((rd_T50 x0 (wrap64 (x16 - 1))).f0).toList = ([] : List UInt8) then ((impl_within.f ((rd_T50 x0 (wrap64 (x16 - 1))).f1) 0 9).bind fun a2 => (impl_BlocksOk.j2 k x0 x3 x14 x15 x16 (!a2))) else (impl_BlocksOk.j2 k x0 x3 x14 x15 x16 true)) else (none)) else (none))) else (if ((rd_T50 x14 x16).f0).toList = ([101, 110, 100] : List UInt8) then (if (wrap64 (x3 - 1)) < 0 then (some false) else (impl_BlocksOk.l0 k x0 (wrap64 (x3 - 1)) x14 x15 (wrap64 (x16 + 1)))) else (impl_BlocksOk.l0 k x0 x3 x14 x15 (wrap64 (x16 + 1))))) else (none)) else (none)) else (some (x3 == 0))
def impl_BlocksOk.j2 : Nat → List (S50) → Int → List (S50) → Int → Int → Bool → Option (Bool)
 | 0, _, _, _, _, _, _ => none
 | k + 1, x0, x3, x14, x15, x16, a5 => if a5 = true then (some false) else (if (wrap64 (x3 + 1)) > 3 then (some false) else (impl_BlocksOk.l0 k x0 (wrap64 (x3 + 1)) x14 x15 (wrap64 (x16 + 1))))
end
def impl_BlocksOk.f (k : Nat) (l0 : List (S50)) : Option (Bool) := if (l0.length : Int) > 60 then (impl_BlocksOk.j0 k l0 true) else ((impl_tokensOk.f k l0).bind fun a2 => (impl_BlocksOk.j0 k l0 (!a2)))
theorem impl_BlocksOk.calls (k : Nat) (A0 : Option Addr) (c0 : Nat) (l0 : List (S50)) (r : Bool) (w : World) (hr0 : Kd.C k50 w A0 l0.length l0) (h3 : l0.length ≤ c0) (h : impl_BlocksOk.f k l0 = some r) :
  Calls Tryz.prog 107 #[.slice A0 l0.length c0] w fun e w' => e = .returned (.bool r) ∧ Below w.heap.size w w' := by
 have hu50 := Tryz.underlying50
 have e6 := aM hr0
 have h5 := aM h3
 clear hr0 h3
 have HB := aM (Below.refl w.heap.size w)
 have H := h
 clear h
 unfold impl_BlocksOk.f at H
 have h0 := aM H
 clear H
 go_enter Tryz.func107, Tryz.ntmps107
 go_upto_region 1 with (fail)
 go_cut [13] (fun h6 wc => ∃ (kq : Nat) (d6 : Bool), h6 = .bool d6 ∧ Aside0 (impl_BlocksOk.j0 kq l0 d6 = some r) ∧ Aside0 (kq ≤ k) ∧ Aside0 (Below w.heap.size w wc))
 case first =>
  have H := h0.out
  clear h0
  by_cases c3 : (l0.length : Int) > 60
  ·rw [if_pos c3] at H
   have d4 : decide (60 < (l0.length : Int)) = true := decide_eq_true c3
   have e4 : decide (60 < l0.length) = true := decide_eq_true (by omega)
   clear c3
   (first | rw [d4] | (simp only [i64_w, i32_w]; rw [d4]) | skip)
   have H' := aM H
   clear H
   go_wp2
   go_meet
   case rel => exact ⟨_, (true), fS, H', ⟨by first | omega | exact Nat.le_refl _⟩, ⟨bS⟩⟩
  ·rw [if_neg c3] at H
   have d4 : decide (60 < (l0.length : Int)) = false := decide_eq_false c3
   have e4 : decide (60 < l0.length) = false := decide_eq_false (by omega)
   clear c3
   (first | rw [d4] | (simp only [i64_w, i32_w]; rw [d4]) | skip)
   replace H := bN H
   obtain ⟨e7, A4, H⟩ := H
   have H' := aM H
   clear H
   go_wp2_with (first | (go_at_call 123; (with_reducible refine (impl_tokensOk.calls k _ _ l0 e7 _ (cC e6 HB) h5.out A4.out).mono ?_); rintro e w5 ⟨rfl, hb⟩; replace HB := hB hb; (try clear hb)))
   go_meet
   case rel => exact ⟨_, (!e7), fS, H', ⟨by first | omega | exact Nat.le_refl _⟩, ⟨bS⟩⟩
 case rest =>
  clear h0
  try clear c1
  try clear p2
  try clear c3
  try clear d4
  try clear e4
  obtain ⟨kq, d6, rfl, HA, HJ1, HB⟩ := hcut
  cases kq with
  | zero => exact absurd HA.out (by simp [impl_BlocksOk.j0])
  | succ kj1 =>
   have H := HA.out
   clear HA
   simp only [impl_BlocksOk.j0] at H
   by_cases c6 : d6 = true
   ·subst c6
    rw [if_pos rfl] at H
    obtain rfl := Option.some.inj H
    go_wp2
    go_ret
    exact ⟨eS, bS⟩
   ·obtain rfl := Bool.eq_false_iff.mpr c6
    rw [if_neg nF] at H
    have H' := aM H
    clear H
    go_wp2
    go_loopg [3, 16] kj1 (fun kq v3 h7 w' => ∃ (d0 : Int) (a2 : Int), v3 = .int .i64 d0 ∧ h7 = .int .i64 a2 ∧ Aside0 (impl_BlocksOk.l0 kq l0 d0 l0 (l0.length : Int) a2 = some r) ∧ Aside0 (kq ≤ kj1) ∧ Aside0 (Below w.heap.size w w'))
    case atStart => exact ⟨(0), (0), fS, fS, H', ⟨Nat.le_refl _⟩, ⟨bS⟩⟩
    case round =>
     clear H'
     try clear c1
     try clear p2
     try clear c3
     try clear d4
     try clear e4
     try clear c6
     try clear p2
     obtain ⟨d0, a2, rfl, rfl, HA, e5, HB⟩ := hrel
     cases gk with
     | zero => exact absurd HA.out (by simp [impl_BlocksOk.l0])
     | succ k2 =>
      have H := HA.out
      clear HA
      simp only [impl_BlocksOk.l0] at H
      by_cases c7 : a2 < (l0.length : Int)
      ·rw [if_pos c7] at H
       have g1 : decide (a2 < (l0.length : Int)) = true := decide_eq_true c7
       clear c7
       by_cases c8 : 0 ≤ a2
       ·rw [if_pos c8] at H
        have h1 : decide (0 ≤ a2) = true := decide_eq_true c8
        clear c8
        by_cases c9 : a2 < (l0.length : Int)
        ·rw [if_pos c9] at H
         have h2 : decide (a2 < (l0.length : Int)) = true := decide_eq_true c9
         clear c9
         by_cases c10 : ((rd_T50 l0 a2).f0).toList = ([114, 101, 112, 101, 97, 116] : List UInt8)
         ·rw [if_pos c10] at H
          obtain ⟨e8, e9⟩ := eqT c10
          clear c10
          have f7 := aM H
          clear H
          have b1 : 0 ≤ (a2 : Int) := dA
          have b2 : a2 < (l0.length : Int) := dA
          obtain ⟨b0, d1, a7, a8⟩ := at_T50 e6.out a2 b1 b2
          cases d1
          replace a7 := cB HB a7
          replace a8 := cB HB a8
          replace b1 := eq_true b1
          replace b2 := eq_true b2
          go_upto_region 9 with (first | ((with_reducible refine gD 5 ?_); refine bxE #[.string (⟨#[]⟩ : ByteArray), .int .i64 0] 50 ?_; intro a5 hg i3 b7 hb; have GE1154 := gE hg; replace HB := hB hb; clear hb hg; have hz13 := cz2 b7))
          (try simp only [Act.put, List.setIfInBounds_toArray, List.set_cons_zero, List.set_cons_succ])
          go_cut [45] (fun h8 wc => ∃ (kq : Nat) (d3 : Bool), h8 = .bool d3 ∧ Aside0 (impl_BlocksOk.j2 kq l0 d0 l0 (l0.length : Int) a2 d3 = some r) ∧ Aside0 (kq ≤ k2) ∧ Aside0 (wc.heap[a5]? = some (.cells #[.string ((rd_T50 l0 a2).f0), .int .i64 ((rd_T50 l0 a2).f1)] 50 (0, 0))) ∧ Aside0 (Below w.heap.size w wc))
          case first =>
           have H := f7.out
           clear f7
           by_cases f3 : a2 = 0
           ·rw [if_pos f3] at H
            have d2 : (a2 == 0) = true := beq_iff_eq.mpr f3
            have f4 : (a2 != 0) = false := bne_eq_false_iff_eq.mpr f3
            clear f3
            (first | rw [d2] | (simp only [i64_w, i32_w]; rw [d2]) | skip)
            have H' := aM H
            clear H
            go_wp2
            go_meet
            case rel => exact ⟨_, (true), fS, H', ⟨by have := HJ1.out; have := e5.out; first | omega | exact Nat.le_refl _⟩, ⟨kS⟩, ⟨bS⟩⟩
           ·rw [if_neg f3] at H
            have d2 : (a2 == 0) = false := beq_eq_false_iff_ne.mpr f3
            have f4 : (a2 != 0) = true := bne_iff_ne.mpr f3
            (first | rw [d2] | (simp only [i64_w, i32_w]; rw [d2]) | skip)
            obtain ⟨ji15, hji15⟩ : ∃ j_ : Int, (wrap64 (a2 - 1)) = j_ := ⟨_, rfl⟩
            replace H : (if 0 ≤ (ji15) then (if (ji15) < (l0.length : Int) then (if ((rd_T50 l0 (ji15)).f0).toList = ([] : List UInt8) then ((impl_within.f ((rd_T50 l0 (ji15)).f1) 0 9).bind fun e0 => (impl_BlocksOk.j2 k2 l0 d0 l0 (l0.length : Int) a2 (!e0))) else (impl_BlocksOk.j2 k2 l0 d0 l0 (l0.length : Int) a2 true)) else (none)) else (none)) = some r := by first | (rw [hji15] at H; exact H) | (simp only [hji15] at H ⊢; exact H)
            have hji15w : (IntKind.i64.wrap (a2 - 1)) = ji15 := (i64_w _).trans hji15
            obtain ⟨g2, H⟩ := iT H
            obtain ⟨g3, H⟩ := iT H
            by_cases f9 : ((rd_T50 l0 (ji15)).f0).toList = ([] : List UInt8)
            ·rw [if_pos f9] at H
             obtain ⟨f5, f6⟩ := eqT f9
             clear f9
             replace H := bN H
             obtain ⟨e0, h9, H⟩ := H
             have H' := aM H
             clear H
             have b8 : 0 ≤ ((ji15) : Int) := dA
             have b9 : (ji15) < (l0.length : Int) := dA
             obtain ⟨d5, e3, a3, a6⟩ := at_T50 e6.out (ji15) b8 b9
             obtain rfl : b0 = d5 := (by injection e3)
             have hn1155_0 : b0.block ≠ a5 := nA a3 GE1154
             have hn1155_1 : b0.block ≠ a5 := nA a3 GE1154
             replace a3 := cB HB a3
             replace a6 := cB HB a6
             replace a3 := (cell_far (p := ⟨a5, 0, none⟩) (by first | (rw [add_block]; exact hn1155_0) | (show (Addr.add _ _).block ≠ _; rw [add_block]; exact hn1155_0) | exact hn1155_0) (.string ((rd_T50 l0 a2).f0))).trans a3
             replace a6 := (cell_far (p := ⟨a5, 0, none⟩) (by first | (rw [add_block]; exact hn1155_0) | (show (Addr.add _ _).block ≠ _; rw [add_block]; exact hn1155_0) | exact hn1155_0) (.string ((rd_T50 l0 a2).f0))).trans a6
             replace a3 := (cell_far (p := ⟨a5, 1, none⟩) (by first | (rw [add_block]; exact hn1155_1) | (show (Addr.add _ _).block ≠ _; rw [add_block]; exact hn1155_1) | exact hn1155_1) (.int .i64 ((rd_T50 l0 a2).f1))).trans a3
             replace a6 := (cell_far (p := ⟨a5, 1, none⟩) (by first | (rw [add_block]; exact hn1155_1) | (show (Addr.add _ _).block ≠ _; rw [add_block]; exact hn1155_1) | exact hn1155_1) (.int .i64 ((rd_T50 l0 a2).f1))).trans a6
             clear hn1155_0
             clear hn1155_1
             replace b8 := eq_true b8
             replace b9 := eq_true b9
             have e1 : 0 ≤ ((ji15) : Int) := dA
             have e2 : (ji15) < (l0.length : Int) := dA
             obtain ⟨f8, g4, a9, b6⟩ := at_T50 e6.out (ji15) e1 e2
             obtain rfl : b0 = f8 := (by injection g4)
             have hn1156_0 : b0.block ≠ a5 := nA a9 GE1154
             have hn1156_1 : b0.block ≠ a5 := nA a9 GE1154
             replace a9 := cB HB a9
             replace b6 := cB HB b6
             replace a9 := (cell_far (p := ⟨a5, 0, none⟩) (by first | (rw [add_block]; exact hn1156_0) | (show (Addr.add _ _).block ≠ _; rw [add_block]; exact hn1156_0) | exact hn1156_0) (.string ((rd_T50 l0 a2).f0))).trans a9
             replace b6 := (cell_far (p := ⟨a5, 0, none⟩) (by first | (rw [add_block]; exact hn1156_0) | (show (Addr.add _ _).block ≠ _; rw [add_block]; exact hn1156_0) | exact hn1156_0) (.string ((rd_T50 l0 a2).f0))).trans b6
             replace a9 := (cell_far (p := ⟨a5, 1, none⟩) (by first | (rw [add_block]; exact hn1156_1) | (show (Addr.add _ _).block ≠ _; rw [add_block]; exact hn1156_1) | exact hn1156_1) (.int .i64 ((rd_T50 l0 a2).f1))).trans a9
             replace b6 := (cell_far (p := ⟨a5, 1, none⟩) (by first | (rw [add_block]; exact hn1156_1) | (show (Addr.add _ _).block ≠ _; rw [add_block]; exact hn1156_1) | exact hn1156_1) (.int .i64 ((rd_T50 l0 a2).f1))).trans b6
             clear hn1156_0
             clear hn1156_1
             replace e1 := eq_true e1
             replace e2 := eq_true e2
             go_wp2_with (first | (go_at_call 83; (with_reducible refine (impl_within.calls ((rd_T50 l0 (ji15)).f1) 0 9 e0 _ h9.out).mono ?_); rintro e w' ⟨rfl, ⟨nd, rfl⟩⟩))
             go_meet
             case rel => exact ⟨_, (!e0), fS, H', ⟨by have := HJ1.out; have := e5.out; first | omega | exact Nat.le_refl _⟩, ⟨kS⟩, ⟨bS⟩⟩
            ·rw [if_neg f9] at H
             obtain ⟨f5, f6⟩ := eqF f9
             have H' := aM H
             clear H
             have b8 : 0 ≤ ((ji15) : Int) := dA
             have b9 : (ji15) < (l0.length : Int) := dA
             obtain ⟨d5, e3, a3, a6⟩ := at_T50 e6.out (ji15) b8 b9
             obtain rfl : b0 = d5 := (by injection e3)
             have hn1155_0 : b0.block ≠ a5 := nA a3 GE1154
             have hn1155_1 : b0.block ≠ a5 := nA a3 GE1154
             replace a3 := cB HB a3
             replace a6 := cB HB a6
             replace a3 := (cell_far (p := ⟨a5, 0, none⟩) (by first | (rw [add_block]; exact hn1155_0) | (show (Addr.add _ _).block ≠ _; rw [add_block]; exact hn1155_0) | exact hn1155_0) (.string ((rd_T50 l0 a2).f0))).trans a3
             replace a6 := (cell_far (p := ⟨a5, 0, none⟩) (by first | (rw [add_block]; exact hn1155_0) | (show (Addr.add _ _).block ≠ _; rw [add_block]; exact hn1155_0) | exact hn1155_0) (.string ((rd_T50 l0 a2).f0))).trans a6
             replace a3 := (cell_far (p := ⟨a5, 1, none⟩) (by first | (rw [add_block]; exact hn1155_1) | (show (Addr.add _ _).block ≠ _; rw [add_block]; exact hn1155_1) | exact hn1155_1) (.int .i64 ((rd_T50 l0 a2).f1))).trans a3
             replace a6 := (cell_far (p := ⟨a5, 1, none⟩) (by first | (rw [add_block]; exact hn1155_1) | (show (Addr.add _ _).block ≠ _; rw [add_block]; exact hn1155_1) | exact hn1155_1) (.int .i64 ((rd_T50 l0 a2).f1))).trans a6
             clear hn1155_0
             clear hn1155_1
             replace b8 := eq_true b8
             replace b9 := eq_true b9
             go_wp2
             go_meet
             case rel => exact ⟨_, (true), fS, H', ⟨by have := HJ1.out; have := e5.out; first | omega | exact Nat.le_refl _⟩, ⟨kS⟩, ⟨bS⟩⟩
          case rest =>
           clear f7
           try clear c1
           try clear p1
           try clear q1
           try clear hx1
           try clear p2
           try clear c3
           try clear d4
           try clear e4
           try clear c6
           try clear p6
           try clear c7
           try clear g1
           try clear c8
           try clear h1
           try clear c9
           try clear h2
           try clear c10
           try clear e8
           try clear e9
           try clear p11
           try clear i4
           try clear i1
           try clear f3
           try clear d2
           try clear f4
           try clear i5
           try clear g2
           try clear i6
           try clear g3
           try clear f9
           try clear f5
           try clear f6
           try clear a7
           try clear a8
           try clear a3
           try clear a6
           try clear a9
           try clear b6
           try clear b1
           try clear b8
           try clear e1
           try clear p2
           try clear b2
           try clear b9
           try clear e2
           obtain ⟨kq, d3, rfl, HA, HJ10, b7, HB⟩ := hcut
           cases kq with
           | zero => exact absurd HA.out (by simp [impl_BlocksOk.j2])
           | succ kj10 =>
            have H := HA.out
            clear HA
            simp only [impl_BlocksOk.j2] at H
            by_cases h4 : d3 = true
            ·subst h4
             rw [if_pos rfl] at H
             obtain rfl := Option.some.inj H
             go_wp2
             go_ret
             exact ⟨eS, bS⟩
            ·obtain rfl := Bool.eq_false_iff.mpr h4
             rw [if_neg nF] at H
             by_cases g0 : (wrap64 (d0 + 1)) > 3
             ·rw [if_pos g0] at H
              have g5 : decide (3 < (wrap64 (d0 + 1))) = true := decide_eq_true g0
              clear g0
              obtain rfl := Option.some.inj H
              go_wp2
              go_ret
              exact ⟨eS, bS⟩
             ·rw [if_neg g0] at H
              have g5 : decide (3 < (wrap64 (d0 + 1))) = false := decide_eq_false g0
              clear g0
              have H' := aM H
              clear H
              go_wp2
              go_roundg kj10
              case measure => have := HJ1.out; have := e5.out; have := HJ10.out; omega
              case rel => exact ⟨(wrap64 (d0 + 1)), (wrap64 (a2 + 1)), fS, fS, H', ⟨by have := HJ1.out; have := e5.out; have := HJ10.out; omega⟩, ⟨bS⟩⟩
         ·rw [if_neg c10] at H
          obtain ⟨e8, e9⟩ := eqF c10
          by_cases g6 : ((rd_T50 l0 a2).f0).toList = ([101, 110, 100] : List UInt8)
          ·rw [if_pos g6] at H
           obtain ⟨g7, g8⟩ := eqT g6
           clear g6
           rcases iD H with ⟨g9, H⟩ | ⟨g9, H⟩
           ·obtain rfl := Option.some.inj H
            have b1 : 0 ≤ (a2 : Int) := dA
            have b2 : a2 < (l0.length : Int) := dA
            obtain ⟨b0, d1, a7, a8⟩ := at_T50 e6.out a2 b1 b2
            cases d1
            replace a7 := cB HB a7
            replace a8 := cB HB a8
            replace b1 := eq_true b1
            replace b2 := eq_true b2
            go_wp2_with (first | ((with_reducible refine gD 5 ?_); refine bxE #[.string (⟨#[]⟩ : ByteArray), .int .i64 0] 50 ?_; intro a5 hg i7 b7 hb; have GE1154 := gE hg; replace HB := hB hb; clear hb hg; have hz25 := cz2 b7))
            go_ret
            exact ⟨eS, bS⟩
           ·have H' := aM H
            clear H
            have b1 : 0 ≤ (a2 : Int) := dA
            have b2 : a2 < (l0.length : Int) := dA
            obtain ⟨b0, d1, a7, a8⟩ := at_T50 e6.out a2 b1 b2
            cases d1
            replace a7 := cB HB a7
            replace a8 := cB HB a8
            replace b1 := eq_true b1
            replace b2 := eq_true b2
            go_wp2_with (first | ((with_reducible refine gD 5 ?_); refine bxE #[.string (⟨#[]⟩ : ByteArray), .int .i64 0] 50 ?_; intro a5 hg i8 b7 hb; have GE1154 := gE hg; replace HB := hB hb; clear hb hg; have hz27 := cz2 b7))
            go_roundg k2
            case measure => have := HJ1.out; have := e5.out; omega
            case rel => exact ⟨(wrap64 (d0 - 1)), (wrap64 (a2 + 1)), fS, fS, H', ⟨by have := HJ1.out; have := e5.out; omega⟩, ⟨bS⟩⟩
          ·rw [if_neg g6] at H
           obtain ⟨g7, g8⟩ := eqF g6
           have H' := aM H
           clear H
           have b1 : 0 ≤ (a2 : Int) := dA
           have b2 : a2 < (l0.length : Int) := dA
           obtain ⟨b0, d1, a7, a8⟩ := at_T50 e6.out a2 b1 b2
           cases d1
           replace a7 := cB HB a7
           replace a8 := cB HB a8
           replace b1 := eq_true b1
           replace b2 := eq_true b2
           go_wp2_with (first | ((with_reducible refine gD 5 ?_); refine bxE #[.string (⟨#[]⟩ : ByteArray), .int .i64 0] 50 ?_; intro a5 hg i9 b7 hb; have GE1154 := gE hg; replace HB := hB hb; clear hb hg; have hz29 := cz2 b7))
           go_roundg k2
           case measure => have := HJ1.out; have := e5.out; omega
           case rel => exact ⟨(d0), (wrap64 (a2 + 1)), fS, fS, H', ⟨by have := HJ1.out; have := e5.out; omega⟩, ⟨bS⟩⟩
        ·rw [if_neg c9] at H
         exact absurd H (by simp)
       ·rw [if_neg c8] at H
        exact absurd H (by simp)
      ·rw [if_neg c7] at H
       have g1 : decide (a2 < (l0.length : Int)) = false := decide_eq_false c7
       clear c7
       obtain rfl := Option.some.inj H
       go_wp2
       go_ret
       exact ⟨eS, bS⟩
def impl_Token.f (l0 : List (S50)) : Option ((List (S50))) := if 0 ≤ (l0.length : Int) then (if (l0.length : Int) ≤ (l0.length : Int) then (some (l0.take ((l0.length : Int) : Int).toNat)) else (none)) else (none)
theorem impl_Token.calls (P0_ : Nat → Prop) (A0 : Option Addr) (c0 : Nat) (l0 : List (S50)) (r : List (S50)) (w : World) (hs0 : Kd.V k50 50 w w.heap.size (fun k_ => P0_ k_) (.slice A0 l0.length c0) l0) (h : impl_Token.f l0 = some r) :
  Calls Tryz.prog 124 #[.slice A0 l0.length c0] w fun e w' => ∃ v0_ : Value, e = .returned (v0_) ∧ Kd.V k50 50 w' w.heap.size (fun k_ => (P0_ k_ ∨ w.heap.size ≤ k_)) v0_ r ∧ Below w.heap.size w w' := by
 have a7 := aM (show Kd.V k50 50 w w.heap.size (fun k_ => (P0_ k_ ∨ w.heap.size ≤ k_)) (.slice A0 l0.length c0) l0 from Kd.V_mono hs0 (fun k_ hk => .inl hk))
 have HB := aM (Below.refl w.heap.size w)
 have H := h
 clear h
 unfold impl_Token.f at H
 by_cases c2 : 0 ≤ (l0.length : Int)
 ·rw [if_pos c2] at H
  have a8 := eq_true c2
  have a9 : decide (0 ≤ (l0.length : Int)) = true := decide_eq_true c2
  clear c2
  obtain ⟨b0, b1, H⟩ := iF H
  obtain ⟨a2, hy_⟩ : ∃ y_ : List (S50), y_ = (l0.take ((l0.length : Int) : Int).toNat) := ⟨_, rfl⟩
  replace H : (some a2) = some r := yS
  have Ny1158 := aM hy_
  clear hy_
  obtain rfl := Option.some.inj H
  have q4 : ((l0.length : Int) : Int) ≤ ((l0.length : Int) : Int) := dA
  obtain ⟨i04, hi04, _, hsz4, _⟩ := info_parts info50
  have hroom4 : l0.length ≤ c0 := (Kd.V_reads' a7.out).2.1
  have hC4 : Kd.F k50 _ _ A0 l0.length l0 := (Kd.V_at (base := w.heap.size) a7.out).2.2
  have hcut4 := cut_clip (P := Tryz.prog) 59 50 .i64 Tryz.underlying59 hi04 A0 l0.length c0 (l0.length : Int) (dA) q4 hroom4
  have a5 := Kd.F_take (m := ((l0.length : Int) : Int).toNat) hC4 (by omega)
  have hy4 : a2.length = ((l0.length : Int) : Int).toNat := (by rw [Ny1158.out, List.length_take]; omega)
  rw [← Ny1158.out] at a5
  rw [← hy4] at hcut4
  have a3 := aM (show Kd.V k50 50 _ w.heap.size _ (.slice A0 a2.length a2.length) a2 from Kd.V_mk (by omega) a5)
  have a6 := aM (show a2.length ≤ a2.length from by omega)
  clear a5 hC4 hroom4 hi04 hsz4
  have KY4 := aM hy4
  clear hy4
  replace q4 := eq_true q4
  go_enter Tryz.func124, Tryz.ntmps124
  go_wp2
  go_ret
  exact ⟨_, eS, by (with_reducible repeat (first | apply Kd.V_alloc | apply Kd.V_drewN | apply Kd.V_drew)); exact a3.out, bS⟩
 ·rw [if_neg c2] at H
  exact absurd H (by simp)
mutual
def impl_flat.l0 : Nat → List (S50) → Int → List (S50) → Option ((List (S50)) × Int)
 | 0, _, _, _ => none
 | k + 1, x0, x1, x6 => if x1 < (x0.length : Int) then (if 0 ≤ x1 then (impl_flat.j1 k x0 x1 x6 (((rd_T50 x0 x1).f0).toList != ([101, 110, 100] : List UInt8))) else (none)) else (impl_flat.j1 k x0 x1 x6 false)
def impl_flat.j1 : Nat → List (S50) → Int → List (S50) → Bool → Option ((List (S50)) × Int)
 | 0, _, _, _, _ => none
 | k + 1, x0, x1, x6, a5 => if a5 = true then (if 0 ≤ x1 then (if x1 < (x0.length : Int) then (if ((rd_T50 x0 x1).f0).toList = ([114, 101, 112, 101, 97, 116] : List UInt8) then (if 0 ≤ (wrap64 ((x6.length : Int) - 1)) then (if (wrap64 ((x6.length : Int) - 1)) < (x6.length : Int) then (if (wrap64 ((x6.length : Int) - 1)) ≤ (x6.length : Int) then ((impl_flat.f k x0 (wrap64 (x1 + 1))).bind fun a2 => (impl_flat.l1 k x0 (x6.take ((wrap64 ((x6.length : Int) - 1)) : Int).toNat) ((rd_T50 x6 (wrap64 ((x6.length : Int) - 1))).f1) a2.1 a2.2)) else (none)) else (none)) else (none)) else (if x6.length < 5864062014805 then (impl_flat.l0 k x0 (wrap64 (x1 + 1)) (x6 ++ [(⟨(rd_T50 x0 x1).f0, (rd_T50 x0 x1).f1⟩ : S50)])) else (none))) else (none)) else (none)) else ((impl_Token.f x6).bind fun a3 => (some (a3, x1)))
def impl_flat.l1 : Nat → List (S50) → List (S50) → Int → List (S50) → Int → Option ((List (S50)) × Int)
 | 0, _, _, _, _, _ => none
 | k + 1, x0, x6, x7, x8, x9 => if x7 > 0 then (if x6.length + x8.length < 5864062014805 then (impl_flat.l1 k x0 (x6 ++ x8) (wrap64 (x7 - 1)) x8 x9) else (none)) else (impl_flat.l0 k x0 (wrap64 (x9 + 1)) x6)
def impl_flat.f : Nat → List (S50) → Int → Option ((List (S50)) × Int)
 | 0, _, _ => none
 | k + 1, l0, a1 => impl_flat.l0 k l0 a1 ([] : List (S50))
end
theorem impl_flat.calls (k : Nat) : ∀ (A0 : Option Addr) (c0 : Nat) (l0 : List (S50)) (a1 : Int) (r1 : List (S50)) (r2 : Int) (w : World) (hr0 : Kd.C k50 w A0 l0.length l0) (i9 : l0.length ≤ c0) (h : impl_flat.f k l0 a1 = some (r1, r2)),
  Calls Tryz.prog 108 #[.slice A0 l0.length c0, .int .i64 a1] w fun e w' => ∃ v0_ : Value, e = .returned (.tuple #[v0_, .int .i64 r2]) ∧ Kd.V k50 50 w' w.heap.size (fun k_ => (w.heap.size ≤ k_)) v0_ r1 ∧ Below w.heap.size w w' := by
 induction k using Nat.strongRecOn with
 | _ k ih =>
 intro A0 c0 l0 a1 r1 r2 w hr0 i9 h
 cases k with
 | zero => exact absurd h (by simp [impl_flat.f])
 | succ k =>
 simp only [impl_flat.f] at h
 have hu50 := Tryz.underlying50
 have g5 := aM hr0
 have k6 := aM i9
 clear hr0 i9
 have HB := aM (Below.refl w.heap.size w)
 have H : (impl_flat.l0 k l0 a1 ([] : List (S50))) = some (r1, r2) := h
 clear h
 have H' := aM H
 clear H
 go_enter Tryz.func108, Tryz.ntmps108
 go_wp2
 go_loopg [1, 6] k (fun kq v1 v6 w' => ∃ (a2 : Int) (a3 : List (S50)), v1 = .int .i64 a2 ∧ Aside0 (impl_flat.l0 kq l0 a2 a3 = some (r1, r2)) ∧ Aside0 (kq ≤ k) ∧ Aside0 (Kd.R k50 50 w' w.heap.size (fun k_ => (w.heap.size ≤ k_)) v6 a3) ∧ Aside0 (Below w.heap.size w w'))
 case atStart => exact ⟨(a1), (([] : List (S50))), fS, H', ⟨Nat.le_refl _⟩, ⟨by first | exact Kd.R_nil _ _ _ _ _ | exact Kd.N_nil _ _ _ _ _ | exact Kd.V_nil _ _ _ _ _ | exact Kd.Q_nil _ _ _ _ _ | exact Kd.S_nil _ _ _ _ _⟩, ⟨bS⟩⟩
 case round =>
  clear H'
  try clear c1
  try clear p2
  obtain ⟨a2, a3, rfl, HA, f4, a7, HB⟩ := hrel
  cases gk with
  | zero => exact absurd HA.out (by simp [impl_flat.l0])
  | succ k1 =>
   have H := HA.out
   clear HA
   simp only [impl_flat.l0] at H
   have j4 := aM H
   clear H
   go_upto_region 2 with (fail)
   go_cut [21] (fun k7 wc => ∃ (kq : Nat) (d5 : Bool), k7 = .bool d5 ∧ Aside0 (impl_flat.j1 kq l0 a2 a3 d5 = some (r1, r2)) ∧ Aside0 (kq ≤ k1) ∧ Aside0 (Kd.R k50 50 wc w.heap.size (fun k_ => (w.heap.size ≤ k_)) u6 a3) ∧ Aside0 (Below w.heap.size w wc))
   case first =>
    have H := j4.out
    clear j4
    rcases iD H with ⟨d3, H⟩ | ⟨d3, H⟩
    ·(first | rw [d3] | (simp only [i64_w, i32_w]; rw [d3]) | skip)
     obtain ⟨g6, H⟩ := iT H
     have H' := aM H
     clear H
     have b8 : 0 ≤ (a2 : Int) := dA
     have b9 : a2 < (l0.length : Int) := dA
     obtain ⟨j5, g7, a8, a9⟩ := at_T50 g5.out a2 b8 b9
     cases g7
     replace a8 := cB HB a8
     replace a9 := cB HB a9
     replace b8 := eq_true b8
     replace b9 := eq_true b9
     go_wp2
     go_meet
     case rel => exact ⟨_, ((((rd_T50 l0 a2).f0).toList != ([101, 110, 100] : List UInt8))), fS, H', ⟨by have := f4.out; first | omega | exact Nat.le_refl _⟩, ⟨rS a7⟩, ⟨bS⟩⟩
    ·(first | rw [d3] | (simp only [i64_w, i32_w]; rw [d3]) | skip)
     have H' := aM H
     clear H
     go_wp2
     go_meet
     case rel => exact ⟨_, (false), fS, H', ⟨by have := f4.out; first | omega | exact Nat.le_refl _⟩, ⟨rS a7⟩, ⟨bS⟩⟩
   case rest =>
    clear j4
    try clear c1
    try clear p1
    try clear q1
    try clear hx1
    try clear p2
    try clear c4
    try clear d3
    try clear c5
    try clear g6
    try clear a8
    try clear a9
    try clear b8
    try clear p2
    try clear b9
    obtain ⟨kq, d5, rfl, HA, HJ2, a7, HB⟩ := hcut
    cases kq with
    | zero => exact absurd HA.out (by simp [impl_flat.j1])
    | succ kj2 =>
     have H := HA.out
     clear HA
     simp only [impl_flat.j1] at H
     by_cases c6 : d5 = true
     ·subst c6
      rw [if_pos rfl] at H
      by_cases c7 : 0 ≤ a2
      ·rw [if_pos c7] at H
       have j6 : decide (0 ≤ a2) = true := decide_eq_true c7
       clear c7
       by_cases c8 : a2 < (l0.length : Int)
       ·rw [if_pos c8] at H
        have j7 : decide (a2 < (l0.length : Int)) = true := decide_eq_true c8
        clear c8
        by_cases c9 : ((rd_T50 l0 a2).f0).toList = ([114, 101, 112, 101, 97, 116] : List UInt8)
        ·rw [if_pos c9] at H
         obtain ⟨g8, g9⟩ := eqT c9
         clear c9
         obtain ⟨ji10, hji10⟩ : ∃ j_ : Int, (wrap64 ((a3.length : Int) - 1)) = j_ := ⟨_, rfl⟩
         replace H : (if 0 ≤ (ji10) then (if (ji10) < (a3.length : Int) then (if (ji10) ≤ (a3.length : Int) then ((impl_flat.f kj2 l0 (wrap64 (a2 + 1))).bind fun b2 => (impl_flat.l1 kj2 l0 (a3.take ((ji10) : Int).toNat) ((rd_T50 a3 (ji10)).f1) b2.1 b2.2)) else (none)) else (none)) else (none)) = some (r1, r2) := by first | (rw [hji10] at H; exact H) | (simp only [hji10] at H ⊢; exact H)
         have hji10w : (IntKind.i64.wrap ((a3.length : Int) - 1)) = ji10 := (i64_w _).trans hji10
         by_cases h0 : 0 ≤ (ji10)
         ·rw [if_pos h0] at H
          have h1 : decide (0 ≤ (ji10)) = true := decide_eq_true h0
          clear h0
          by_cases h2 : (ji10) < (a3.length : Int)
          ·rw [if_pos h2] at H
           have h3 : decide ((ji10) < (a3.length : Int)) = true := decide_eq_true h2
           clear h2
           by_cases g3 : (ji10) ≤ (a3.length : Int)
           ·rw [if_pos g3] at H
            have h4 := eq_true g3
            have h5 : decide ((ji10) ≤ (a3.length : Int)) = true := decide_eq_true g3
            clear g3
            obtain ⟨d6, hy_⟩ : ∃ y_ : List (S50), y_ = (a3.take ((ji10) : Int).toNat) := ⟨_, rfl⟩
            replace H : ((impl_flat.f kj2 l0 (wrap64 (a2 + 1))).bind fun b2 => (impl_flat.l1 kj2 l0 d6 ((rd_T50 a3 (ji10)).f1) b2.1 b2.2)) = some (r1, r2) := yS
            have Ny1173 := aM hy_
            clear hy_
            replace H := bN H
            obtain ⟨⟨b6, e0⟩, k9, H⟩ := H
            have H' := aM H
            clear H
            have b0 : 0 ≤ (a2 : Int) := dA
            have b1 : a2 < (l0.length : Int) := dA
            obtain ⟨d4, e4, a5, a6⟩ := at_T50 g5.out a2 b0 b1
            cases e4
            replace a5 := cB HB a5
            replace a6 := cB HB a6
            replace b0 := eq_true b0
            replace b1 := eq_true b1
            obtain ⟨l3, h6, j8⟩ := Kd.R_slice a7.out
            subst j8
            have e1 : 0 ≤ ((ji10) : Int) := dA
            have e2 : (ji10) < (a3.length : Int) := dA
            obtain ⟨e5, h7, e6, e7⟩ := at_T50 (Kd.R_reads' a7.out).2.2 (ji10) e1 e2
            cases h7
            replace e1 := eq_true e1
            replace e2 := eq_true e2
            have h8 : ((ji10) : Int) ≤ ((a3.length : Int) : Int) := dA
            obtain ⟨i016, hi016, _, hsz16, _⟩ := info_parts info50
            have hcut16 := cut_to (P := Tryz.prog) 59 50 .i64 Tryz.underlying59 hi016 (some e5) a3.length h6 (ji10) (dA) h8 (Kd.R_reads' a7.out).2.1
            have f5 := Kd.R_take (m := ((ji10) : Int).toNat) a7.out (by omega)
            have hy16 : d6.length = ((ji10) : Int).toNat := (by rw [Ny1173.out, List.length_take]; omega)
            rw [← Ny1173.out] at f5
            rw [← hy16] at f5 hcut16
            clear hy16 hi016 hsz16 a7
            have b7 := aM f5
            clear f5
            replace h8 := eq_true h8
            go_wp2_with (first | ((with_reducible refine gC 108 ?_); refine cL (some 53) Tryz.func108 #[.slice (some d4) l0.length c0, .int .i64 (wrap64 (a2 + 1))] ?_; (with_reducible refine (ih kj2 (by have := f4.out; have := HJ2.out; omega) _ _ l0 (wrap64 (a2 + 1)) b6 e0 _ ?side1 ?side2 k9.out).mono ?_); (case side1 => exact cS (Kd.C_below g5.out HB.out)); (case side2 => exact k6.out); rintro e l9 ⟨h9, rfl, i1, hb⟩; refine ⟨_, rfl, ?_⟩; have f8 := aM (Kd.V_lower (Kd.V_mono (ok' := fun k_ => (w.heap.size ≤ k_) ∧ some k_ ≠ (.slice (some e5) d6.length h6 : Value).ownBlock) i1 (fun k_ hk_ => ⟨(Nat.le_trans (below_size bS) hk_), (Kd.fresh' (Kd.R_lt (rS b7)) k_ hk_)⟩)) (below_size bS)); replace b7 := rB b7 hb; replace HB := hB hb; (try clear hb i1)))
            go_loopg [6, 7] kj2 (fun kq v6 v7 w' => ∃ (e3 : List (S50)) (d0 : Int), v7 = .int .i64 d0 ∧ Aside0 (impl_flat.l1 kq l0 e3 d0 b6 e0 = some (r1, r2)) ∧ Aside0 (kq ≤ kj2) ∧ Aside0 (Kd.R k50 50 w' w.heap.size (fun k_ => (w.heap.size ≤ k_)) v6 e3) ∧ Aside0 (Kd.V k50 50 w' w.heap.size (fun k_ => (w.heap.size ≤ k_) ∧ some k_ ≠ (v6 : Value).ownBlock) h9 b6) ∧ Aside0 (Below w.heap.size w w'))
            case atStart => exact ⟨(d6), ((rd_T50 a3 (ji10)).f1), (by first | rfl | (simp; done) | (simp only [← hji10] <;> (first | rfl | simp)) | (simp [*]; done)), H', ⟨Nat.le_refl _⟩, ⟨rS b7⟩, ⟨vS [] f8⟩, ⟨bS⟩⟩
            case round =>
             clear H'
             try clear c1
             try clear p1
             try clear q1
             try clear hx1
             try clear p2
             try clear c4
             try clear d3
             try clear c5
             try clear g6
             try clear c6
             try clear p6
             try clear c7
             try clear j6
             try clear c8
             try clear j7
             try clear c9
             try clear g8
             try clear g9
             try clear c10
             try clear h0
             try clear h1
             try clear p11
             try clear m1
             try clear l4
             try clear h2
             try clear h3
             try clear g3
             try clear h4
             try clear h5
             try clear h8
             try clear a8
             try clear a9
             try clear a5
             try clear a6
             try clear e6
             try clear e7
             try clear p1
             try clear b8
             try clear b0
             try clear e1
             try clear p2
             try clear q1
             try clear b9
             try clear b1
             try clear e2
             try clear h8
             obtain ⟨e3, d0, rfl, HA, i8, a7, e8, HB⟩ := hrel
             cases gk with
             | zero => exact absurd HA.out (by simp [impl_flat.l1])
             | succ k3 =>
              have H := HA.out
              clear HA
              simp only [impl_flat.l1] at H
              by_cases g4 : d0 > 0
              ·rw [if_pos g4] at H
               have i3 : decide (0 < d0) = true := decide_eq_true g4
               clear g4
               obtain ⟨LMc19, H⟩ := iL H
               obtain ⟨f6, hy_⟩ : ∃ y_ : List (S50), y_ = (e3 ++ b6) := ⟨_, rfl⟩
               replace H : (impl_flat.l1 k3 l0 f6 (wrap64 (d0 - 1)) b6 e0) = some (r1, r2) := yS
               have Ny1180 := aM hy_
               clear hy_
               have H' := aM H
               clear H
               obtain ⟨l5, l7, j9⟩ := Kd.V_slice e8.out
               subst j9
               go_wp2_with (first | ((with_reducible refine gate_builtin (b := .append) (xs := #[.tmp 60, .tmp 61]) rfl ?_); at_builtin; refine Kd.R_append_rows k50 (w0 := w) w.heap.size rfl (.tmp 60) (.tmp 61) 59 50 (.agg #[(.string ⟨#[]⟩), (.int .i64 0)]) 24 rfl Tryz.underlying59 info50 rfl (by decide) (by omega) u6 e3 b6 _ _ _ (fun k_ => (w.heap.size ≤ k_)) (fun _ => False) rfl rfl ?aO ?aR (fun _ _ h => h) (fun _ h => h.elim) ?aF ?aB ?aS ?aL ?_; (case aR => exact cS (Kd.V_reads' e8.out).2.2); (case aB => exact bS); (case aF => exact (fun k_ hk => (Nat.le_trans (below_size bS) hk))); (case aO => exact (rS a7)); (case aS => exact (below_size bS)); (case aL => have := LMc19.out; (try dsimp only at this); omega); intro k2 m2 ho hb hg hat; rw [← Ny1180.out] at ho; have f9 := aM (ho); replace e8 := aM (Kd.V_afterv (ok := (fun k_ => (w.heap.size ≤ k_))) (by (with_reducible repeat (first | apply Kd.V_alloc | apply Kd.V_drewN | apply Kd.V_drew)); exact e8.out) hg hat); replace HB := aM (hb); clear a7; clear ho hb hg hat))
               go_roundg k3
               case measure => have := f4.out; have := HJ2.out; have := i8.out; omega
               case rel => exact ⟨(f6), (wrap64 (d0 - 1)), fS, H', ⟨by have := f4.out; have := HJ2.out; have := i8.out; omega⟩, ⟨rS f9⟩, ⟨vS [] e8⟩, ⟨bS⟩⟩
              ·rw [if_neg g4] at H
               have i3 : decide (0 < d0) = false := decide_eq_false g4
               clear g4
               have H' := aM H
               clear H
               go_wp2
               go_roundg k3
               case measure => have := f4.out; have := HJ2.out; have := i8.out; omega
               case rel => exact ⟨(wrap64 (e0 + 1)), (e3), fS, H', ⟨by have := f4.out; have := HJ2.out; have := i8.out; omega⟩, ⟨rS a7⟩, ⟨bS⟩⟩
           ·rw [if_neg g3] at H
            exact absurd H (by simp)
          ·rw [if_neg h2] at H
           exact absurd H (by simp)
         ·rw [if_neg h0] at H
          exact absurd H (by simp)
        ·rw [if_neg c9] at H
         obtain ⟨g8, g9⟩ := eqF c9
         obtain ⟨LMc22, H⟩ := iL H
         obtain ⟨f7, hy_⟩ : ∃ y_ : List (S50), y_ = (a3 ++ [(⟨(rd_T50 l0 a2).f0, (rd_T50 l0 a2).f1⟩ : S50)]) := ⟨_, rfl⟩
         replace H : (impl_flat.l0 kj2 l0 (wrap64 (a2 + 1)) f7) = some (r1, r2) := yS
         have Ny1169 := aM hy_
         clear hy_
         have H' := aM H
         clear H
         have b0 : 0 ≤ (a2 : Int) := dA
         have b1 : a2 < (l0.length : Int) := dA
         obtain ⟨d4, e4, a5, a6⟩ := at_T50 g5.out a2 b0 b1
         cases e4
         replace a5 := cB HB a5
         replace a6 := cB HB a6
         replace b0 := eq_true b0
         replace b1 := eq_true b1
         have e9 : 0 ≤ (a2 : Int) := dA
         have f3 : a2 < (l0.length : Int) := dA
         obtain ⟨g0, i4, d1, d2⟩ := at_T50 g5.out a2 e9 f3
         obtain rfl : d4 = g0 := (by injection i4)
         replace d1 := cB HB d1
         replace d2 := cB HB d2
         replace e9 := eq_true e9
         replace f3 := eq_true f3
         go_wp2_with (first | ((with_reducible refine gate_builtin (b := .append) (xs := #[.tmp 28, .tmp 33]) rfl ?_); at_builtin; refine Kd.R_append k50 (w0 := w) w.heap.size rfl (.tmp 28) (.tmp 33) 59 50 (.agg #[(.string ⟨#[]⟩), (.int .i64 0)]) 24 rfl Tryz.underlying59 info50 rfl (by decide) (by omega) u6 a3 (⟨(rd_T50 l0 a2).f0, (rd_T50 l0 a2).f1⟩ : S50) [.string ((rd_T50 l0 a2).f0), .int .i64 ((rd_T50 l0 a2).f1)] (fun k_ => (w.heap.size ≤ k_)) (fun _ => False) rfl rfl ?aP (fun _ hk => hk.elim) ?aF ?aO ?aB ?aS ?aL ?_; (case aP => exact k50_mkM _ _ _ (⟨(rd_T50 l0 a2).f0, (rd_T50 l0 a2).f1⟩ : S50)); (case aB => exact bS); (case aF => exact (fun k_ hk => (Nat.le_trans (below_size bS) hk))); (case aO => exact (rS a7)); (case aS => exact (below_size bS)); (case aL => have := LMc22.out; (try dsimp only at this); omega); intro k4 m3 ho hb hg hat; rw [← Ny1169.out] at ho; have g1 := aM (ho); replace HB := aM (hb); clear a7; clear ho hb hg hat))
         go_roundg kj2
         case measure => have := f4.out; have := HJ2.out; omega
         case rel => exact ⟨(wrap64 (a2 + 1)), (f7), fS, H', ⟨by have := f4.out; have := HJ2.out; omega⟩, ⟨rS g1⟩, ⟨bS⟩⟩
       ·rw [if_neg c8] at H
        exact absurd H (by simp)
      ·rw [if_neg c7] at H
       exact absurd H (by simp)
     ·obtain rfl := Bool.eq_false_iff.mpr c6
      rw [if_neg nF] at H
      replace H := bN H
      obtain ⟨i5, l8, H⟩ := H
      obtain ⟨rfl, rfl⟩ := sI2 H
      obtain ⟨i6, i7, k0⟩ := Kd.R_slice a7.out
      subst k0
      go_wp2_with (first | ((with_reducible refine gC 124 ?_); refine cL (some 66) Tryz.func124 #[.slice i6 a3.length i7] ?_; (with_reducible refine (impl_Token.calls (fun k_ => some k_ = (.slice i6 a3.length i7 : Value).ownBlock) _ _ a3 i5 _ ?side1 l8.out).mono ?_); (case side1 => exact Kd.R_V (Kd.R_tight rfl (a7.out))); rintro e m4 ⟨k5, rfl, i1, hb⟩; refine ⟨_, rfl, ?_⟩; have g2 := aM (Kd.V_lower (Kd.V_mono (ok' := fun k_ => (w.heap.size ≤ k_)) i1 (fun k_ hk_ => Or.elim hk_ (fun hs_ => ((a7.out).1 k_ hs_.symm)) (fun hn_ => (Nat.le_trans (below_size bS) hn_)))) (below_size bS)); replace a7 := rB a7 hb; replace HB := hB hb; (try clear hb i1)))
      go_ret2
      exact ⟨_, eS, by (with_reducible repeat (first | apply Kd.V_alloc | apply Kd.V_drewN | apply Kd.V_drew)); exact g2.out, bS⟩
end Go.Proofs.YtjkgponlahfnjaaGreat.QFnExactRunPage
