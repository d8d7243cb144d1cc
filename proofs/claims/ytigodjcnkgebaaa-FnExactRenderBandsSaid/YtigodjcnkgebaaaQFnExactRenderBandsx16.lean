-- Made out of the translation by a program of this session (a changed copy of the print). Not trusted: Lean checks it.
import Derived.Test.YtigodjcnkgebaaaQFnExactRenderBandsx0
import Derived.Test.YtigodjcnkgebaaaQFnExactRenderBandsx11
import Derived.Test.YtigodjcnkgebaaaQFnExactRenderBandsx15
namespace Go.Proofs.Ytigodjcnkgebaaa.QFnExactRenderBands
open Go.RowKit Go.Proofs.YtigodjcnkgebaaaW.PrintWords Go.Proofs.YtigodjcnkgebaaaW.PrintLast Go.Proofs.YtigodjcnkgebaaaW.PrintMore
attribute [local go_sem] max2_int min2_int max_two min_two max_three min_three max_four min_four   -- for this text's walks alone
set_option linter.unusedVariables false
set_option linter.unusedSimpArgs false
set_option maxHeartbeats 8000000
set_option maxRecDepth 100000

/-! ### spec_WhiteRows: function 131 -/
mutual
def spec_WhiteRows.l0 : Nat → Int → List (List Int) → Int → Option ((List (List Int)))
 | 0, _, _, _ => none
 | k + 1, x0, x3, x4 => if x4 < x0 then (spec_WhiteRows.j1 k x0 x3 x4 (decide (x0 ≤ 32))) else (spec_WhiteRows.j1 k x0 x3 x4 false)
def spec_WhiteRows.j1 : Nat → Int → List (List Int) → Int → Bool → Option ((List (List Int)))
 | 0, _, _, _, _ => none
 | k + 1, x0, x3, x4, x14 => if x14 = true then (if 32 ≤ 35184372088832 then (spec_WhiteRows.l1 k x0 x3 x4 (List.replicate 32 0) 0) else (none)) else (some x3)
def spec_WhiteRows.l1 : Nat → Int → List (List Int) → Int → List Int → Int → Option ((List (List Int)))
 | 0, _, _, _, _, _ => none
 | k + 1, x0, x3, x4, x5, x6 => if x6 < 32 then (if 0 ≤ x6 then (if x6 < (x5.length : Int) then (spec_WhiteRows.l1 k x0 x3 x4 (x5.set (x6 : Int).toNat 255) (wrap64 (x6 + 1))) else (none)) else (none)) else (if x3.length < 5864062014805 then (spec_WhiteRows.l0 k x0 (x3 ++ [x5]) (wrap64 (x4 + 1))) else (none))
end
def spec_WhiteRows.f (k : Nat) (a0 : Int) : Option ((List (List Int))) := spec_WhiteRows.l0 k a0 (([] : List (List Int))) 0
theorem spec_WhiteRows.calls (k : Nat) (a0 : Int) (r : List (List Int)) (w : World) (h : spec_WhiteRows.f k a0 = some r) :
  Calls Try.prog 131 #[.int .i64 a0] w fun e w' => ∃ v0_ : Value, e = .returned (v0_) ∧ Kd.S (Kd.slice 3 (Kd.int .i64)) 71 w' w.heap.size (fun _ => True) v0_ r ∧ Below w.heap.size w w' := by
 have HB := Aside0.mk (Below.refl w.heap.size w)
 have H : (spec_WhiteRows.l0 k a0 (([] : List (List Int))) 0) = some r := h
 clear h
 obtain ⟨y485, hy485⟩ : ∃ y_ : List (List Int), y_ = (([] : List (List Int))) := ⟨_, rfl⟩
 replace H : (spec_WhiteRows.l0 k a0 y485 0) = some r := by first | (rw [hy485]; with_reducible exact H) | (have H2_ := (Option.bind_some _ _).symm.trans H; rw [hy485]; with_reducible exact H2_) | (have H2_ := (Option.bind_some _ _).symm.trans H; with_reducible exact H2_) | with_reducible exact H | (rw [hy485]; exact H) | exact H
 have Ny485 := Aside0.mk hy485
 clear hy485
 have H' := Aside0.mk H
 clear H
 go_enter Try.func131, Try.ntmps131
 go_wp2_with (first | ((with_reducible refine gate_dst (N := 7) rfl ?_); refine Kd.S_lit (Kd.slice 3 (Kd.int .i64)) _ 71 ?hg (N := 7) ?hd (xs := ([] : List (List Int))) (inner := []) (ok := fun _ => True) (okp := fun _ => True) ?hr ?hp (fun _ hk => hk) trivial (Below.refl _ _) (Nat.le_refl _) (by simp) ?_; (case hd => rfl); (case hg => rfl); (case hr => first | (go_simp; done) | (go_simp; rfl)); (case hp => exact (Reps.none _ _)); intro v486 w2 ho3 hb hg_ hnew_; clear hg_ hnew_; (first | rw [← Ny485.out] at ho3 | (simp only [Int.reduceToNat] at ho3; rw [← Ny485.out] at ho3)); have HO487 := Aside0.mk (Kd.S_lower ho3 (below_size bS)); replace HB := hB hb; clear hb ho3))
 go_loopg [3, 4] k (fun kq v3 v4 w' => ∃ (x3_1 : List (List Int)) (x4_1 : Int), v4 = .int .i64 x4_1 ∧ Aside0 (spec_WhiteRows.l0 kq a0 x3_1 x4_1 = some r) ∧ Aside0 (kq ≤ k) ∧ Aside0 (Kd.S (Kd.slice 3 (Kd.int .i64)) 71 w' w.heap.size (fun _ => True) v3 x3_1) ∧ Aside0 (Below w.heap.size w w'))
 case atStart => exact ⟨(y485), (0), fS, H', ⟨Nat.le_refl _⟩, ⟨sS HO487⟩, ⟨bS⟩⟩
 case round =>
  clear H'
  try clear c1
  try clear p2
  obtain ⟨x3_1, x4_1, rfl, HA, HK1, HO_3, HB⟩ := hrel
  cases gk with
  | zero => exact absurd HA.out (by simp [spec_WhiteRows.l0])
  | succ k1 =>
   have H := HA.out
   clear HA
   simp only [spec_WhiteRows.l0] at H
   have HC4 := Aside0.mk H
   clear H
   go_upto_region 3 with (fail)
   go_cut [14] (fun v14 wc => ∃ (kq : Nat) (x14_3 : Bool), v14 = .bool x14_3 ∧ Aside0 (spec_WhiteRows.j1 kq a0 x3_1 x4_1 x14_3 = some r) ∧ Aside0 (kq ≤ k1) ∧ Aside0 (Kd.S (Kd.slice 3 (Kd.int .i64)) 71 wc w.heap.size (fun _ => True) u3 x3_1) ∧ Aside0 (Below w.heap.size w wc))
   case first =>
    have H := HC4.out
    clear HC4
    rcases iD H with ⟨c5b0, H⟩ | ⟨c5b0, H⟩
    ·(first | rw [c5b0] | (simp only [i64_w, i32_w]; rw [c5b0]) | skip)
     have H' := Aside0.mk H
     clear H
     go_wp2
     go_meet
     case rel => exact ⟨_, (decide (a0 ≤ 32)), fS, H', ⟨by have := HK1.out; first | omega | exact Nat.le_refl _⟩, ⟨sS HO_3⟩, ⟨bS⟩⟩
    ·(first | rw [c5b0] | (simp only [i64_w, i32_w]; rw [c5b0]) | skip)
     have H' := Aside0.mk H
     clear H
     go_wp2
     go_meet
     case rel => exact ⟨_, (false), fS, H', ⟨by have := HK1.out; first | omega | exact Nat.le_refl _⟩, ⟨sS HO_3⟩, ⟨bS⟩⟩
   case rest =>
    clear HC4
    try clear c1
    try clear p2
    try clear c5
    try clear c5b0
    try clear p2
    obtain ⟨kq, x14_3, rfl, HA, HJ3, HO_3, HB⟩ := hcut
    cases kq with
    | zero => exact absurd HA.out (by simp [spec_WhiteRows.j1])
    | succ kj3 =>
     have H := HA.out
     clear HA
     simp only [spec_WhiteRows.j1] at H
     by_cases c6 : x14_3 = true
     ·subst c6
      rw [if_pos rfl] at H
      by_cases c7 : 32 ≤ 35184372088832
      ·rw [if_pos c7] at H
       have c7b0 := eq_true c7
       have c7b1 : decide (32 ≤ 35184372088832) = true := decide_eq_true c7
       clear c7
       obtain ⟨y488, hy488⟩ : ∃ y_ : List Int, y_ = (List.replicate 32 0) := ⟨_, rfl⟩
       replace H : (spec_WhiteRows.l1 kj3 a0 x3_1 x4_1 y488 0) = some r := by first | (rw [hy488]; with_reducible exact H) | (have H2_ := (Option.bind_some _ _).symm.trans H; rw [hy488]; with_reducible exact H2_) | (have H2_ := (Option.bind_some _ _).symm.trans H; with_reducible exact H2_) | with_reducible exact H | (rw [hy488]; exact H) | exact H
       have Ny488 := Aside0.mk hy488
       clear hy488
       have H' := Aside0.mk H
       clear H
       go_wp2_with (first | ((with_reducible refine gate_dst (N := 17) rfl ?_); refine Kd.R_make (Kd.int .i64) _ 3 rfl (N := 17) rfl 71 _ _ rfl 32 rfl rfl Try.underlying71 (.int .i64 0) 8 info3 rfl (by decide) (by omega) 0 (ok := fun _ => True) (okp := fun _ => True) rfl (fun _ hk => hk) trivial (by omega) (by omega) (Below.refl _ _) (Nat.le_refl _) ?_; intro v489 w8 ho9 hb hg_ hnew_; clear hg_ hnew_; (first | rw [← Ny488.out] at ho9 | (simp only [Int.reduceToNat] at ho9; rw [← Ny488.out] at ho9)); have HO490 := Aside0.mk (Kd.R_lower ho9 (below_size bS)); replace HO_3 := Aside0.mk (Kd.S_elder' (sS HO_3) (Kd.R_base ho9) hb); replace HB := hB hb; clear hb ho9))
       go_loopg [6] kj3 (fun kq v6 w' => ∃ (x5_3 : List Int) (x6_3 : Int), v6 = .int .i64 x6_3 ∧ Aside0 (spec_WhiteRows.l1 kq a0 x3_1 x4_1 x5_3 x6_3 = some r) ∧ Aside0 (kq ≤ kj3) ∧ Aside0 (Kd.S (Kd.slice 3 (Kd.int .i64)) 71 w' w.heap.size (fun k_ => some k_ ≠ (v489 : Value).ownBlock) u3 x3_1) ∧ Aside0 (Kd.R (Kd.int .i64) 3 w' w.heap.size (fun _ => True) v489 x5_3) ∧ Aside0 (Below w.heap.size w w'))
       case atStart => exact ⟨(y488), (0), fS, H', ⟨Nat.le_refl _⟩, ⟨by exact sT (Kd.S_mono HO_3.out (fun _ hk => hk.2))⟩, ⟨rS HO490⟩, ⟨bS⟩⟩
       case round =>
        clear H'
        try clear c1
        try clear p2
        try clear c5
        try clear c5b0
        try clear c6
        try clear c7
        try clear c7b0
        try clear c7b1
        try clear p2
        obtain ⟨x5_3, x6_3, rfl, HA, HK3, HO_3, HO_5, HB⟩ := hrel
        cases gk with
        | zero => exact absurd HA.out (by simp [spec_WhiteRows.l1])
        | succ k3 =>
         have H := HA.out
         clear HA
         simp only [spec_WhiteRows.l1] at H
         rcases iD H with ⟨c10b0, H⟩ | ⟨c10b0, H⟩
         ·obtain ⟨c11b0, H⟩ := iT H
          obtain ⟨c12b0, H⟩ := iT H
          obtain ⟨y491, hy491⟩ : ∃ y_ : List Int, y_ = (x5_3.set (x6_3 : Int).toNat 255) := ⟨_, rfl⟩
          replace H : (spec_WhiteRows.l1 k3 a0 x3_1 x4_1 y491 (wrap64 (x6_3 + 1))) = some r := by first | (rw [hy491]; with_reducible exact H) | (have H2_ := (Option.bind_some _ _).symm.trans H; rw [hy491]; with_reducible exact H2_) | (have H2_ := (Option.bind_some _ _).symm.trans H; with_reducible exact H2_) | with_reducible exact H | (rw [hy491]; exact H) | exact H
          have Ny491 := Aside0.mk hy491
          clear hy491
          have H' := Aside0.mk H
          clear H
          have p13 : 0 ≤ (x6_3 : Int) := dA
          have q13 : (x6_3 : Int) < ((x5_3.length : Int) : Int) := dA
          obtain ⟨go13, co13, eo13, gb13, gl13, cl13, HG13⟩ := Kd.R_form HO_5.out (by omega)
          (first | cases eo13 | (injection eo13 with ea_ en_ ec_; (first | subst ea_ | (injection ea_ with ea_; subst ea_)); subst ec_; clear en_))
          have GB13 := Aside0.mk gb13
          have GG13 := Aside0.mk HG13
          clear gb13 gl13 HG13
          obtain ⟨hx13_0, hf13_0⟩ := Kd.R_celln 0 HO_5.out (x6_3 : Int) p13 q13
          replace p13 := eq_true p13
          replace q13 := eq_true q13
          have HP14 := Kd.R_putg HO_5.out (x6_3 : Int) 255
          go_wp2_with (first | ((with_reducible refine gate_store (t := 3) (p := 24) rfl ?_); refine store_event (t := 3) (p := 24) (v := ?vo_w15) (w1 := (wr.setCell ⟨go13, (x6_3 : Int).toNat, none⟩ (.int .i64 255))) ?hg ?ho ?hn ?hr ?_; (case ho => rfl); (case hg => rfl); (case hn => rfl); (case hr => first | (go_simp; done) | (go_simp; rfl)); intro w15 hw; have hg : wr.grownBy w15 (some go13) := (by rw [hw]; exact HP14.2); have hp_ : Kd.R (Kd.int .i64) 3 w15 w.heap.size (fun _ => True) (.slice (some ⟨go13, 0, none⟩) x5_3.length co13) y491 := (by rw [hw, Ny491.out]; exact HP14.1); clear HP14; replace HO_3 := Aside0.mk (Kd.S_after (v := (.slice (some ⟨go13, 0, none⟩) x5_3.length co13)) (v1 := (.slice (some ⟨go13, 0, none⟩) x5_3.length co13)) (ok := (fun _ => True)) (by exact sT (Kd.S_mono HO_3.out (fun _ hk => ⟨trivial, hk⟩))) hg (.inl rfl)); replace HO_5 := Aside0.mk (hp_); replace HB := Aside0.mk ((by rw [hw]; exact below_set (HB.out) GB13.out : Below w.heap.size w w15)); clear hg hw hp_))
          go_roundg k3
          case measure => have := HK1.out; have := HJ3.out; have := HK3.out; omega
          case rel => exact ⟨(y491), (wrap64 (x6_3 + 1)), fS, H', ⟨by have := HK1.out; have := HJ3.out; have := HK3.out; omega⟩, ⟨by exact sT (Kd.S_mono HO_3.out (fun _ hk => hk.2))⟩, ⟨rS HO_5⟩, ⟨bS⟩⟩
         ·obtain ⟨LMc16, H⟩ := iL H
          obtain ⟨y492, hy492⟩ : ∃ y_ : List (List Int), y_ = (x3_1 ++ [x5_3]) := ⟨_, rfl⟩
          replace H : (spec_WhiteRows.l0 k3 a0 y492 (wrap64 (x4_1 + 1))) = some r := by first | (rw [hy492]; with_reducible exact H) | (have H2_ := (Option.bind_some _ _).symm.trans H; rw [hy492]; with_reducible exact H2_) | (have H2_ := (Option.bind_some _ _).symm.trans H; with_reducible exact H2_) | with_reducible exact H | (rw [hy492]; exact H) | exact H
          have Ny492 := Aside0.mk hy492
          clear hy492
          have H' := Aside0.mk H
          clear H
          obtain ⟨Ao18, co18, eo18⟩ := Kd.R_slice HO_5.out
          subst eo18
          go_wp2_with (first | ((with_reducible refine gate_builtin (b := .append) (xs := #[.tmp 25, .tmp 27]) rfl ?_); at_builtin; refine Kd.S_append (Kd.slice 3 (Kd.int .i64)) (w0 := w) w.heap.size rfl (.tmp 25) (.tmp 27) 27 71 (.slice none 0 0) 24 rfl Try.underlying27 info71 rfl (by decide) (by omega) u3 x3_1 x5_3 [.slice Ao18 x5_3.length co18] (fun _ => True) (fun k_ => some k_ = (.slice Ao18 x5_3.length co18 : Value).ownBlock) rfl rfl ?aP (fun k_ hk_ => ((Kd.R_mono (ok' := fun k_ => ((fun _ => True)) k_ ∧ some k_ ≠ (u3 : Value).ownBlock) (Kd.R_apart' (HO_5.out) (Kd.S_typed HO_3.out) (by decide)) (fun k_ hk => ⟨trivial, hk.2⟩))).1 k_ hk_.symm) ?aF ?aO ?aB ?aS ?aL ?_; (case aP => exact Kd.M_row (Kd.R_mono (Kd.R_tight rfl (Kd.R_mono (ok' := fun k_ => ((fun _ => True)) k_ ∧ some k_ ≠ (u3 : Value).ownBlock) (Kd.R_apart' (HO_5.out) (Kd.S_typed HO_3.out) (by decide)) (fun k_ hk => ⟨trivial, hk.2⟩))) (fun _ h_ => h_))); (case aB => exact bS); (case aF => exact (fun _ _ => trivial)); (case aO => exact (by exact sT (Kd.S_mono HO_3.out (fun k_ hk => ⟨trivial, fun e_ => hk e_⟩)))); (case aS => exact (below_size bS)); (case aL => have := LMc16.out; omega); intro v493 w17 ho hb hg hat; rw [← Ny492.out] at ho; have HO494 := Aside0.mk (ho); replace HB := Aside0.mk (hb); clear HO_3 HO_5; clear ho hb hg hat))
          go_roundg k3
          case measure => have := HK1.out; have := HJ3.out; have := HK3.out; omega
          case rel => exact ⟨(y492), (wrap64 (x4_1 + 1)), fS, H', ⟨by have := HK1.out; have := HJ3.out; have := HK3.out; omega⟩, ⟨sS HO494⟩, ⟨bS⟩⟩
      ·rw [if_neg c7] at H
       exact absurd H (by simp)
     ·obtain rfl := Bool.eq_false_iff.mpr c6
      rw [if_neg nF] at H
      obtain rfl := Option.some.inj H
      go_wp2
      go_ret
      exact ⟨_, eS, sS HO_3, bS⟩

/-! ### spec_RenderBand: function 59 -/
def spec_RenderBand.l0 : Nat → List (S45) → Int → Int → List (List Int) → Int → Option ((List (List Int)))
 | 0, _, _, _, _, _ => none
 | k + 1, x0, x1, x2, x7, x8 => if x8 < (x0.length : Int) then (if 0 ≤ x8 then ((spec_PaintObject.f k x7 (wrap64 (x2 * x1)) ((rd_T45 x0 x8).f0) ((rd_T45 x0 x8).f1) ((rd_T45 x0 x8).f2.f0) ((rd_T45 x0 x8).f2.f1) ((rd_T45 x0 x8).f2.f2) ((rd_T45 x0 x8).f2.f3)).bind fun bt503 => (spec_RenderBand.l0 k x0 x1 x2 bt503.1 (wrap64 (x8 + 1)))) else (none)) else (some x7)
def spec_RenderBand.f (k : Nat) (l0 : List (S45)) (a1 : Int) (a2 : Int) : Option ((List (List Int))) := (spec_l12Ok.f a1 a2).bind fun t495 => (if t495 = true then ((spec_WhiteRows.f k a1).bind fun t499 => (spec_RenderBand.l0 k l0 a1 a2 t499 0)) else (some (([] : List (List Int)))))
theorem spec_RenderBand.calls (k : Nat) (A0 : Option Addr) (c0 : Nat) (l0 : List (S45)) (a1 : Int) (a2 : Int) (r : List (List Int)) (w : World) (hr0 : Kd.C k45 w A0 l0.length l0) (hc0 : l0.length ≤ c0) (h : spec_RenderBand.f k l0 a1 a2 = some r) :
  Calls Try.prog 59 #[.slice A0 l0.length c0, .int .i64 a1, .int .i64 a2] w fun e w' => ∃ v0_ : Value, e = .returned (v0_) ∧ Kd.S (Kd.slice 3 (Kd.int .i64)) 71 w' w.heap.size (fun _ => True) v0_ r ∧ Below w.heap.size w w' := by
 have hu45 := Try.underlying45
 have HR0 := Aside0.mk hr0
 have HC0 := Aside0.mk hc0
 clear hr0 hc0
 have HB := Aside0.mk (Below.refl w.heap.size w)
 have H : ((spec_l12Ok.f a1 a2).bind fun t495 => (if t495 = true then ((spec_WhiteRows.f k a1).bind fun t499 => (spec_RenderBand.l0 k l0 a1 a2 t499 0)) else (some (([] : List (List Int)))))) = some r := h
 clear h
 replace H := bN H
 obtain ⟨t495, A4, H⟩ := H
 by_cases c5 : t495 = true
 ·subst c5
  rw [if_pos rfl] at H
  replace H := bN H
  obtain ⟨t499, A6, H⟩ := H
  have H' := Aside0.mk H
  clear H
  go_enter Try.func59, Try.ntmps59
  go_wp2_with (first | ((with_reducible refine gC 96 ?_); refine cL (some 11) Try.func96 #[.int .i64 a1, .int .i64 a2] ?_; (with_reducible refine (spec_l12Ok.calls a1 a2 _ _ A4.out).mono ?_); rintro e w' ⟨rfl, ⟨nd, rfl⟩⟩; refine ⟨_, rfl, ?_⟩) | ((with_reducible refine gC 131 ?_); refine cL (some 15) Try.func131 #[.int .i64 a1] ?_; (with_reducible refine (spec_WhiteRows.calls k a1 t499 _ A6.out).mono ?_); rintro e w7 ⟨v500, rfl, ho0, hb⟩; refine ⟨_, rfl, ?_⟩; have HO501 := Aside0.mk (Kd.S_lower ho0 (below_size bS)); replace HB := hB hb; (try clear hb); (try clear hb2); (try clear hk); (try clear hi); (try clear ho0)))
  go_loopg [7, 8] k (fun kq v7 v8 w' => ∃ (x7_1 : List (List Int)) (x8_1 : Int), v8 = .int .i64 x8_1 ∧ Aside0 (spec_RenderBand.l0 kq l0 a1 a2 x7_1 x8_1 = some r) ∧ Aside0 (kq ≤ k) ∧ Aside0 (Kd.S (Kd.slice 3 (Kd.int .i64)) 71 w' w.heap.size (fun _ => True) v7 x7_1) ∧ Aside0 (Below w.heap.size w w'))
  case atStart => exact ⟨(t499), (0), fS, H', ⟨Nat.le_refl _⟩, ⟨sS HO501⟩, ⟨bS⟩⟩
  case round =>
   clear H'
   try clear c1
   try clear p2
   try clear c5
   obtain ⟨x7_1, x8_1, rfl, HA, HK1, HO_7, HB⟩ := hrel
   cases gk with
   | zero => exact absurd HA.out (by simp [spec_RenderBand.l0])
   | succ k1 =>
    have H := HA.out
    clear HA
    simp only [spec_RenderBand.l0] at H
    rcases iD H with ⟨c8b0, H⟩ | ⟨c8b0, H⟩
    ·obtain ⟨c9b0, H⟩ := iT H
     replace H := bN H
     obtain ⟨⟨t503, t506⟩, A10, H⟩ := H
     have H' := Aside0.mk H
     clear H
     have p502 : 0 ≤ (x8_1 : Int) := dA
     have q502 : x8_1 < (l0.length : Int) := dA
     obtain ⟨ad502, A502_0, c502_0, e502, hx502_0, hx502_1, hx502_2, hx502_3, hx502_4, hx502_5, hl502_0, hi502_0⟩ := at_T45 HR0.out x8_1 p502 q502
     cases e502
     replace hx502_0 := cB HB hx502_0
     replace hx502_1 := cB HB hx502_1
     replace hx502_2 := cB HB hx502_2
     replace hx502_3 := cB HB hx502_3
     replace hx502_4 := cB HB hx502_4
     replace hx502_5 := cB HB hx502_5
     have HR502_0 := Aside0.mk hi502_0
     have HC502_0 := Aside0.mk hl502_0
     clear hi502_0 hl502_0
     replace p502 := eq_true p502
     replace q502 := eq_true q502
     obtain ⟨Ao11, co11, eo11⟩ := Kd.S_slice HO_7.out
     subst eo11
     go_wp2_with (first | ((with_reducible refine gC 51 ?_); refine cL (some 31) Try.func51 #[.slice Ao11 x7_1.length co11, .int .i64 (wrap64 (a2 * a1)), .agg #[.slice A502_0 ((rd_T45 l0 x8_1).f0).length c502_0, .int .i64 ((rd_T45 l0 x8_1).f1), .int .i64 ((rd_T45 l0 x8_1).f2.f0), .int .i64 ((rd_T45 l0 x8_1).f2.f1), .int .i64 ((rd_T45 l0 x8_1).f2.f2), .int .i64 ((rd_T45 l0 x8_1).f2.f3)]] ?_; (with_reducible refine (spec_PaintObject.calls k1 _ _ x7_1 (wrap64 (a2 * a1)) _ _ ((rd_T45 l0 x8_1).f0) ((rd_T45 l0 x8_1).f1) ((rd_T45 l0 x8_1).f2.f0) ((rd_T45 l0 x8_1).f2.f1) ((rd_T45 l0 x8_1).f2.f2) ((rd_T45 l0 x8_1).f2.f3) t503 t506 _ (cS (Kd.S_reads' HO_7.out).2.2) ((Kd.S_reads' HO_7.out).2.1) (cS (Kd.C_below HR502_0.out HB.out)) HC502_0.out A10.out).mono ?_); rintro e w12 ⟨v504, rfl, ho0, hb⟩; refine ⟨_, rfl, ?_⟩; have HO505 := Aside0.mk (Kd.S_lower (Kd.S_new' ho0 (Kd.S_lt (sS HO_7))) (below_size bS)); replace HO_7 := Aside0.mk (Kd.S_elder' (sS HO_7) (Kd.S_base ho0) hb); replace HB := hB hb; (try clear hb); (try clear hb2); (try clear hk); (try clear hi); (try clear ho0)))
     go_roundg k1
     case measure => have := HK1.out; omega
     case rel => exact ⟨(t503), (wrap64 (x8_1 + 1)), fS, H', ⟨by have := HK1.out; omega⟩, ⟨by exact sT (Kd.S_mono HO505.out (fun _ hk => trivial))⟩, ⟨bS⟩⟩
    ·obtain rfl := Option.some.inj H
     go_wp2
     go_ret
     exact ⟨_, eS, sS HO_7, bS⟩
 ·obtain rfl := Bool.eq_false_iff.mpr c5
  rw [if_neg nF] at H
  obtain ⟨y496, hy496⟩ : ∃ y_ : List (List Int), y_ = (([] : List (List Int))) := ⟨_, rfl⟩
  replace H : (some y496) = some r := by first | (rw [hy496]; with_reducible exact H) | (have H2_ := (Option.bind_some _ _).symm.trans H; rw [hy496]; with_reducible exact H2_) | (have H2_ := (Option.bind_some _ _).symm.trans H; with_reducible exact H2_) | with_reducible exact H | (rw [hy496]; exact H) | exact H
  have Ny496 := Aside0.mk hy496
  clear hy496
  obtain rfl := Option.some.inj H
  go_enter Try.func59, Try.ntmps59
  go_wp2_with (first | ((with_reducible refine gC 96 ?_); refine cL (some 11) Try.func96 #[.int .i64 a1, .int .i64 a2] ?_; (with_reducible refine (spec_l12Ok.calls a1 a2 _ _ A4.out).mono ?_); rintro e w' ⟨rfl, ⟨nd, rfl⟩⟩; refine ⟨_, rfl, ?_⟩) | ((with_reducible refine gate_dst (N := 13) rfl ?_); refine Kd.S_lit (Kd.slice 3 (Kd.int .i64)) _ 71 ?hg (N := 13) ?hd (xs := ([] : List (List Int))) (inner := []) (ok := fun _ => True) (okp := fun _ => True) ?hr ?hp (fun _ hk => hk) trivial (Below.refl _ _) (Nat.le_refl _) (by simp) ?_; (case hd => rfl); (case hg => rfl); (case hr => first | (go_simp; done) | (go_simp; rfl)); (case hp => exact (Reps.none _ _)); intro v497 w13 ho14 hb hg_ hnew_; clear hg_ hnew_; (first | rw [← Ny496.out] at ho14 | (simp only [Int.reduceToNat] at ho14; rw [← Ny496.out] at ho14)); have HO498 := Aside0.mk (Kd.S_lower ho14 (below_size bS)); replace HB := hB hb; clear hb ho14))
  go_ret
  exact ⟨_, eS, sS HO498, bS⟩

/-! ### spec_TouchesBand: function 100 -/
def spec_TouchesBand.f (k : Nat) (l0_0 : List (S171)) (a0_1 : Int) (a0_2 : Int) (a0_3 : Int) (a0_4 : Int) (a0_5 : Int) (a1 : Int) (a2 : Int) : Option (Bool) := (spec_ObjectBox.f k l0_0 a0_1 a0_2 a0_3 a0_4 a0_5).bind fun bt508 => ((spec_l12Ok.f a1 a2).bind fun t513 => (if t513 = true then ((spec_CountDots.f bt508.1 bt508.2.1 bt508.2.2.1 bt508.2.2.2).bind fun t514 => (if t514 > 0 then (if bt508.2.1 < (wrap64 ((wrap64 (a2 * a1)) + a1)) then (some (decide (bt508.2.2.2 > (wrap64 (a2 * a1))))) else (some false)) else (some false))) else (some false)))
theorem spec_TouchesBand.lf0 {p : Prop} (h : p := by
 go_enter Try.func100, Try.ntmps100
 go_wp2_with (first | ((with_reducible refine gD 3 ?_); refine bxE #[.slice A0_0 l0_0.length c0_0, .int .i64 a0_1, .int .i64 a0_2, .int .i64 a0_3, .int .i64 a0_4, .int .i64 a0_5] 45 ?_; intro gb507 hg w10 BK507 hb; have GW507 := gE hg; have GE507 := gE hg; replace HB := hB hb; clear hb hg; have hz11 := cz6 BK507) | ((with_reducible refine gC 81 ?_); refine cL (some 9) Try.func81 #[.agg #[.slice A0_0 l0_0.length c0_0, .int .i64 a0_1, .int .i64 a0_2, .int .i64 a0_3, .int .i64 a0_4, .int .i64 a0_5]] ?_; (with_reducible refine (spec_ObjectBox.calls k _ _ l0_0 a0_1 a0_2 a0_3 a0_4 a0_5 t508 t509 t510 t511 _ (cS (Kd.C_below HR0_0.out HB.out)) HC0_0.out A4.out).mono ?_); rintro e w12 ⟨rfl, hb⟩; refine ⟨_, rfl, ?_⟩; replace BK507 := kB (g := gb507) hb; replace HB := hB hb; (try clear hb); (try clear hb2); (try clear hk); (try clear hi)) | ((with_reducible refine gD 7 ?_); refine bxE #[.int .i64 0, .int .i64 0, .int .i64 0, .int .i64 0] 43 ?_; intro gb512 hg w13 BK512 hb; have GW512 := gE hg; have GE512 := gE hg; have NB507_512 := nL (g := gb507) hg; have NB512_507 := nG (g := gb507) hg; replace BK507 := kB (g := gb507) hb; replace HB := hB hb; clear hb hg; have hnb14 := NB512_507.out; have hnc14 := NB507_512.out; have hz15 := cz4 BK512) | ((with_reducible refine gC 96 ?_); refine cL (some 12) Try.func96 #[.int .i64 a1, .int .i64 a2] ?_; (with_reducible refine (spec_l12Ok.calls a1 a2 _ _ A5.out).mono ?_); rintro e w' ⟨rfl, ⟨nd, rfl⟩⟩; refine ⟨_, rfl, ?_⟩) | (go_at_call 82; (with_reducible refine (spec_CountDots.calls t508 t509 t510 t511 t514 _ A7.out).mono ?_); rintro e w16 ⟨rfl, hb⟩; replace BK507 := kB (g := gb507) hb; replace BK512 := Aside0.mk (blk_below (g := gb512) (o := .cells #[.int .i64 t508, .int .i64 t509, .int .i64 t510, .int .i64 t511] 43 (0, 0)) kS hb); replace HB := hB hb; (try clear hb); (try clear hb2); (try clear hk); (try clear hi); have hz17 := cz4 BK512))
 go_ret
 exact ⟨eS, bS⟩) : p := h
theorem spec_TouchesBand.calls (k : Nat) (A0_0 : Option Addr) (c0_0 : Nat) (l0_0 : List (S171)) (a0_1 : Int) (a0_2 : Int) (a0_3 : Int) (a0_4 : Int) (a0_5 : Int) (a1 : Int) (a2 : Int) (r : Bool) (w : World) (hr0_0 : Kd.C k171 w A0_0 l0_0.length l0_0) (hc0_0 : l0_0.length ≤ c0_0) (h : spec_TouchesBand.f k l0_0 a0_1 a0_2 a0_3 a0_4 a0_5 a1 a2 = some r) :
  Calls Try.prog 100 #[.agg #[.slice A0_0 l0_0.length c0_0, .int .i64 a0_1, .int .i64 a0_2, .int .i64 a0_3, .int .i64 a0_4, .int .i64 a0_5], .int .i64 a1, .int .i64 a2] w fun e w' => e = .returned (.bool r) ∧ Below w.heap.size w w' := by
 have hu45 := Try.underlying45
 have hu43 := Try.underlying43
 have HR0_0 := Aside0.mk hr0_0
 have HC0_0 := Aside0.mk hc0_0
 clear hr0_0 hc0_0
 have HB := Aside0.mk (Below.refl w.heap.size w)
 have H : ((spec_ObjectBox.f k l0_0 a0_1 a0_2 a0_3 a0_4 a0_5).bind fun bt508 => ((spec_l12Ok.f a1 a2).bind fun t513 => (if t513 = true then ((spec_CountDots.f bt508.1 bt508.2.1 bt508.2.2.1 bt508.2.2.2).bind fun t514 => (if t514 > 0 then (if bt508.2.1 < (wrap64 ((wrap64 (a2 * a1)) + a1)) then (some (decide (bt508.2.2.2 > (wrap64 (a2 * a1))))) else (some false)) else (some false))) else (some false)))) = some r := h
 clear h
 replace H := bN H
 obtain ⟨⟨t508, t509, t510, t511⟩, A4, H⟩ := H
 replace H := bN H
 obtain ⟨t513, A5, H⟩ := H
 by_cases c6 : t513 = true
 ·subst c6
  rw [if_pos rfl] at H
  replace H := bN H
  obtain ⟨t514, A7, H⟩ := H
  by_cases c8 : t514 > 0
  ·rw [if_pos c8] at H
   have c8b0 : decide (0 < t514) = true := decide_eq_true c8
   clear c8
   rcases iD H with ⟨c9b0, H⟩ | ⟨c9b0, H⟩
   ·obtain rfl := Option.some.inj H
    exact spec_TouchesBand.lf0
   ·obtain rfl := Option.some.inj H
    exact spec_TouchesBand.lf0
  ·rw [if_neg c8] at H
   have c8b0 : decide (0 < t514) = false := decide_eq_false c8
   clear c8
   obtain rfl := Option.some.inj H
   go_enter Try.func100, Try.ntmps100
   go_wp2_with (first | ((with_reducible refine gD 3 ?_); refine bxE #[.slice A0_0 l0_0.length c0_0, .int .i64 a0_1, .int .i64 a0_2, .int .i64 a0_3, .int .i64 a0_4, .int .i64 a0_5] 45 ?_; intro gb507 hg w26 BK507 hb; have GW507 := gE hg; have GE507 := gE hg; replace HB := hB hb; clear hb hg; have hz27 := cz6 BK507) | ((with_reducible refine gC 81 ?_); refine cL (some 9) Try.func81 #[.agg #[.slice A0_0 l0_0.length c0_0, .int .i64 a0_1, .int .i64 a0_2, .int .i64 a0_3, .int .i64 a0_4, .int .i64 a0_5]] ?_; (with_reducible refine (spec_ObjectBox.calls k _ _ l0_0 a0_1 a0_2 a0_3 a0_4 a0_5 t508 t509 t510 t511 _ (cS (Kd.C_below HR0_0.out HB.out)) HC0_0.out A4.out).mono ?_); rintro e w28 ⟨rfl, hb⟩; refine ⟨_, rfl, ?_⟩; replace BK507 := kB (g := gb507) hb; replace HB := hB hb; (try clear hb); (try clear hb2); (try clear hk); (try clear hi)) | ((with_reducible refine gD 7 ?_); refine bxE #[.int .i64 0, .int .i64 0, .int .i64 0, .int .i64 0] 43 ?_; intro gb512 hg w29 BK512 hb; have GW512 := gE hg; have GE512 := gE hg; have NB507_512 := nL (g := gb507) hg; have NB512_507 := nG (g := gb507) hg; replace BK507 := kB (g := gb507) hb; replace HB := hB hb; clear hb hg; have hnb30 := NB512_507.out; have hnc30 := NB507_512.out; have hz31 := cz4 BK512) | ((with_reducible refine gC 96 ?_); refine cL (some 12) Try.func96 #[.int .i64 a1, .int .i64 a2] ?_; (with_reducible refine (spec_l12Ok.calls a1 a2 _ _ A5.out).mono ?_); rintro e w' ⟨rfl, ⟨nd, rfl⟩⟩; refine ⟨_, rfl, ?_⟩) | (go_at_call 82; (with_reducible refine (spec_CountDots.calls t508 t509 t510 t511 t514 _ A7.out).mono ?_); rintro e w32 ⟨rfl, hb⟩; replace BK507 := kB (g := gb507) hb; replace BK512 := Aside0.mk (blk_below (g := gb512) (o := .cells #[.int .i64 t508, .int .i64 t509, .int .i64 t510, .int .i64 t511] 43 (0, 0)) kS hb); replace HB := hB hb; (try clear hb); (try clear hb2); (try clear hk); (try clear hi)))
   go_ret
   exact ⟨eS, bS⟩
 ·obtain rfl := Bool.eq_false_iff.mpr c6
  rw [if_neg nF] at H
  obtain rfl := Option.some.inj H
  exact spec_TouchesBand.lf0

/-! ### spec_l07Shape: function 181 -/
def spec_l07Shape.f (l0_0 : List (S171)) (a0_1 : Int) (a0_2 : Int) (a0_3 : Int) (a0_4 : Int) (a0_5 : Int) : Option ((List (S171)) × Int × Int × Int × Int × Int) := (some (([] : List (S171)) : List (S171))).bind fun y517 => (if y517.length + l0_0.length < 8796093022208 then (some ((y517 ++ l0_0), a0_1, a0_2, a0_3, a0_4, a0_5)) else (none))
def spec_l07Shape.T1 : Bool × List (List Nat × List Nat) := (true, [([], []), ([], []), ([1], [1]), ([0, 2], [0, 2]), ([], []), ([4], [4]), ([], []), ([6], [6]), ([3, 5, 7], [3, 5, 7]), ([8, 3, 0, 1, 2, 3, 4, 5, 6, 7, 8], [8])])
def spec_l07Shape.B1 : List Nat := [0, 0, 2, 7, 0, 16, 0, 64, 255, 511]
theorem spec_l07Shape.tab1 : rtab .any (opsOf Try.f181 1) = spec_l07Shape.T1 := by kernel_rfl
theorem spec_l07Shape.bits1 : waitsOk spec_l07Shape.T1.2 spec_l07Shape.B1 = true := by kernel_rfl
theorem spec_l07Shape.calls (A0_0 : Option Addr) (c0_0 : Nat) (l0_0 : List (S171)) (a0_1 : Int) (a0_2 : Int) (a0_3 : Int) (a0_4 : Int) (a0_5 : Int) (r1 : List (S171)) (r2 : Int) (r3 : Int) (r4 : Int) (r5 : Int) (r6 : Int) (w : World) (hr0_0 : Kd.C k171 w A0_0 l0_0.length l0_0) (hc0_0 : l0_0.length ≤ c0_0) (h : spec_l07Shape.f l0_0 a0_1 a0_2 a0_3 a0_4 a0_5 = some (r1, r2, r3, r4, r5, r6)) :
  Calls Try.prog 181 #[.agg #[.slice A0_0 l0_0.length c0_0, .int .i64 a0_1, .int .i64 a0_2, .int .i64 a0_3, .int .i64 a0_4, .int .i64 a0_5]] w fun e w' => ∃ v0_ : Value, e = .returned (.agg #[v0_, .int .i64 r2, .int .i64 r3, .int .i64 r4, .int .i64 r5, .int .i64 r6]) ∧ Kd.R k171 171 w' w.heap.size (fun _ => True) v0_ r1 ∧ Below w.heap.size w w' := by
 have hu45 := Try.underlying45
 have hu43 := Try.underlying43
 have HR0_0 := Aside0.mk hr0_0
 have HC0_0 := Aside0.mk hc0_0
 clear hr0_0 hc0_0
 have HB := Aside0.mk (Below.refl w.heap.size w)
 have H : ((some (([] : List (S171)) : List (S171))).bind fun y517 => (if y517.length + l0_0.length < 8796093022208 then (some ((y517 ++ l0_0), a0_1, a0_2, a0_3, a0_4, a0_5)) else (none))) = some (r1, r2, r3, r4, r5, r6) := h
 clear h
 obtain ⟨y517, hy517⟩ : ∃ y_ : List (S171), y_ = (([] : List (S171))) := ⟨_, rfl⟩
 replace H : (if y517.length + l0_0.length < 8796093022208 then (some ((y517 ++ l0_0), a0_1, a0_2, a0_3, a0_4, a0_5)) else (none)) = some (r1, r2, r3, r4, r5, r6) := by first | (rw [hy517]; with_reducible exact H) | (have H2_ := (Option.bind_some _ _).symm.trans H; rw [hy517]; with_reducible exact H2_) | (have H2_ := (Option.bind_some _ _).symm.trans H; with_reducible exact H2_) | with_reducible exact H | (rw [hy517]; exact H) | exact H
 have Ny517 := Aside0.mk hy517
 clear hy517
 by_cases c2 : y517.length + l0_0.length < 8796093022208
 ·rw [if_pos c2] at H
  have LMc2 := Aside0.mk c2
  clear c2
  obtain ⟨y520, hy520⟩ : ∃ y_ : List (S171), y_ = (y517 ++ l0_0) := ⟨_, rfl⟩
  replace H : (some (y520, a0_1, a0_2, a0_3, a0_4, a0_5)) = some (r1, r2, r3, r4, r5, r6) := by first | (rw [hy520]; with_reducible exact H) | (have H2_ := (Option.bind_some _ _).symm.trans H; rw [hy520]; with_reducible exact H2_) | (have H2_ := (Option.bind_some _ _).symm.trans H; with_reducible exact H2_) | with_reducible exact H | (rw [hy520]; exact H) | exact H
  have Ny520 := Aside0.mk hy520
  clear hy520
  obtain ⟨rfl, rfl, rfl, rfl, rfl, rfl⟩ := sI6 H
  go_enter Try.func181, Try.ntmps181
  try go_wp2_with (first | ((with_reducible refine gD 1 ?_); refine bxE #[.slice A0_0 l0_0.length c0_0, .int .i64 a0_1, .int .i64 a0_2, .int .i64 a0_3, .int .i64 a0_4, .int .i64 a0_5] 45 ?_; intro gb515 hg w3 BK515 hb; have GW515 := gE hg; have GE515 := gE hg; replace HB := hB hb; clear hb hg) | ((with_reducible refine gD 2 ?_); refine bxE #[.slice none 0 0, .int .i64 0, .int .i64 0, .int .i64 0, .int .i64 0, .int .i64 0] 45 ?_; intro gb516 hg w4 BK516 hb; have GW516 := gE hg; have GE516 := gE hg; have NB515_516 := nL (g := gb515) hg; have NB516_515 := nG (g := gb515) hg; replace BK515 := kB (g := gb515) hb; replace HB := hB hb; clear hb hg))
  replace BK515 := Aside0.mk (blk_drew BK515.out)
  replace BK516 := Aside0.mk (blk_drew BK516.out)
  replace HB := Aside0.mk (below_drew1 HB.out)
  refine start_ (n := 10) (S := fun w' => w'.cell? ⟨gb515, 0, none⟩ = some (.slice A0_0 l0_0.length c0_0) ∧ w'.cell? ⟨gb515, 1, none⟩ = some (.int .i64 a0_1) ∧ w'.cell? ⟨gb515, 2, none⟩ = some (.int .i64 a0_2) ∧ w'.cell? ⟨gb515, 3, none⟩ = some (.int .i64 a0_3) ∧ w'.cell? ⟨gb515, 4, none⟩ = some (.int .i64 a0_4) ∧ w'.cell? ⟨gb515, 5, none⟩ = some (.int .i64 a0_5)) (ds := []) #[false, false, false, false, false, false, false, false, false, false] (by kernel_rfl) rfl rfl (cy6 BK515) (fun hHeld => ?_); refine with_tabW spec_l07Shape.tab1 spec_l07Shape.bits1 (fun HT_ HW_ => ?_)
  generalize w4.drew = w5 at BK515 BK516 HB hHeld ⊢
  refine pU 1 (some 4) #[false, true, false, false, false, false, false, false, false, false] ?_
  refine pU 4 (some 7) #[false, true, false, false, true, false, false, false, false, false] ?_
  refine pU 6 (some 9) #[false, true, false, false, true, false, true, false, false, false] ?_
  refine tK 2 (some 5) #[false, true, true, false, true, false, true, false, false, false] ?_
  refine tK 5 (some 8) #[false, true, true, false, true, true, true, false, false, false] ?_
  refine tK 7 (some 10) #[false, true, true, false, true, true, true, true, false, false] ?_
  refine one_ (i := 0) (N := some 3) #[true, true, true, false, true, true, true, true, false, false] rfl rfl (one_of HT_.out (by kernel_rfl)) (by decide) (fun K hK => ?_)
  refine Kd.R_lit_step k171 _ 171 ?hg (N := 3) ?hd (xs := ([] : List (S171))) (inner := []) (ok := fun _ => True) (okp := fun _ => True) ?hr ?hp (fun _ hk => hk) trivial (Below.refl _ _) (Nat.le_refl _) (by simp) ?_; (case hd => rfl); (case hg => rfl); (case hr => first | (go_simp; done) | (go_simp; rfl)); (case hp => exact (Reps.none _ _))
  intro v518 w6 ho7 hb hg_ hnew_
  clear hg_ hnew_
  (first | rw [← Ny517.out] at ho7 | (simp only [Int.reduceToNat] at ho7; rw [← Ny517.out] at ho7))
  have HO519 := Aside0.mk (Kd.R_lower ho7 (below_size bS))
  replace BK515 := kB (g := gb515) hb
  replace BK516 := kB (g := gb516) hb
  replace HB := hB hb
  clear hb ho7
  refine hK.out _ _ (cy6 BK515) (fun hHeld => ?_)
  clear hK K
  refine norm_ (a' := ?_) ?_ ?_
  rotate_left
  ·show Act.put _ (some 3) _ = _
   simp only [Act.put, List.setIfInBounds_toArray, List.set_cons_zero, List.set_cons_succ, i64_w, i32_w]
   rfl
  refine one_ (i := 3) (N := some 6) #[true, true, true, true, true, true, true, true, false, false] rfl rfl (one_of HT_.out (by kernel_rfl)) (by decide) (fun K hK => ?_)
  refine Kd.R_append_rows_step k171 (w0 := w) w.heap.size (by rfl) (.tmp 3) (.tmp 5) 42 171 (.agg #[(.int .i64 0), (.int .i64 0)]) 16 rfl Try.underlying42 info171 rfl (by decide) (by omega) v518 y517 l0_0 _ _ _ (fun _ => True) (fun _ => False) rfl rfl ?aO ?aR (fun _ _ h => h) (fun _ h => h.elim) ?aF ?aB ?aS ?aL ?_
  (case aR => exact cS (Kd.C_below HR0_0.out HB.out))
  (case aB => exact bS)
  (case aF => exact (fun _ _ => trivial))
  (case aO => exact (rS HO519))
  (case aS => exact (below_size bS))
  (case aL => have := LMc2.out; omega)
  intro v521 w8 ho hb hg hat
  rw [← Ny520.out] at ho
  have HO522 := Aside0.mk (ho)
  replace BK515 := Aside0.mk (blk_grown (g := gb515) kS hg (Kd.R_ne HO519.out BK515.out (by decide)))
  replace BK516 := Aside0.mk (blk_grown (g := gb516) kS hg (Kd.R_ne HO519.out BK516.out (by decide)))
  replace HB := Aside0.mk (hb)
  clear HO519
  clear ho hb hg hat
  obtain ⟨Ao9, co9, eo9⟩ := Kd.R_slice HO522.out
  (first | subst eo9 | (injection eo9 with f1_ f2_ f3_; have f4_ := f1_.symm; have f5_ := f3_.symm; clear f1_ f2_ f3_; subst f4_; subst f5_))
  refine hK.out _ _ (cy6 BK515) (fun hHeld => ?_)
  clear hK K
  refine norm_ (a' := ?_) ?_ ?_
  rotate_left
  ·show Act.put _ (some 6) _ = _
   simp only [Act.put, List.setIfInBounds_toArray, List.set_cons_zero, List.set_cons_succ, i64_w, i32_w]
   rfl
  refine pU 8 (some 11) #[true, true, true, true, true, true, true, true, true, false] ?_
  refine one_ (i := 9) (N := none) #[true, true, true, true, true, true, true, true, true, true] rfl rfl (one_of HT_.out (by kernel_rfl)) (by decide) (fun K hK => ?_)
  have hs10 : w8.cell? ⟨gb516, 0, none⟩ = some (.slice none 0 0) := (blk_cell BK516.out 0).trans rfl
  have hfs10 := blk_frozen BK516.out 0
  have hns10_0 := NB515_516.out
  have hms10_0 := NB516_515.out
  have hs11 : w8.cell? ⟨gb516, 1, none⟩ = some (.int .i64 0) := (blk_cell BK516.out 1).trans rfl
  have hfs11 := blk_frozen BK516.out 1
  have hns11_0 := NB515_516.out
  have hms11_0 := NB516_515.out
  have hs12 : w8.cell? ⟨gb516, 2, none⟩ = some (.int .i64 0) := (blk_cell BK516.out 2).trans rfl
  have hfs12 := blk_frozen BK516.out 2
  have hns12_0 := NB515_516.out
  have hms12_0 := NB516_515.out
  have hs13 : w8.cell? ⟨gb516, 3, none⟩ = some (.int .i64 0) := (blk_cell BK516.out 3).trans rfl
  have hfs13 := blk_frozen BK516.out 3
  have hns13_0 := NB515_516.out
  have hms13_0 := NB516_515.out
  have hs14 : w8.cell? ⟨gb516, 4, none⟩ = some (.int .i64 0) := (blk_cell BK516.out 4).trans rfl
  have hfs14 := blk_frozen BK516.out 4
  have hns14_0 := NB515_516.out
  have hms14_0 := NB516_515.out
  have hs15 : w8.cell? ⟨gb516, 5, none⟩ = some (.int .i64 0) := (blk_cell BK516.out 5).trans rfl
  have hfs15 := blk_frozen BK516.out 5
  have hns15_0 := NB515_516.out
  have hms15_0 := NB516_515.out
  refine skip_ (w1 := ?_) (by rfl) rfl ?_ ?_
  rotate_left
  ·go_simp
   rfl
  refine hK.out _ _ ⟨((cell_far (p := ⟨gb516, _, none⟩) NB515_516.out _).trans (((cell_far (p := ⟨gb516, _, none⟩) NB515_516.out _).trans (((cell_far (p := ⟨gb516, _, none⟩) NB515_516.out _).trans (((cell_far (p := ⟨gb516, _, none⟩) NB515_516.out _).trans (((cell_far (p := ⟨gb516, _, none⟩) NB515_516.out _).trans (((cell_far (p := ⟨gb516, _, none⟩) NB515_516.out _).trans (hHeld.1)))))))))))), ((cell_far (p := ⟨gb516, _, none⟩) NB515_516.out _).trans (((cell_far (p := ⟨gb516, _, none⟩) NB515_516.out _).trans (((cell_far (p := ⟨gb516, _, none⟩) NB515_516.out _).trans (((cell_far (p := ⟨gb516, _, none⟩) NB515_516.out _).trans (((cell_far (p := ⟨gb516, _, none⟩) NB515_516.out _).trans (((cell_far (p := ⟨gb516, _, none⟩) NB515_516.out _).trans (hHeld.2.1)))))))))))), ((cell_far (p := ⟨gb516, _, none⟩) NB515_516.out _).trans (((cell_far (p := ⟨gb516, _, none⟩) NB515_516.out _).trans (((cell_far (p := ⟨gb516, _, none⟩) NB515_516.out _).trans (((cell_far (p := ⟨gb516, _, none⟩) NB515_516.out _).trans (((cell_far (p := ⟨gb516, _, none⟩) NB515_516.out _).trans (((cell_far (p := ⟨gb516, _, none⟩) NB515_516.out _).trans (hHeld.2.2.1)))))))))))), ((cell_far (p := ⟨gb516, _, none⟩) NB515_516.out _).trans (((cell_far (p := ⟨gb516, _, none⟩) NB515_516.out _).trans (((cell_far (p := ⟨gb516, _, none⟩) NB515_516.out _).trans (((cell_far (p := ⟨gb516, _, none⟩) NB515_516.out _).trans (((cell_far (p := ⟨gb516, _, none⟩) NB515_516.out _).trans (((cell_far (p := ⟨gb516, _, none⟩) NB515_516.out _).trans (hHeld.2.2.2.1)))))))))))), ((cell_far (p := ⟨gb516, _, none⟩) NB515_516.out _).trans (((cell_far (p := ⟨gb516, _, none⟩) NB515_516.out _).trans (((cell_far (p := ⟨gb516, _, none⟩) NB515_516.out _).trans (((cell_far (p := ⟨gb516, _, none⟩) NB515_516.out _).trans (((cell_far (p := ⟨gb516, _, none⟩) NB515_516.out _).trans (((cell_far (p := ⟨gb516, _, none⟩) NB515_516.out _).trans (hHeld.2.2.2.2.1)))))))))))), ((cell_far (p := ⟨gb516, _, none⟩) NB515_516.out _).trans (((cell_far (p := ⟨gb516, _, none⟩) NB515_516.out _).trans (((cell_far (p := ⟨gb516, _, none⟩) NB515_516.out _).trans (((cell_far (p := ⟨gb516, _, none⟩) NB515_516.out _).trans (((cell_far (p := ⟨gb516, _, none⟩) NB515_516.out _).trans (((cell_far (p := ⟨gb516, _, none⟩) NB515_516.out _).trans (hHeld.2.2.2.2.2))))))))))))⟩ (fun hHeld => ?_)
  clear hK K
  refine done_ (done_of HT_.out (by kernel_rfl)) ?_
  try go_wp2
  refine bodyPost_ret (results_cell_row rfl _ _ gb516 45 #[.slice Ao9 y520.length co9, .int .i64 a0_1, .int .i64 a0_2, .int .i64 a0_3, .int .i64 a0_4, .int .i64 a0_5] (0, 0) _ rfl kS Try.underlying45 rfl (by kernel_rfl)) rfl ?_
  exact ⟨_, eS, by exact rT (Kd.R_mono (Kd.R_far (p := ⟨gb516, 5, none⟩) (Kd.R_far (p := ⟨gb516, 4, none⟩) (Kd.R_far (p := ⟨gb516, 3, none⟩) (Kd.R_far (p := ⟨gb516, 2, none⟩) (Kd.R_far (p := ⟨gb516, 1, none⟩) (Kd.R_far (p := ⟨gb516, 0, none⟩) (Kd.R_types HO522.out BK516.out (by decide)) (fun _ hk => hk.2) (.slice Ao9 y520.length co9)) (fun _ hk => hk.2) (.int .i64 a0_1)) (fun _ hk => hk.2) (.int .i64 a0_2)) (fun _ hk => hk.2) (.int .i64 a0_3)) (fun _ hk => hk.2) (.int .i64 a0_4)) (fun _ hk => hk.2) (.int .i64 a0_5)) (fun _ hk => trivial)), bS⟩
 ·rw [if_neg c2] at H
  exact absurd H (by simp)

/-! ### spec_ObjectsOfBand: function 135 -/
def spec_ObjectsOfBand.l0 : Nat → List (S45) → Int → Int → List (S45) → Int → Option ((List (S45)))
 | 0, _, _, _, _, _ => none
 | k + 1, x0, x1, x2, x7, x8 => if x8 < (x0.length : Int) then (if 0 ≤ x8 then ((spec_TouchesBand.f k ((rd_T45 x0 x8).f0) ((rd_T45 x0 x8).f1) ((rd_T45 x0 x8).f2.f0) ((rd_T45 x0 x8).f2.f1) ((rd_T45 x0 x8).f2.f2) ((rd_T45 x0 x8).f2.f3) x1 x2).bind fun t527 => (if t527 = true then ((spec_l07Shape.f ((rd_T45 x0 x8).f0) ((rd_T45 x0 x8).f1) ((rd_T45 x0 x8).f2.f0) ((rd_T45 x0 x8).f2.f1) ((rd_T45 x0 x8).f2.f2) ((rd_T45 x0 x8).f2.f3)).bind fun bt529 => (if x7.length < 2199023255552 then (spec_ObjectsOfBand.l0 k x0 x1 x2 (x7 ++ [(⟨bt529.1, bt529.2.1, (⟨bt529.2.2.1, bt529.2.2.2.1, bt529.2.2.2.2.1, bt529.2.2.2.2.2⟩ : S43)⟩ : S45)]) (wrap64 (x8 + 1))) else (none))) else (spec_ObjectsOfBand.l0 k x0 x1 x2 x7 (wrap64 (x8 + 1))))) else (none)) else (some x7)
def spec_ObjectsOfBand.f (k : Nat) (l0 : List (S45)) (a1 : Int) (a2 : Int) : Option ((List (S45))) := spec_ObjectsOfBand.l0 k l0 a1 a2 (([] : List (S45))) 0
theorem spec_ObjectsOfBand.calls (k : Nat) (A0 : Option Addr) (c0 : Nat) (l0 : List (S45)) (a1 : Int) (a2 : Int) (r : List (S45)) (w : World) (hr0 : Kd.C k45 w A0 l0.length l0) (hc0 : l0.length ≤ c0) (h : spec_ObjectsOfBand.f k l0 a1 a2 = some r) :
  Calls Try.prog 135 #[.slice A0 l0.length c0, .int .i64 a1, .int .i64 a2] w fun e w' => ∃ v0_ : Value, e = .returned (v0_) ∧ Kd.S k45 45 w' w.heap.size (fun _ => True) v0_ r ∧ Below w.heap.size w w' := by
 have hu45 := Try.underlying45
 have HR0 := Aside0.mk hr0
 have HC0 := Aside0.mk hc0
 clear hr0 hc0
 have HB := Aside0.mk (Below.refl w.heap.size w)
 have H : (spec_ObjectsOfBand.l0 k l0 a1 a2 (([] : List (S45))) 0) = some r := h
 clear h
 obtain ⟨y523, hy523⟩ : ∃ y_ : List (S45), y_ = (([] : List (S45))) := ⟨_, rfl⟩
 replace H : (spec_ObjectsOfBand.l0 k l0 a1 a2 y523 0) = some r := by first | (rw [hy523]; with_reducible exact H) | (have H2_ := (Option.bind_some _ _).symm.trans H; rw [hy523]; with_reducible exact H2_) | (have H2_ := (Option.bind_some _ _).symm.trans H; with_reducible exact H2_) | with_reducible exact H | (rw [hy523]; exact H) | exact H
 have Ny523 := Aside0.mk hy523
 clear hy523
 have H' := Aside0.mk H
 clear H
 go_enter Try.func135, Try.ntmps135
 go_wp2_with (first | ((with_reducible refine gate_dst (N := 9) rfl ?_); refine Kd.S_lit k45 _ 45 ?hg (N := 9) ?hd (xs := ([] : List (S45))) (inner := []) (ok := fun _ => True) (okp := fun _ => True) ?hr ?hp (fun _ hk => hk) trivial (Below.refl _ _) (Nat.le_refl _) (by simp) ?_; (case hd => rfl); (case hg => rfl); (case hr => first | (go_simp; done) | (go_simp; rfl)); (case hp => exact (Reps.none _ _)); intro v524 w4 ho5 hb hg_ hnew_; clear hg_ hnew_; (first | rw [← Ny523.out] at ho5 | (simp only [Int.reduceToNat] at ho5; rw [← Ny523.out] at ho5)); have HO525 := Aside0.mk (Kd.S_lower ho5 (below_size bS)); replace HB := hB hb; clear hb ho5))
 go_loopg [7, 8] k (fun kq v7 v8 w' => ∃ (x7_1 : List (S45)) (x8_1 : Int), v8 = .int .i64 x8_1 ∧ Aside0 (spec_ObjectsOfBand.l0 kq l0 a1 a2 x7_1 x8_1 = some r) ∧ Aside0 (kq ≤ k) ∧ Aside0 (Kd.S k45 45 w' w.heap.size (fun _ => True) v7 x7_1) ∧ Aside0 (Below w.heap.size w w'))
 case atStart => exact ⟨(y523), (0), fS, H', ⟨Nat.le_refl _⟩, ⟨sS HO525⟩, ⟨bS⟩⟩
 case round =>
  clear H'
  try clear c1
  try clear p2
  obtain ⟨x7_1, x8_1, rfl, HA, HK1, HO_7, HB⟩ := hrel
  cases gk with
  | zero => exact absurd HA.out (by simp [spec_ObjectsOfBand.l0])
  | succ k1 =>
   have H := HA.out
   clear HA
   simp only [spec_ObjectsOfBand.l0] at H
   rcases iD H with ⟨c6b0, H⟩ | ⟨c6b0, H⟩
   ·obtain ⟨c7b0, H⟩ := iT H
    replace H := bN H
    obtain ⟨t527, A8, H⟩ := H
    by_cases c9 : t527 = true
    ·subst c9
     rw [if_pos rfl] at H
     replace H := bN H
     obtain ⟨⟨t529, t532, t533, t534, t535, t536⟩, A10, H⟩ := H
     obtain ⟨LMc11, H⟩ := iL H
     obtain ⟨y537, hy537⟩ : ∃ y_ : List (S45), y_ = (x7_1 ++ [(⟨t529, t532, (⟨t533, t534, t535, t536⟩ : S43)⟩ : S45)]) := ⟨_, rfl⟩
     replace H : (spec_ObjectsOfBand.l0 k1 l0 a1 a2 y537 (wrap64 (x8_1 + 1))) = some r := by first | (rw [hy537]; with_reducible exact H) | (have H2_ := (Option.bind_some _ _).symm.trans H; rw [hy537]; with_reducible exact H2_) | (have H2_ := (Option.bind_some _ _).symm.trans H; with_reducible exact H2_) | with_reducible exact H | (rw [hy537]; exact H) | exact H
     have Ny537 := Aside0.mk hy537
     clear hy537
     have H' := Aside0.mk H
     clear H
     have p526 : 0 ≤ (x8_1 : Int) := dA
     have q526 : x8_1 < (l0.length : Int) := dA
     obtain ⟨ad526, A526_0, c526_0, e526, hx526_0, hx526_1, hx526_2, hx526_3, hx526_4, hx526_5, hl526_0, hi526_0⟩ := at_T45 HR0.out x8_1 p526 q526
     cases e526
     replace hx526_0 := cB HB hx526_0
     replace hx526_1 := cB HB hx526_1
     replace hx526_2 := cB HB hx526_2
     replace hx526_3 := cB HB hx526_3
     replace hx526_4 := cB HB hx526_4
     replace hx526_5 := cB HB hx526_5
     have HR526_0 := Aside0.mk hi526_0
     have HC526_0 := Aside0.mk hl526_0
     clear hi526_0 hl526_0
     replace p526 := eq_true p526
     replace q526 := eq_true q526
     go_wp2_with (first | ((with_reducible refine gC 100 ?_); refine cL (some 22) Try.func100 #[.agg #[.slice A526_0 ((rd_T45 l0 x8_1).f0).length c526_0, .int .i64 ((rd_T45 l0 x8_1).f1), .int .i64 ((rd_T45 l0 x8_1).f2.f0), .int .i64 ((rd_T45 l0 x8_1).f2.f1), .int .i64 ((rd_T45 l0 x8_1).f2.f2), .int .i64 ((rd_T45 l0 x8_1).f2.f3)], .int .i64 a1, .int .i64 a2] ?_; (with_reducible refine (spec_TouchesBand.calls k1 _ _ ((rd_T45 l0 x8_1).f0) ((rd_T45 l0 x8_1).f1) ((rd_T45 l0 x8_1).f2.f0) ((rd_T45 l0 x8_1).f2.f1) ((rd_T45 l0 x8_1).f2.f2) ((rd_T45 l0 x8_1).f2.f3) a1 a2 _ _ (cS (Kd.C_below HR526_0.out HB.out)) HC526_0.out A8.out).mono ?_); rintro e w12 ⟨rfl, hb⟩; refine ⟨_, rfl, ?_⟩; replace HO_7 := sB HO_7 hb; replace HB := hB hb; (try clear hb); (try clear hb2); (try clear hk); (try clear hi); have p528 : 0 ≤ (x8_1 : Int) := dA; have q528 : x8_1 < (l0.length : Int) := dA; obtain ⟨ad528, A528_0, c528_0, e528, hx528_0, hx528_1, hx528_2, hx528_3, hx528_4, hx528_5, hl528_0, hi528_0⟩ := at_T45 HR0.out x8_1 p528 q528; obtain rfl : ad526 = ad528 := (by injection e528); replace hx528_0 := cB HB hx528_0; replace hx528_1 := cB HB hx528_1; replace hx528_2 := cB HB hx528_2; replace hx528_3 := cB HB hx528_3; replace hx528_4 := cB HB hx528_4; replace hx528_5 := cB HB hx528_5; have HR528_0 := Aside0.mk hi528_0; have HC528_0 := Aside0.mk hl528_0; clear hi528_0 hl528_0; replace p528 := eq_true p528; replace q528 := eq_true q528) | ((with_reducible refine gC 181 ?_); refine cL (some 28) Try.func181 #[.agg #[.slice A528_0 ((rd_T45 l0 x8_1).f0).length c528_0, .int .i64 ((rd_T45 l0 x8_1).f1), .int .i64 ((rd_T45 l0 x8_1).f2.f0), .int .i64 ((rd_T45 l0 x8_1).f2.f1), .int .i64 ((rd_T45 l0 x8_1).f2.f2), .int .i64 ((rd_T45 l0 x8_1).f2.f3)]] ?_; (with_reducible refine (spec_l07Shape.calls _ _ ((rd_T45 l0 x8_1).f0) ((rd_T45 l0 x8_1).f1) ((rd_T45 l0 x8_1).f2.f0) ((rd_T45 l0 x8_1).f2.f1) ((rd_T45 l0 x8_1).f2.f2) ((rd_T45 l0 x8_1).f2.f3) t529 t532 t533 t534 t535 t536 _ (cS (Kd.C_below HR528_0.out HB.out)) HC528_0.out A10.out).mono ?_); rintro e w13 ⟨v530, rfl, ho0, hb⟩; refine ⟨_, rfl, ?_⟩; have HO531 := Aside0.mk (Kd.R_lower ho0 (below_size bS)); replace HO_7 := Aside0.mk (Kd.S_elder' (sS HO_7) (Kd.R_base ho0) hb); replace HB := hB hb; (try clear hb); (try clear hb2); (try clear hk); (try clear hi); (try clear ho0); obtain ⟨Ao15, co15, eo15⟩ := Kd.R_slice HO531.out; subst eo15) | ((with_reducible refine gate_builtin (b := .append) (xs := #[.tmp 23, .tmp 29]) rfl ?_); at_builtin; refine Kd.S_append k45 (w0 := w) w.heap.size rfl (.tmp 23) (.tmp 29) 24 45 (.agg #[(.slice none 0 0), (.int .i64 0), (.int .i64 0), (.int .i64 0), (.int .i64 0), (.int .i64 0)]) 64 rfl Try.underlying24 info45 rfl (by decide) (by omega) u7 x7_1 (⟨t529, t532, (⟨t533, t534, t535, t536⟩ : S43)⟩ : S45) [.slice Ao15 t529.length co15, .int .i64 t532, .int .i64 t533, .int .i64 t534, .int .i64 t535, .int .i64 t536] (fun _ => True) (fun k_ => some k_ = (.slice Ao15 t529.length co15 : Value).ownBlock) rfl rfl ?aP (fun k_ hk_ => ((Kd.R_mono (ok' := fun k_ => ((fun _ => True)) k_ ∧ some k_ ≠ (u7 : Value).ownBlock) (Kd.R_apart' (HO531.out) (Kd.S_typed HO_7.out) (by decide)) (fun k_ hk => ⟨trivial, hk.2⟩))).1 k_ hk_.symm) ?aF ?aO ?aB ?aS ?aL ?_; (case aP => exact k45_mkM _ _ _ (⟨t529, t532, (⟨t533, t534, t535, t536⟩ : S43)⟩ : S45) (Kd.R_mono (Kd.R_tight rfl (Kd.R_mono (ok' := fun k_ => ((fun _ => True)) k_ ∧ some k_ ≠ (u7 : Value).ownBlock) (Kd.R_apart' (HO531.out) (Kd.S_typed HO_7.out) (by decide)) (fun k_ hk => ⟨trivial, hk.2⟩))) (fun _ h_ => h_))); (case aB => exact bS); (case aF => exact (fun _ _ => trivial)); (case aO => exact (by exact sT (Kd.S_mono HO_7.out (fun k_ hk => ⟨trivial, fun e_ => hk.2 e_⟩)))); (case aS => exact (below_size bS)); (case aL => have := LMc11.out; omega); intro v538 w14 ho hb hg hat; rw [← Ny537.out] at ho; have HO539 := Aside0.mk (ho); replace HB := Aside0.mk (hb); clear HO_7 HO531; clear ho hb hg hat))
     go_roundg k1
     case measure => have := HK1.out; omega
     case rel => exact ⟨(y537), (wrap64 (x8_1 + 1)), fS, H', ⟨by have := HK1.out; omega⟩, ⟨sS HO539⟩, ⟨bS⟩⟩
    ·obtain rfl := Bool.eq_false_iff.mpr c9
     rw [if_neg nF] at H
     have H' := Aside0.mk H
     clear H
     have p526 : 0 ≤ (x8_1 : Int) := dA
     have q526 : x8_1 < (l0.length : Int) := dA
     obtain ⟨ad526, A526_0, c526_0, e526, hx526_0, hx526_1, hx526_2, hx526_3, hx526_4, hx526_5, hl526_0, hi526_0⟩ := at_T45 HR0.out x8_1 p526 q526
     cases e526
     replace hx526_0 := cB HB hx526_0
     replace hx526_1 := cB HB hx526_1
     replace hx526_2 := cB HB hx526_2
     replace hx526_3 := cB HB hx526_3
     replace hx526_4 := cB HB hx526_4
     replace hx526_5 := cB HB hx526_5
     have HR526_0 := Aside0.mk hi526_0
     have HC526_0 := Aside0.mk hl526_0
     clear hi526_0 hl526_0
     replace p526 := eq_true p526
     replace q526 := eq_true q526
     go_wp2_with (first | ((with_reducible refine gC 100 ?_); refine cL (some 22) Try.func100 #[.agg #[.slice A526_0 ((rd_T45 l0 x8_1).f0).length c526_0, .int .i64 ((rd_T45 l0 x8_1).f1), .int .i64 ((rd_T45 l0 x8_1).f2.f0), .int .i64 ((rd_T45 l0 x8_1).f2.f1), .int .i64 ((rd_T45 l0 x8_1).f2.f2), .int .i64 ((rd_T45 l0 x8_1).f2.f3)], .int .i64 a1, .int .i64 a2] ?_; (with_reducible refine (spec_TouchesBand.calls k1 _ _ ((rd_T45 l0 x8_1).f0) ((rd_T45 l0 x8_1).f1) ((rd_T45 l0 x8_1).f2.f0) ((rd_T45 l0 x8_1).f2.f1) ((rd_T45 l0 x8_1).f2.f2) ((rd_T45 l0 x8_1).f2.f3) a1 a2 _ _ (cS (Kd.C_below HR526_0.out HB.out)) HC526_0.out A8.out).mono ?_); rintro e w16 ⟨rfl, hb⟩; refine ⟨_, rfl, ?_⟩; replace HO_7 := sB HO_7 hb; replace HB := hB hb; (try clear hb); (try clear hb2); (try clear hk); (try clear hi)))
     go_roundg k1
     case measure => have := HK1.out; omega
     case rel => exact ⟨(x7_1), (wrap64 (x8_1 + 1)), fS, H', ⟨by have := HK1.out; omega⟩, ⟨sS HO_7⟩, ⟨bS⟩⟩
   ·obtain rfl := Option.some.inj H
    go_wp2
    go_ret
    exact ⟨_, eS, sS HO_7, bS⟩

/-! ### spec_RenderBands: function 65 -/
def spec_RenderBands.l0 : Nat → List (S45) → Int → List (List Int) → Int → Option ((List (List Int)))
 | 0, _, _, _, _ => none
 | k + 1, x0, x1, x5, x6 => (spec_CountBands.f x1).bind fun t543 => (if x6 < t543 then ((spec_ObjectsOfBand.f k x0 x1 x6).bind fun t544 => ((spec_RenderBand.f k t544 x1 x6).bind fun t547 => (if x5.length + t547.length < 5864062014805 then (spec_RenderBands.l0 k x0 x1 (x5 ++ t547) (wrap64 (x6 + 1))) else (none)))) else (some x5))
def spec_RenderBands.f (k : Nat) (l0 : List (S45)) (a1 : Int) : Option ((List (List Int))) := spec_RenderBands.l0 k l0 a1 (([] : List (List Int))) 0
theorem spec_RenderBands.calls (k : Nat) (A0 : Option Addr) (c0 : Nat) (l0 : List (S45)) (a1 : Int) (r : List (List Int)) (w : World) (hr0 : Kd.C k45 w A0 l0.length l0) (hc0 : l0.length ≤ c0) (h : spec_RenderBands.f k l0 a1 = some r) :
  Calls Try.prog 65 #[.slice A0 l0.length c0, .int .i64 a1] w fun e w' => ∃ v0_ : Value, e = .returned (v0_) ∧ Kd.S (Kd.slice 3 (Kd.int .i64)) 71 w' w.heap.size (fun _ => True) v0_ r ∧ Below w.heap.size w w' := by
 have HR0 := Aside0.mk hr0
 have HC0 := Aside0.mk hc0
 clear hr0 hc0
 have HB := Aside0.mk (Below.refl w.heap.size w)
 have H : (spec_RenderBands.l0 k l0 a1 (([] : List (List Int))) 0) = some r := h
 clear h
 obtain ⟨y540, hy540⟩ : ∃ y_ : List (List Int), y_ = (([] : List (List Int))) := ⟨_, rfl⟩
 replace H : (spec_RenderBands.l0 k l0 a1 y540 0) = some r := by first | (rw [hy540]; with_reducible exact H) | (have H2_ := (Option.bind_some _ _).symm.trans H; rw [hy540]; with_reducible exact H2_) | (have H2_ := (Option.bind_some _ _).symm.trans H; with_reducible exact H2_) | with_reducible exact H | (rw [hy540]; exact H) | exact H
 have Ny540 := Aside0.mk hy540
 clear hy540
 have H' := Aside0.mk H
 clear H
 go_enter Try.func65, Try.ntmps65
 go_wp2_with (first | ((with_reducible refine gate_dst (N := 7) rfl ?_); refine Kd.S_lit (Kd.slice 3 (Kd.int .i64)) _ 71 ?hg (N := 7) ?hd (xs := ([] : List (List Int))) (inner := []) (ok := fun _ => True) (okp := fun _ => True) ?hr ?hp (fun _ hk => hk) trivial (Below.refl _ _) (Nat.le_refl _) (by simp) ?_; (case hd => rfl); (case hg => rfl); (case hr => first | (go_simp; done) | (go_simp; rfl)); (case hp => exact (Reps.none _ _)); intro v541 w3 ho4 hb hg_ hnew_; clear hg_ hnew_; (first | rw [← Ny540.out] at ho4 | (simp only [Int.reduceToNat] at ho4; rw [← Ny540.out] at ho4)); have HO542 := Aside0.mk (Kd.S_lower ho4 (below_size bS)); replace HB := hB hb; clear hb ho4))
 go_loopg [5, 6] k (fun kq v5 v6 w' => ∃ (x5_1 : List (List Int)) (x6_1 : Int), v6 = .int .i64 x6_1 ∧ Aside0 (spec_RenderBands.l0 kq l0 a1 x5_1 x6_1 = some r) ∧ Aside0 (kq ≤ k) ∧ Aside0 (Kd.S (Kd.slice 3 (Kd.int .i64)) 71 w' w.heap.size (fun _ => True) v5 x5_1) ∧ Aside0 (Below w.heap.size w w'))
 case atStart => exact ⟨(y540), (0), fS, H', ⟨Nat.le_refl _⟩, ⟨sS HO542⟩, ⟨bS⟩⟩
 case round =>
  clear H'
  try clear p2
  obtain ⟨x5_1, x6_1, rfl, HA, HK1, HO_5, HB⟩ := hrel
  cases gk with
  | zero => exact absurd HA.out (by simp [spec_RenderBands.l0])
  | succ k1 =>
   have H := HA.out
   clear HA
   simp only [spec_RenderBands.l0] at H
   replace H := bN H
   obtain ⟨t543, A5, H⟩ := H
   rcases iD H with ⟨c6b0, H⟩ | ⟨c6b0, H⟩
   ·replace H := bN H
    obtain ⟨t544, A7, H⟩ := H
    replace H := bN H
    obtain ⟨t547, A8, H⟩ := H
    obtain ⟨LMc9, H⟩ := iL H
    obtain ⟨y550, hy550⟩ : ∃ y_ : List (List Int), y_ = (x5_1 ++ t547) := ⟨_, rfl⟩
    replace H : (spec_RenderBands.l0 k1 l0 a1 y550 (wrap64 (x6_1 + 1))) = some r := by first | (rw [hy550]; with_reducible exact H) | (have H2_ := (Option.bind_some _ _).symm.trans H; rw [hy550]; with_reducible exact H2_) | (have H2_ := (Option.bind_some _ _).symm.trans H; with_reducible exact H2_) | with_reducible exact H | (rw [hy550]; exact H) | exact H
    have Ny550 := Aside0.mk hy550
    clear hy550
    have H' := Aside0.mk H
    clear H
    go_wp2_with (first | ((with_reducible refine gC 67 ?_); refine cL (some 10) Try.func67 #[.int .i64 a1] ?_; (with_reducible refine (spec_CountBands.calls a1 t543 _ A5.out).mono ?_); rintro e w' ⟨rfl, ⟨nd, rfl⟩⟩; refine ⟨_, rfl, ?_⟩) | ((with_reducible refine gC 135 ?_); refine cL (some 18) Try.func135 #[.slice A0 l0.length c0, .int .i64 a1, .int .i64 x6_1] ?_; (with_reducible refine (spec_ObjectsOfBand.calls k1 _ _ l0 a1 x6_1 t544 _ (cS (Kd.C_below HR0.out bS)) HC0.out A7.out).mono ?_); rintro e w10 ⟨v545, rfl, ho0, hb⟩; refine ⟨_, rfl, ?_⟩; have HO546 := Aside0.mk ho0; replace HO_5 := sB HO_5 hb; replace HB := hB hb; clear hb ho0; obtain ⟨Ao11, co11, eo11⟩ := Kd.S_slice HO546.out; subst eo11) | ((with_reducible refine gC 59 ?_); refine cL (some 21) Try.func59 #[.slice Ao11 t544.length co11, .int .i64 a1, .int .i64 x6_1] ?_; (with_reducible refine (spec_RenderBand.calls k1 _ _ t544 a1 x6_1 t547 _ (cS (Kd.S_reads' HO546.out).2.2) ((Kd.S_reads' HO546.out).2.1) A8.out).mono ?_); rintro e w12 ⟨v548, rfl, ho0, hb⟩; refine ⟨_, rfl, ?_⟩; obtain ⟨bX, HZX, hzX⟩ := S_born ho0; have HLX := Aside0.mk (show w.heap.size ≤ bX from by rw [HZX.out]; exact (below_size bS)); replace HO_5 := Aside0.mk (S_oldB (sS HO_5) hb HZX.out); have HO549 := Aside0.mk hzX; replace HB := hB hb; clear hb ho0 hzX; obtain ⟨Ao14, co14, eo14⟩ := Kd.S_slice HO549.out; subst eo14) | ((with_reducible refine gate_builtin (b := .append) (xs := #[.tmp 14, .tmp 21]) rfl ?_); at_builtin; refine S_append_rows (Kd.slice 3 (Kd.int .i64)) (w0 := w) w.heap.size rfl (.tmp 14) (.tmp 21) 27 71 (.slice none 0 0) 24 rfl Try.underlying27 info71 rfl (by decide) (by omega) u5 x5_1 t547 _ _ _ (fun _ => True) (fun k_ => bX ≤ k_) rfl rfl ?aO ?aR (fun _ _ => trivial) (fun _ _ => trivial) ?aB ?aS ?aL ?_; (case aO => (with_reducible repeat (first | apply Kd.S_alloc | apply Kd.S_drewN | apply Kd.S_drew)); exact Kd.S_mono HO_5.out (fun k_ hk => ⟨trivial, Nat.not_le.2 hk.2⟩)); (case aR => (with_reducible repeat (first | apply Kd.S_alloc | apply Kd.S_drewN | apply Kd.S_drew)); exact Kd.S_lower (Kd.S_mono (Kd.S_bound HO549.out) (fun k_ hk => hk.2.1)) HLX.out); (case aB => exact bS); (case aS => exact (below_size bS)); (case aL => have := LMc9.out; omega); intro v551 w13 ho hb hg hat; rw [← Ny550.out] at ho; have HO552 := Aside0.mk ho; replace HB := Aside0.mk hb; clear ho hb hg hat))
    go_roundg k1
    case measure => have := HK1.out; omega
    case rel => exact ⟨(y550), (wrap64 (x6_1 + 1)), fS, H', ⟨by have := HK1.out; omega⟩, ⟨sS HO552⟩, ⟨bS⟩⟩
   ·obtain rfl := Option.some.inj H
    go_wp2_with (first | ((with_reducible refine gC 67 ?_); refine cL (some 10) Try.func67 #[.int .i64 a1] ?_; (with_reducible refine (spec_CountBands.calls a1 t543 _ A5.out).mono ?_); rintro e w' ⟨rfl, ⟨nd, rfl⟩⟩; refine ⟨_, rfl, ?_⟩))
    go_ret
    exact ⟨_, eS, sS HO_5, bS⟩

end Go.Proofs.Ytigodjcnkgebaaa.QFnExactRenderBands
