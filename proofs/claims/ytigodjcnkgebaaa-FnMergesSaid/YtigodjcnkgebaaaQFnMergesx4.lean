-- Made out of the translation by a program of this session (a changed copy of the print). Not trusted: Lean checks it.
import Derived.Test.YtigodjcnkgebaaaQFnMergesx0
import Derived.Test.YtigodjcnkgebaaaQFnMergesx3
namespace Go.Proofs.Ytigodjcnkgebaaa.QFnMerges
open Go.RowKit Go.Proofs.YtigodjcnkgebaaaW.PrintWords Go.Proofs.YtigodjcnkgebaaaW.PrintLast Go.Proofs.YtigodjcnkgebaaaW.PrintMore
attribute [local go_sem] max2_int min2_int max_two min_two max_three min_three max_four min_four   -- for this text's walks alone
set_option linter.unusedVariables false
set_option linter.unusedSimpArgs false
set_option maxHeartbeats 8000000
set_option maxRecDepth 100000

/-! ### spec_l01In: function 123 -/
def spec_l01In.f (a0 : Int) (a1 : Int) (a2 : Int) : Option (Bool) := if a0 ≥ a1 then (some (decide (a0 ≤ a2))) else (some false)
theorem spec_l01In.calls (a0 : Int) (a1 : Int) (a2 : Int) (r : Bool) (w : World) (h : spec_l01In.f a0 a1 a2 = some r) :
  Calls Try.prog 123 #[.int .i64 a0, .int .i64 a1, .int .i64 a2] w fun e w' => e = .returned (.bool r) ∧ Drawn0 w w' := by
 have H : (if a0 ≥ a1 then (some (decide (a0 ≤ a2))) else (some false)) = some r := h
 clear h
 by_cases c4 : a0 ≥ a1
 ·rw [if_pos c4] at H
  have c4b0 : decide (a1 ≤ a0) = true := decide_eq_true c4
  clear c4
  obtain rfl := Option.some.inj H
  go_enter Try.func123, Try.ntmps123
  go_wp2
  go_ret
  exact ⟨fS, dS⟩
 ·rw [if_neg c4] at H
  have c4b0 : decide (a1 ≤ a0) = false := decide_eq_false c4
  clear c4
  obtain rfl := Option.some.inj H
  go_enter Try.func123, Try.ntmps123
  go_wp2
  go_ret
  exact ⟨fS, dS⟩

/-! ### spec_l12Ok: function 96 -/
def spec_l12Ok.f (a0 : Int) (a1 : Int) : Option (Bool) := (spec_CountBands.f a0).bind fun t296 => ((spec_l01In.f a1 0 (wrap64 (t296 - 1))).bind fun t297 => (some t297))
theorem spec_l12Ok.calls (a0 : Int) (a1 : Int) (r : Bool) (w : World) (h : spec_l12Ok.f a0 a1 = some r) :
  Calls Try.prog 96 #[.int .i64 a0, .int .i64 a1] w fun e w' => e = .returned (.bool r) ∧ Drawn0 w w' := by
 have H : ((spec_CountBands.f a0).bind fun t296 => ((spec_l01In.f a1 0 (wrap64 (t296 - 1))).bind fun t297 => (some t297))) = some r := h
 clear h
 replace H := bN H
 obtain ⟨t296, A3, H⟩ := H
 replace H := bN H
 obtain ⟨t297, A4, H⟩ := H
 obtain rfl := Option.some.inj H
 go_enter Try.func96, Try.ntmps96
 go_wp2_with (first | ((with_reducible refine gC 67 ?_); refine cL (some 7) Try.func67 #[.int .i64 a0] ?_; (with_reducible refine (spec_CountBands.calls a0 t296 _ A3.out).mono ?_); rintro e w' ⟨rfl, ⟨nd, rfl⟩⟩; refine ⟨_, rfl, ?_⟩) | ((with_reducible refine gC 123 ?_); refine cL (some 9) Try.func123 #[.int .i64 a1, .int .i64 0, .int .i64 (wrap64 (t296 - 1))] ?_; (with_reducible refine (spec_l01In.calls a1 0 (wrap64 (t296 - 1)) t297 _ A4.out).mono ?_); rintro e w' ⟨rfl, ⟨nd, rfl⟩⟩; refine ⟨_, rfl, ?_⟩))
 go_ret
 exact ⟨fS, dS⟩

/-! ### spec_WhiteRows: function 131 -/
mutual
def spec_WhiteRows.l0 : Nat → Int → List (List Int) → Int → Option ((List (List Int)))
 | 0, _, _, _ => none
 | k + 1, x0, x3, x4 => if x4 < x0 then (spec_WhiteRows.j1 k x0 x3 x4 (decide (x0 ≤ 32))) else (spec_WhiteRows.j1 k x0 x3 x4 false)
def spec_WhiteRows.j1 : Nat → Int → List (List Int) → Int → Bool → Option ((List (List Int)))
 | 0, _, _, _, _ => none
 | k + 1, x0, x3, x4, x14 => if x14 = true then (if 32 ≤ 35184372088832 then (spec_WhiteRows.l1 k x0 x3 x4 (List.replicate 32 0) 0) else (none)) else (some x3)
def spec_WhiteRows.l1 : Nat → Int → List (List Int) → Int → List Int → Int → Option ((List (List Int)))
 | 0, _, _, _, _, _ => none
 | k + 1, x0, x3, x4, x5, x6 => if x6 < 32 then (if 0 ≤ x6 then (if x6 < (x5.length : Int) then (spec_WhiteRows.l1 k x0 x3 x4 (x5.set (x6 : Int).toNat 255) (wrap64 (x6 + 1))) else (none)) else (none)) else (if x3.length < 5864062014805 then (spec_WhiteRows.l0 k x0 (x3 ++ [x5]) (wrap64 (x4 + 1))) else (none))
end
def spec_WhiteRows.f (k : Nat) (a0 : Int) : Option ((List (List Int))) := spec_WhiteRows.l0 k a0 (([] : List (List Int))) 0
theorem spec_WhiteRows.calls (k : Nat) (a0 : Int) (r : List (List Int)) (w : World) (h : spec_WhiteRows.f k a0 = some r) :
  Calls Try.prog 131 #[.int .i64 a0] w fun e w' => ∃ v0_ : Value, e = .returned (v0_) ∧ Kd.S (Kd.slice 3 (Kd.int .i64)) 71 w' w.heap.size (fun _ => True) v0_ r ∧ Below w.heap.size w w' := by
 have HB := Aside0.mk (Below.refl w.heap.size w)
 have H : (spec_WhiteRows.l0 k a0 (([] : List (List Int))) 0) = some r := h
 clear h
 obtain ⟨y298, hy298⟩ : ∃ y_ : List (List Int), y_ = (([] : List (List Int))) := ⟨_, rfl⟩
 replace H : (spec_WhiteRows.l0 k a0 y298 0) = some r := by first | (rw [hy298]; with_reducible exact H) | (have H2_ := (Option.bind_some _ _).symm.trans H; rw [hy298]; with_reducible exact H2_) | (have H2_ := (Option.bind_some _ _).symm.trans H; with_reducible exact H2_) | with_reducible exact H | (rw [hy298]; exact H) | exact H
 have Ny298 := Aside0.mk hy298
 clear hy298
 have H' := Aside0.mk H
 clear H
 go_enter Try.func131, Try.ntmps131
 go_wp2_with (first | ((with_reducible refine gate_dst (N := 7) rfl ?_); refine Kd.S_lit (Kd.slice 3 (Kd.int .i64)) _ 71 ?hg (N := 7) ?hd (xs := ([] : List (List Int))) (inner := []) (ok := fun _ => True) (okp := fun _ => True) ?hr ?hp (fun _ hk => hk) trivial (Below.refl _ _) (Nat.le_refl _) (by simp) ?_; (case hd => rfl); (case hg => rfl); (case hr => first | (go_simp; done) | (go_simp; rfl)); (case hp => exact (Reps.none _ _)); intro v299 w2 ho3 hb hg_ hnew_; clear hg_ hnew_; (first | rw [← Ny298.out] at ho3 | (simp only [Int.reduceToNat] at ho3; rw [← Ny298.out] at ho3)); have HO300 := Aside0.mk (Kd.S_lower ho3 (below_size bS)); replace HB := hB hb; clear hb ho3))
 go_loopg [3, 4] k (fun kq v3 v4 w' => ∃ (x3_1 : List (List Int)) (x4_1 : Int), v4 = .int .i64 x4_1 ∧ Aside0 (spec_WhiteRows.l0 kq a0 x3_1 x4_1 = some r) ∧ Aside0 (kq ≤ k) ∧ Aside0 (Kd.S (Kd.slice 3 (Kd.int .i64)) 71 w' w.heap.size (fun _ => True) v3 x3_1) ∧ Aside0 (Below w.heap.size w w'))
 case atStart => exact ⟨(y298), (0), fS, H', ⟨Nat.le_refl _⟩, ⟨sS HO300⟩, ⟨bS⟩⟩
 case round =>
  clear H'
  try clear c1
  try clear p2
  obtain ⟨x3_1, x4_1, rfl, HA, HK1, HO_3, HB⟩ := hrel
  cases gk with
  | zero => exact absurd HA.out (by simp [spec_WhiteRows.l0])
  | succ k1 =>
   have H := HA.out
   clear HA
   simp only [spec_WhiteRows.l0] at H
   have HC4 := Aside0.mk H
   clear H
   go_upto_region 3 with (fail)
   go_cut [14] (fun v14 wc => ∃ (kq : Nat) (x14_3 : Bool), v14 = .bool x14_3 ∧ Aside0 (spec_WhiteRows.j1 kq a0 x3_1 x4_1 x14_3 = some r) ∧ Aside0 (kq ≤ k1) ∧ Aside0 (Kd.S (Kd.slice 3 (Kd.int .i64)) 71 wc w.heap.size (fun _ => True) u3 x3_1) ∧ Aside0 (Below w.heap.size w wc))
   case first =>
    have H := HC4.out
    clear HC4
    rcases iD H with ⟨c5b0, H⟩ | ⟨c5b0, H⟩
    ·(first | rw [c5b0] | (simp only [i64_w, i32_w]; rw [c5b0]) | skip)
     have H' := Aside0.mk H
     clear H
     go_wp2
     go_meet
     case rel => exact ⟨_, (decide (a0 ≤ 32)), fS, H', ⟨by have := HK1.out; first | omega | exact Nat.le_refl _⟩, ⟨sS HO_3⟩, ⟨bS⟩⟩
    ·(first | rw [c5b0] | (simp only [i64_w, i32_w]; rw [c5b0]) | skip)
     have H' := Aside0.mk H
     clear H
     go_wp2
     go_meet
     case rel => exact ⟨_, (false), fS, H', ⟨by have := HK1.out; first | omega | exact Nat.le_refl _⟩, ⟨sS HO_3⟩, ⟨bS⟩⟩
   case rest =>
    clear HC4
    try clear c1
    try clear p2
    try clear c5
    try clear c5b0
    try clear p2
    obtain ⟨kq, x14_3, rfl, HA, HJ3, HO_3, HB⟩ := hcut
    cases kq with
    | zero => exact absurd HA.out (by simp [spec_WhiteRows.j1])
    | succ kj3 =>
     have H := HA.out
     clear HA
     simp only [spec_WhiteRows.j1] at H
     by_cases c6 : x14_3 = true
     ·subst c6
      rw [if_pos rfl] at H
      by_cases c7 : 32 ≤ 35184372088832
      ·rw [if_pos c7] at H
       have c7b0 := eq_true c7
       have c7b1 : decide (32 ≤ 35184372088832) = true := decide_eq_true c7
       clear c7
       obtain ⟨y301, hy301⟩ : ∃ y_ : List Int, y_ = (List.replicate 32 0) := ⟨_, rfl⟩
       replace H : (spec_WhiteRows.l1 kj3 a0 x3_1 x4_1 y301 0) = some r := by first | (rw [hy301]; with_reducible exact H) | (have H2_ := (Option.bind_some _ _).symm.trans H; rw [hy301]; with_reducible exact H2_) | (have H2_ := (Option.bind_some _ _).symm.trans H; with_reducible exact H2_) | with_reducible exact H | (rw [hy301]; exact H) | exact H
       have Ny301 := Aside0.mk hy301
       clear hy301
       have H' := Aside0.mk H
       clear H
       go_wp2_with (first | ((with_reducible refine gate_dst (N := 17) rfl ?_); refine Kd.R_make (Kd.int .i64) _ 3 rfl (N := 17) rfl 71 _ _ rfl 32 rfl rfl Try.underlying71 (.int .i64 0) 8 info3 rfl (by decide) (by omega) 0 (ok := fun _ => True) (okp := fun _ => True) rfl (fun _ hk => hk) trivial (by omega) (by omega) (Below.refl _ _) (Nat.le_refl _) ?_; intro v302 w8 ho9 hb hg_ hnew_; clear hg_ hnew_; (first | rw [← Ny301.out] at ho9 | (simp only [Int.reduceToNat] at ho9; rw [← Ny301.out] at ho9)); have HO303 := Aside0.mk (Kd.R_lower ho9 (below_size bS)); replace HO_3 := Aside0.mk (Kd.S_elder' (sS HO_3) (Kd.R_base ho9) hb); replace HB := hB hb; clear hb ho9))
       go_loopg [6] kj3 (fun kq v6 w' => ∃ (x5_3 : List Int) (x6_3 : Int), v6 = .int .i64 x6_3 ∧ Aside0 (spec_WhiteRows.l1 kq a0 x3_1 x4_1 x5_3 x6_3 = some r) ∧ Aside0 (kq ≤ kj3) ∧ Aside0 (Kd.S (Kd.slice 3 (Kd.int .i64)) 71 w' w.heap.size (fun k_ => some k_ ≠ (v302 : Value).ownBlock) u3 x3_1) ∧ Aside0 (Kd.R (Kd.int .i64) 3 w' w.heap.size (fun _ => True) v302 x5_3) ∧ Aside0 (Below w.heap.size w w'))
       case atStart => exact ⟨(y301), (0), fS, H', ⟨Nat.le_refl _⟩, ⟨by exact sT (Kd.S_mono HO_3.out (fun _ hk => hk.2))⟩, ⟨rS HO303⟩, ⟨bS⟩⟩
       case round =>
        clear H'
        try clear c1
        try clear p2
        try clear c5
        try clear c5b0
        try clear c6
        try clear c7
        try clear c7b0
        try clear c7b1
        try clear p2
        obtain ⟨x5_3, x6_3, rfl, HA, HK3, HO_3, HO_5, HB⟩ := hrel
        cases gk with
        | zero => exact absurd HA.out (by simp [spec_WhiteRows.l1])
        | succ k3 =>
         have H := HA.out
         clear HA
         simp only [spec_WhiteRows.l1] at H
         rcases iD H with ⟨c10b0, H⟩ | ⟨c10b0, H⟩
         ·obtain ⟨c11b0, H⟩ := iT H
          obtain ⟨c12b0, H⟩ := iT H
          obtain ⟨y304, hy304⟩ : ∃ y_ : List Int, y_ = (x5_3.set (x6_3 : Int).toNat 255) := ⟨_, rfl⟩
          replace H : (spec_WhiteRows.l1 k3 a0 x3_1 x4_1 y304 (wrap64 (x6_3 + 1))) = some r := by first | (rw [hy304]; with_reducible exact H) | (have H2_ := (Option.bind_some _ _).symm.trans H; rw [hy304]; with_reducible exact H2_) | (have H2_ := (Option.bind_some _ _).symm.trans H; with_reducible exact H2_) | with_reducible exact H | (rw [hy304]; exact H) | exact H
          have Ny304 := Aside0.mk hy304
          clear hy304
          have H' := Aside0.mk H
          clear H
          have p13 : 0 ≤ (x6_3 : Int) := dA
          have q13 : (x6_3 : Int) < ((x5_3.length : Int) : Int) := dA
          obtain ⟨go13, co13, eo13, gb13, gl13, cl13, HG13⟩ := Kd.R_form HO_5.out (by omega)
          (first | cases eo13 | (injection eo13 with ea_ en_ ec_; (first | subst ea_ | (injection ea_ with ea_; subst ea_)); subst ec_; clear en_))
          have GB13 := Aside0.mk gb13
          have GG13 := Aside0.mk HG13
          clear gb13 gl13 HG13
          obtain ⟨hx13_0, hf13_0⟩ := Kd.R_celln 0 HO_5.out (x6_3 : Int) p13 q13
          replace p13 := eq_true p13
          replace q13 := eq_true q13
          have HP14 := Kd.R_putg HO_5.out (x6_3 : Int) 255
          go_wp2_with (first | ((with_reducible refine gate_store (t := 3) (p := 24) rfl ?_); refine store_event (t := 3) (p := 24) (v := ?vo_w15) (w1 := (wr.setCell ⟨go13, (x6_3 : Int).toNat, none⟩ (.int .i64 255))) ?hg ?ho ?hn ?hr ?_; (case ho => rfl); (case hg => rfl); (case hn => rfl); (case hr => first | (go_simp; done) | (go_simp; rfl)); intro w15 hw; have hg : wr.grownBy w15 (some go13) := (by rw [hw]; exact HP14.2); have hp_ : Kd.R (Kd.int .i64) 3 w15 w.heap.size (fun _ => True) (.slice (some ⟨go13, 0, none⟩) x5_3.length co13) y304 := (by rw [hw, Ny304.out]; exact HP14.1); clear HP14; replace HO_3 := Aside0.mk (Kd.S_after (v := (.slice (some ⟨go13, 0, none⟩) x5_3.length co13)) (v1 := (.slice (some ⟨go13, 0, none⟩) x5_3.length co13)) (ok := (fun _ => True)) (by exact sT (Kd.S_mono HO_3.out (fun _ hk => ⟨trivial, hk⟩))) hg (.inl rfl)); replace HO_5 := Aside0.mk (hp_); replace HB := Aside0.mk ((by rw [hw]; exact below_set (HB.out) GB13.out : Below w.heap.size w w15)); clear hg hw hp_))
          go_roundg k3
          case measure => have := HK1.out; have := HJ3.out; have := HK3.out; omega
          case rel => exact ⟨(y304), (wrap64 (x6_3 + 1)), fS, H', ⟨by have := HK1.out; have := HJ3.out; have := HK3.out; omega⟩, ⟨by exact sT (Kd.S_mono HO_3.out (fun _ hk => hk.2))⟩, ⟨rS HO_5⟩, ⟨bS⟩⟩
         ·obtain ⟨LMc16, H⟩ := iL H
          obtain ⟨y305, hy305⟩ : ∃ y_ : List (List Int), y_ = (x3_1 ++ [x5_3]) := ⟨_, rfl⟩
          replace H : (spec_WhiteRows.l0 k3 a0 y305 (wrap64 (x4_1 + 1))) = some r := by first | (rw [hy305]; with_reducible exact H) | (have H2_ := (Option.bind_some _ _).symm.trans H; rw [hy305]; with_reducible exact H2_) | (have H2_ := (Option.bind_some _ _).symm.trans H; with_reducible exact H2_) | with_reducible exact H | (rw [hy305]; exact H) | exact H
          have Ny305 := Aside0.mk hy305
          clear hy305
          have H' := Aside0.mk H
          clear H
          obtain ⟨Ao18, co18, eo18⟩ := Kd.R_slice HO_5.out
          subst eo18
          go_wp2_with (first | ((with_reducible refine gate_builtin (b := .append) (xs := #[.tmp 25, .tmp 27]) rfl ?_); at_builtin; refine Kd.S_append (Kd.slice 3 (Kd.int .i64)) (w0 := w) w.heap.size rfl (.tmp 25) (.tmp 27) 27 71 (.slice none 0 0) 24 rfl Try.underlying27 info71 rfl (by decide) (by omega) u3 x3_1 x5_3 [.slice Ao18 x5_3.length co18] (fun _ => True) (fun k_ => some k_ = (.slice Ao18 x5_3.length co18 : Value).ownBlock) rfl rfl ?aP (fun k_ hk_ => ((Kd.R_mono (ok' := fun k_ => ((fun _ => True)) k_ ∧ some k_ ≠ (u3 : Value).ownBlock) (Kd.R_apart' (HO_5.out) (Kd.S_typed HO_3.out) (by decide)) (fun k_ hk => ⟨trivial, hk.2⟩))).1 k_ hk_.symm) ?aF ?aO ?aB ?aS ?aL ?_; (case aP => exact Kd.M_row (Kd.R_mono (Kd.R_tight rfl (Kd.R_mono (ok' := fun k_ => ((fun _ => True)) k_ ∧ some k_ ≠ (u3 : Value).ownBlock) (Kd.R_apart' (HO_5.out) (Kd.S_typed HO_3.out) (by decide)) (fun k_ hk => ⟨trivial, hk.2⟩))) (fun _ h_ => h_))); (case aB => exact bS); (case aF => exact (fun _ _ => trivial)); (case aO => exact (by exact sT (Kd.S_mono HO_3.out (fun k_ hk => ⟨trivial, fun e_ => hk e_⟩)))); (case aS => exact (below_size bS)); (case aL => have := LMc16.out; omega); intro v306 w17 ho hb hg hat; rw [← Ny305.out] at ho; have HO307 := Aside0.mk (ho); replace HB := Aside0.mk (hb); clear HO_3 HO_5; clear ho hb hg hat))
          go_roundg k3
          case measure => have := HK1.out; have := HJ3.out; have := HK3.out; omega
          case rel => exact ⟨(y305), (wrap64 (x4_1 + 1)), fS, H', ⟨by have := HK1.out; have := HJ3.out; have := HK3.out; omega⟩, ⟨sS HO307⟩, ⟨bS⟩⟩
      ·rw [if_neg c7] at H
       exact absurd H (by simp)
     ·obtain rfl := Bool.eq_false_iff.mpr c6
      rw [if_neg nF] at H
      obtain rfl := Option.some.inj H
      go_wp2
      go_ret
      exact ⟨_, eS, sS HO_3, bS⟩

/-! ### spec_NewBand: function 179 -/
def spec_NewBand.f (k : Nat) (a0 : Int) (a1 : Int) : Option (Int × Int × (List (List Int)) × (List (S45)) × Bool) := (spec_l12Ok.f a0 a1).bind fun t309 => (if t309 = true then ((spec_WhiteRows.f k a0).bind fun t310 => (some (a0, a1, t310, ([] : List (S45)), true))) else (some (0, 0, ([] : List (List Int)), ([] : List (S45)), false)))
theorem spec_NewBand.calls (k : Nat) (a0 : Int) (a1 : Int) (r1 : Int) (r2 : Int) (r3 : List (List Int)) (r4 : List (S45)) (r5 : Bool) (w : World) (h : spec_NewBand.f k a0 a1 = some (r1, r2, r3, r4, r5)) :
  Calls Try.prog 179 #[.int .i64 a0, .int .i64 a1] w fun e w' => ∃ v2_ v3_ : Value, e = .returned (.tuple #[.agg #[.int .i64 r1, .int .i64 r2, v2_, v3_], .bool r5]) ∧ Kd.S (Kd.slice 3 (Kd.int .i64)) 71 w' w.heap.size (fun _ => True) v2_ r3 ∧ Kd.S k45 45 w' w.heap.size (fun _ => True) v3_ r4 ∧ Below w.heap.size w w' := by
 have hu58 := Try.underlying58
 have HB := Aside0.mk (Below.refl w.heap.size w)
 have H : ((spec_l12Ok.f a0 a1).bind fun t309 => (if t309 = true then ((spec_WhiteRows.f k a0).bind fun t310 => (some (a0, a1, t310, ([] : List (S45)), true))) else (some (0, 0, ([] : List (List Int)), ([] : List (S45)), false)))) = some (r1, r2, r3, r4, r5) := h
 clear h
 replace H := bN H
 obtain ⟨t309, A3, H⟩ := H
 by_cases c4 : t309 = true
 ·subst c4
  rw [if_pos rfl] at H
  replace H := bN H
  obtain ⟨t310, A5, H⟩ := H
  obtain ⟨rfl, rfl, rfl, rfl, rfl⟩ := sI5 H
  go_enter Try.func179, Try.ntmps179
  go_wp2_with (first | ((with_reducible refine gD 4 ?_); refine bxE #[.int .i64 0, .int .i64 0, .slice none 0 0, .slice none 0 0] 58 ?_; intro gb308 hg w6 BK308 hb; have GW308 := gE hg; have GE308 := gE hg; replace HB := hB hb; clear hb hg) | ((with_reducible refine gC 96 ?_); refine cL (some 8) Try.func96 #[.int .i64 a0, .int .i64 a1] ?_; (with_reducible refine (spec_l12Ok.calls a0 a1 _ _ A3.out).mono ?_); rintro e w' ⟨rfl, ⟨nd, rfl⟩⟩; refine ⟨_, rfl, ?_⟩; (try (rw [drewN_self w6]; generalize hq_ : World.drewN w6 _ = w6; replace BK308 : Aside0 (w6.heap[gb308]? = some (.cells #[.int .i64 0, .int .i64 0, .slice none 0 0, .slice none 0 0] 58 (0, 0))) := ⟨by rw [← hq_]; exact kS⟩; replace HB : Aside0 (Below w.heap.size w w6) := ⟨by rw [← hq_]; exact bS⟩; clear hq_))) | ((with_reducible refine gC 131 ?_); refine cL (some 14) Try.func131 #[.int .i64 a0] ?_; (with_reducible refine (spec_WhiteRows.calls k a0 t310 _ A5.out).mono ?_); rintro e w7 ⟨v311, rfl, ho0, hb⟩; refine ⟨_, rfl, ?_⟩; have HO312 := Aside0.mk (Kd.S_lower ho0 (below_size bS)); replace BK308 := kB (g := gb308) hb; replace HB := hB hb; (try clear hb); (try clear hb2); (try clear hk); (try clear hi); (try clear ho0); obtain ⟨Ao8, co8, eo8⟩ := Kd.S_slice HO312.out; subst eo8; have hz9 := cz4 BK308))
  refine bodyPost_ret (results_ct rfl _ _ gb308 58 #[.int .i64 a0, .int .i64 a1, .slice Ao8 t310.length co8, .slice none 0 0] (0, 0) _ rfl kS Try.underlying58 rfl (by kernel_rfl)) rfl ?_
  exact ⟨_, _, eS, by exact sT (Kd.S_mono (Kd.S_far (p := ⟨gb308, 3, none⟩) (Kd.S_far (p := ⟨gb308, 2, none⟩) (Kd.S_far (p := ⟨gb308, 1, none⟩) (Kd.S_far (p := ⟨gb308, 0, none⟩) (Kd.S_types HO312.out BK308.out (by decide)) (fun _ hk => hk.2) (.int .i64 a0)) (fun _ hk => hk.2) (.int .i64 a1)) (fun _ hk => hk.2) (.slice Ao8 t310.length co8)) (fun _ hk => hk.2) (.slice none 0 0)) (fun _ hk => trivial)), by first | exact Kd.S_nil _ _ _ _ _ | exact Kd.N_nil _ _ _ _ _ | exact Kd.V_nil _ _ _ _ _ | exact Kd.Q_nil _ _ _ _ _ | exact Kd.R_nil _ _ _ _ _, bS⟩
 ·obtain rfl := Bool.eq_false_iff.mpr c4
  rw [if_neg nF] at H
  obtain ⟨rfl, rfl, rfl, rfl, rfl⟩ := sI5 H
  go_enter Try.func179, Try.ntmps179
  go_wp2_with (first | ((with_reducible refine gD 4 ?_); refine bxE #[.int .i64 0, .int .i64 0, .slice none 0 0, .slice none 0 0] 58 ?_; intro gb308 hg w10 BK308 hb; have GW308 := gE hg; have GE308 := gE hg; replace HB := hB hb; clear hb hg) | ((with_reducible refine gC 96 ?_); refine cL (some 8) Try.func96 #[.int .i64 a0, .int .i64 a1] ?_; (with_reducible refine (spec_l12Ok.calls a0 a1 _ _ A3.out).mono ?_); rintro e w' ⟨rfl, ⟨nd, rfl⟩⟩; refine ⟨_, rfl, ?_⟩; (try (rw [drewN_self w10]; generalize hq_ : World.drewN w10 _ = w10; replace BK308 : Aside0 (w10.heap[gb308]? = some (.cells #[.int .i64 0, .int .i64 0, .slice none 0 0, .slice none 0 0] 58 (0, 0))) := ⟨by rw [← hq_]; exact kS⟩; replace HB : Aside0 (Below w.heap.size w w10) := ⟨by rw [← hq_]; exact bS⟩; clear hq_)); have hz11 := cz4 BK308))
  refine bodyPost_ret (results_ct rfl _ _ gb308 58 #[.int .i64 0, .int .i64 0, .slice none 0 0, .slice none 0 0] (0, 0) _ rfl kS Try.underlying58 rfl (by kernel_rfl)) rfl ?_
  exact ⟨_, _, eS, by first | exact Kd.S_nil _ _ _ _ _ | exact Kd.N_nil _ _ _ _ _ | exact Kd.V_nil _ _ _ _ _ | exact Kd.Q_nil _ _ _ _ _ | exact Kd.R_nil _ _ _ _ _, by first | exact Kd.S_nil _ _ _ _ _ | exact Kd.N_nil _ _ _ _ _ | exact Kd.V_nil _ _ _ _ _ | exact Kd.Q_nil _ _ _ _ _ | exact Kd.R_nil _ _ _ _ _, bS⟩

/-! ### spec_l02In: function 148 -/
def spec_l02In.f (a0 : Int) : Option (Bool) := (spec_l01In.f a0 (-200) 200).bind fun t313 => (some t313)
theorem spec_l02In.calls (a0 : Int) (r : Bool) (w : World) (h : spec_l02In.f a0 = some r) :
  Calls Try.prog 148 #[.int .i64 a0] w fun e w' => e = .returned (.bool r) ∧ Drawn0 w w' := by
 have H : ((spec_l01In.f a0 (-200) 200).bind fun t313 => (some t313)) = some r := h
 clear h
 replace H := bN H
 obtain ⟨t313, A2, H⟩ := H
 obtain rfl := Option.some.inj H
 go_enter Try.func148, Try.ntmps148
 go_wp2_with (first | ((with_reducible refine gC 123 ?_); refine cL (some 4) Try.func123 #[.int .i64 a0, .int .i64 (-200), .int .i64 200] ?_; (with_reducible refine (spec_l01In.calls a0 (-200) 200 t313 _ A2.out).mono ?_); rintro e w' ⟨rfl, ⟨nd, rfl⟩⟩; refine ⟨_, rfl, ?_⟩))
 go_ret
 exact ⟨fS, dS⟩

/-! ### spec_BoxOk: function 145 -/
def spec_BoxOk.f (a0_0 : Int) (a0_1 : Int) (a0_2 : Int) (a0_3 : Int) : Option (Bool) := (spec_l02In.f a0_0).bind fun t315 => (if t315 = true then ((spec_l02In.f a0_1).bind fun t316 => (if t316 = true then ((spec_l02In.f a0_2).bind fun t317 => (if t317 = true then ((spec_l02In.f a0_3).bind fun t318 => (if t318 = true then (if a0_0 ≤ a0_2 then (some (decide (a0_1 ≤ a0_3))) else (some false)) else (some false))) else (some false))) else (some false))) else (some false))
theorem spec_BoxOk.lf0 {p : Prop} (h : p := by
 go_enter Try.func145, Try.ntmps145
 go_wp2_with (first | ((with_reducible refine gD 1 ?_); refine bxE #[.int .i64 a0_0, .int .i64 a0_1, .int .i64 a0_2, .int .i64 a0_3] 43 ?_; intro gb314 hg w11 BK314 hb; have GW314 := gE hg; have GE314 := gE hg; replace HB := hB hb; clear hb hg; have hz12 := cz4 BK314) | ((with_reducible refine gC 148 ?_); refine cL (some 5) Try.func148 #[.int .i64 a0_0] ?_; (with_reducible refine (spec_l02In.calls a0_0 _ _ A2.out).mono ?_); rintro e w' ⟨rfl, ⟨nd, rfl⟩⟩; refine ⟨_, rfl, ?_⟩) | (go_at_call 148; (with_reducible refine (spec_l02In.calls a0_1 _ _ A4.out).mono ?_); rintro e w' ⟨rfl, ⟨nd, rfl⟩⟩) | (go_at_call 148; (with_reducible refine (spec_l02In.calls a0_2 _ _ A6.out).mono ?_); rintro e w' ⟨rfl, ⟨nd, rfl⟩⟩) | (go_at_call 148; (with_reducible refine (spec_l02In.calls a0_3 _ _ A8.out).mono ?_); rintro e w' ⟨rfl, ⟨nd, rfl⟩⟩))
 go_ret
 exact ⟨eS, bS⟩) : p := h
theorem spec_BoxOk.calls (a0_0 : Int) (a0_1 : Int) (a0_2 : Int) (a0_3 : Int) (r : Bool) (w : World) (h : spec_BoxOk.f a0_0 a0_1 a0_2 a0_3 = some r) :
  Calls Try.prog 145 #[.agg #[.int .i64 a0_0, .int .i64 a0_1, .int .i64 a0_2, .int .i64 a0_3]] w fun e w' => e = .returned (.bool r) ∧ Below w.heap.size w w' := by
 have hu43 := Try.underlying43
 have HB := Aside0.mk (Below.refl w.heap.size w)
 have H : ((spec_l02In.f a0_0).bind fun t315 => (if t315 = true then ((spec_l02In.f a0_1).bind fun t316 => (if t316 = true then ((spec_l02In.f a0_2).bind fun t317 => (if t317 = true then ((spec_l02In.f a0_3).bind fun t318 => (if t318 = true then (if a0_0 ≤ a0_2 then (some (decide (a0_1 ≤ a0_3))) else (some false)) else (some false))) else (some false))) else (some false))) else (some false))) = some r := h
 clear h
 replace H := bN H
 obtain ⟨t315, A2, H⟩ := H
 by_cases c3 : t315 = true
 ·subst c3
  rw [if_pos rfl] at H
  replace H := bN H
  obtain ⟨t316, A4, H⟩ := H
  by_cases c5 : t316 = true
  ·subst c5
   rw [if_pos rfl] at H
   replace H := bN H
   obtain ⟨t317, A6, H⟩ := H
   by_cases c7 : t317 = true
   ·subst c7
    rw [if_pos rfl] at H
    replace H := bN H
    obtain ⟨t318, A8, H⟩ := H
    by_cases c9 : t318 = true
    ·subst c9
     rw [if_pos rfl] at H
     rcases iD H with ⟨c10b0, H⟩ | ⟨c10b0, H⟩
     ·obtain rfl := Option.some.inj H
      exact spec_BoxOk.lf0
     ·obtain rfl := Option.some.inj H
      exact spec_BoxOk.lf0
    ·obtain rfl := Bool.eq_false_iff.mpr c9
     rw [if_neg nF] at H
     obtain rfl := Option.some.inj H
     exact spec_BoxOk.lf0
   ·obtain rfl := Bool.eq_false_iff.mpr c7
    rw [if_neg nF] at H
    obtain rfl := Option.some.inj H
    exact spec_BoxOk.lf0
  ·obtain rfl := Bool.eq_false_iff.mpr c5
   rw [if_neg nF] at H
   obtain rfl := Option.some.inj H
   exact spec_BoxOk.lf0
 ·obtain rfl := Bool.eq_false_iff.mpr c3
  rw [if_neg nF] at H
  obtain rfl := Option.some.inj H
  exact spec_BoxOk.lf0

/-! ### spec_PointOk: function 186 -/
def spec_PointOk.f (a0_0 : Int) (a0_1 : Int) : Option (Bool) := (spec_l02In.f a0_0).bind fun t320 => (if t320 = true then ((spec_l02In.f a0_1).bind fun t321 => (some t321)) else (some false))
theorem spec_PointOk.lf0 {p : Prop} (h : p := by
 go_enter Try.func186, Try.ntmps186
 go_wp2_with (first | ((with_reducible refine gD 1 ?_); refine bxE #[.int .i64 a0_0, .int .i64 a0_1] 171 ?_; intro gb319 hg w5 BK319 hb; have GW319 := gE hg; have GE319 := gE hg; replace HB := hB hb; clear hb hg; have hz6 := cz2 BK319) | ((with_reducible refine gC 148 ?_); refine cL (some 5) Try.func148 #[.int .i64 a0_0] ?_; (with_reducible refine (spec_l02In.calls a0_0 _ _ A2.out).mono ?_); rintro e w' ⟨rfl, ⟨nd, rfl⟩⟩; refine ⟨_, rfl, ?_⟩) | (go_at_call 148; (with_reducible refine (spec_l02In.calls a0_1 t321 _ A4.out).mono ?_); rintro e w' ⟨rfl, ⟨nd, rfl⟩⟩))
 go_ret
 exact ⟨eS, bS⟩) : p := h
theorem spec_PointOk.calls (a0_0 : Int) (a0_1 : Int) (r : Bool) (w : World) (h : spec_PointOk.f a0_0 a0_1 = some r) :
  Calls Try.prog 186 #[.agg #[.int .i64 a0_0, .int .i64 a0_1]] w fun e w' => e = .returned (.bool r) ∧ Below w.heap.size w w' := by
 have hu171 := Try.underlying171
 have HB := Aside0.mk (Below.refl w.heap.size w)
 have H : ((spec_l02In.f a0_0).bind fun t320 => (if t320 = true then ((spec_l02In.f a0_1).bind fun t321 => (some t321)) else (some false))) = some r := h
 clear h
 replace H := bN H
 obtain ⟨t320, A2, H⟩ := H
 by_cases c3 : t320 = true
 ·subst c3
  rw [if_pos rfl] at H
  replace H := bN H
  obtain ⟨t321, A4, H⟩ := H
  obtain rfl := Option.some.inj H
  exact spec_PointOk.lf0
 ·obtain rfl := Bool.eq_false_iff.mpr c3
  rw [if_neg nF] at H
  obtain rfl := Option.some.inj H
  exact spec_PointOk.lf0

/-! ### spec_l07Points: function 147 -/
def spec_l07Points.l0 : Nat → List (S171) → Int → Option (Bool)
 | 0, _, _ => none
 | k + 1, x0, x3 => if x3 < (x0.length : Int) then (if 0 ≤ x3 then ((spec_PointOk.f ((rd_T171 x0 x3).f0) ((rd_T171 x0 x3).f1)).bind fun t323 => (if t323 = true then (spec_l07Points.l0 k x0 (wrap64 (x3 + 1))) else (some false))) else (none)) else (some (decide ((x0.length : Int) ≤ 8)))
def spec_l07Points.f (k : Nat) (l0 : List (S171)) : Option (Bool) := spec_l07Points.l0 k l0 0
theorem spec_l07Points.calls (k : Nat) (A0 : Option Addr) (c0 : Nat) (l0 : List (S171)) (r : Bool) (w : World) (hr0 : Kd.C k171 w A0 l0.length l0) (hc0 : l0.length ≤ c0) (h : spec_l07Points.f k l0 = some r) :
  Calls Try.prog 147 #[.slice A0 l0.length c0] w fun e w' => e = .returned (.bool r) ∧ Below w.heap.size w w' := by
 have hu171 := Try.underlying171
 have HR0 := Aside0.mk hr0
 have HC0 := Aside0.mk hc0
 clear hr0 hc0
 have HB := Aside0.mk (Below.refl w.heap.size w)
 have H : (spec_l07Points.l0 k l0 0) = some r := h
 clear h
 have H' := Aside0.mk H
 clear H
 go_enter Try.func147, Try.ntmps147
 go_wp2
 go_loopg [3] k (fun kq v3 w' => ∃ (x3_1 : Int), v3 = .int .i64 x3_1 ∧ Aside0 (spec_l07Points.l0 kq l0 x3_1 = some r) ∧ Aside0 (kq ≤ k) ∧ Aside0 (Below w.heap.size w w'))
 case atStart => exact ⟨(0), fS, H', ⟨Nat.le_refl _⟩, ⟨bS⟩⟩
 case round =>
  clear H'
  try clear c1
  obtain ⟨x3_1, rfl, HA, HK1, HB⟩ := hrel
  cases gk with
  | zero => exact absurd HA.out (by simp [spec_l07Points.l0])
  | succ k1 =>
   have H := HA.out
   clear HA
   simp only [spec_l07Points.l0] at H
   rcases iD H with ⟨c2b0, H⟩ | ⟨c2b0, H⟩
   ·obtain ⟨c3b0, H⟩ := iT H
    replace H := bN H
    obtain ⟨t323, A4, H⟩ := H
    by_cases c5 : t323 = true
    ·subst c5
     rw [if_pos rfl] at H
     have H' := Aside0.mk H
     clear H
     have p322 : 0 ≤ (x3_1 : Int) := dA
     have q322 : x3_1 < (l0.length : Int) := dA
     obtain ⟨ad322, e322, hx322_0, hx322_1⟩ := at_T171 HR0.out x3_1 p322 q322
     cases e322
     replace hx322_0 := cB HB hx322_0
     replace hx322_1 := cB HB hx322_1
     replace p322 := eq_true p322
     replace q322 := eq_true q322
     go_wp2_with (first | ((with_reducible refine gC 186 ?_); refine cL (some 14) Try.func186 #[.agg #[.int .i64 ((rd_T171 l0 x3_1).f0), .int .i64 ((rd_T171 l0 x3_1).f1)]] ?_; (with_reducible refine (spec_PointOk.calls ((rd_T171 l0 x3_1).f0) ((rd_T171 l0 x3_1).f1) _ _ A4.out).mono ?_); rintro e w6 ⟨rfl, hb⟩; refine ⟨_, rfl, ?_⟩; replace HB := hB hb; (try clear hb); (try clear hb2); (try clear hk); (try clear hi)))
     go_roundg k1
     case measure => have := HK1.out; omega
     case rel => exact ⟨(wrap64 (x3_1 + 1)), fS, H', ⟨by have := HK1.out; omega⟩, ⟨bS⟩⟩
    ·obtain rfl := Bool.eq_false_iff.mpr c5
     rw [if_neg nF] at H
     obtain rfl := Option.some.inj H
     have p322 : 0 ≤ (x3_1 : Int) := dA
     have q322 : x3_1 < (l0.length : Int) := dA
     obtain ⟨ad322, e322, hx322_0, hx322_1⟩ := at_T171 HR0.out x3_1 p322 q322
     cases e322
     replace hx322_0 := cB HB hx322_0
     replace hx322_1 := cB HB hx322_1
     replace p322 := eq_true p322
     replace q322 := eq_true q322
     go_wp2_with (first | ((with_reducible refine gC 186 ?_); refine cL (some 14) Try.func186 #[.agg #[.int .i64 ((rd_T171 l0 x3_1).f0), .int .i64 ((rd_T171 l0 x3_1).f1)]] ?_; (with_reducible refine (spec_PointOk.calls ((rd_T171 l0 x3_1).f0) ((rd_T171 l0 x3_1).f1) _ _ A4.out).mono ?_); rintro e w7 ⟨rfl, hb⟩; refine ⟨_, rfl, ?_⟩; replace HB := hB hb; (try clear hb); (try clear hb2); (try clear hk); (try clear hi)))
     go_ret
     exact ⟨eS, bS⟩
   ·obtain rfl := Option.some.inj H
    go_wp2
    go_ret
    exact ⟨eS, bS⟩

/-! ### spec_l07Object: function 160 -/
def spec_l07Object.f (k : Nat) (l0_0 : List (S171)) (a0_1 : Int) (a0_2 : Int) (a0_3 : Int) (a0_4 : Int) (a0_5 : Int) : Option (Bool) := if (l0_0.length : Int) ≥ 3 then ((spec_l07Points.f k l0_0).bind fun t325 => (if t325 = true then ((spec_l01In.f a0_1 0 255).bind fun t326 => (if t326 = true then ((spec_BoxOk.f a0_2 a0_3 a0_4 a0_5).bind fun t327 => (some t327)) else (some false))) else (some false))) else (some false)
theorem spec_l07Object.lf0 {p : Prop} (h : p := by
 go_enter Try.func160, Try.ntmps160
 go_wp2_with (first | ((with_reducible refine gD 1 ?_); refine bxE #[.slice A0_0 l0_0.length c0_0, .int .i64 a0_1, .int .i64 a0_2, .int .i64 a0_3, .int .i64 a0_4, .int .i64 a0_5] 45 ?_; intro gb324 hg w8 BK324 hb; have GW324 := gE hg; have GE324 := gE hg; replace HB := hB hb; clear hb hg; have hz9 := cz6 BK324) | (go_at_call 147; (with_reducible refine (spec_l07Points.calls k _ _ l0_0 _ _ (cS (Kd.C_below HR0_0.out HB.out)) HC0_0.out A3.out).mono ?_); rintro e w10 ⟨rfl, hb⟩; replace BK324 := kB (g := gb324) hb; replace HB := hB hb; (try clear hb); (try clear hb2); (try clear hk); (try clear hi); have hz11 := cz6 BK324) | (go_at_call 123; (with_reducible refine (spec_l01In.calls a0_1 0 255 _ _ A5.out).mono ?_); rintro e w' ⟨rfl, ⟨nd, rfl⟩⟩) | (go_at_call 145; (with_reducible refine (spec_BoxOk.calls a0_2 a0_3 a0_4 a0_5 t327 _ A7.out).mono ?_); rintro e w12 ⟨rfl, hb⟩; replace BK324 := kB (g := gb324) hb; replace HB := hB hb; (try clear hb); (try clear hb2); (try clear hk); (try clear hi)))
 go_ret
 exact ⟨eS, bS⟩) : p := h
theorem spec_l07Object.calls (k : Nat) (A0_0 : Option Addr) (c0_0 : Nat) (l0_0 : List (S171)) (a0_1 : Int) (a0_2 : Int) (a0_3 : Int) (a0_4 : Int) (a0_5 : Int) (r : Bool) (w : World) (hr0_0 : Kd.C k171 w A0_0 l0_0.length l0_0) (hc0_0 : l0_0.length ≤ c0_0) (h : spec_l07Object.f k l0_0 a0_1 a0_2 a0_3 a0_4 a0_5 = some r) :
  Calls Try.prog 160 #[.agg #[.slice A0_0 l0_0.length c0_0, .int .i64 a0_1, .int .i64 a0_2, .int .i64 a0_3, .int .i64 a0_4, .int .i64 a0_5]] w fun e w' => e = .returned (.bool r) ∧ Below w.heap.size w w' := by
 have hu45 := Try.underlying45
 have hu43 := Try.underlying43
 have HR0_0 := Aside0.mk hr0_0
 have HC0_0 := Aside0.mk hc0_0
 clear hr0_0 hc0_0
 have HB := Aside0.mk (Below.refl w.heap.size w)
 have H : (if (l0_0.length : Int) ≥ 3 then ((spec_l07Points.f k l0_0).bind fun t325 => (if t325 = true then ((spec_l01In.f a0_1 0 255).bind fun t326 => (if t326 = true then ((spec_BoxOk.f a0_2 a0_3 a0_4 a0_5).bind fun t327 => (some t327)) else (some false))) else (some false))) else (some false)) = some r := h
 clear h
 by_cases c2 : (l0_0.length : Int) ≥ 3
 ·rw [if_pos c2] at H
  have c2b0 : decide (3 ≤ (l0_0.length : Int)) = true := decide_eq_true c2
  have c2b1 : decide (3 ≤ l0_0.length) = true := decide_eq_true (by omega)
  clear c2
  replace H := bN H
  obtain ⟨t325, A3, H⟩ := H
  by_cases c4 : t325 = true
  ·subst c4
   rw [if_pos rfl] at H
   replace H := bN H
   obtain ⟨t326, A5, H⟩ := H
   by_cases c6 : t326 = true
   ·subst c6
    rw [if_pos rfl] at H
    replace H := bN H
    obtain ⟨t327, A7, H⟩ := H
    obtain rfl := Option.some.inj H
    exact spec_l07Object.lf0
   ·obtain rfl := Bool.eq_false_iff.mpr c6
    rw [if_neg nF] at H
    obtain rfl := Option.some.inj H
    exact spec_l07Object.lf0
  ·obtain rfl := Bool.eq_false_iff.mpr c4
   rw [if_neg nF] at H
   obtain rfl := Option.some.inj H
   go_enter Try.func160, Try.ntmps160
   go_wp2_with (first | ((with_reducible refine gD 1 ?_); refine bxE #[.slice A0_0 l0_0.length c0_0, .int .i64 a0_1, .int .i64 a0_2, .int .i64 a0_3, .int .i64 a0_4, .int .i64 a0_5] 45 ?_; intro gb324 hg w17 BK324 hb; have GW324 := gE hg; have GE324 := gE hg; replace HB := hB hb; clear hb hg; have hz18 := cz6 BK324) | (go_at_call 147; (with_reducible refine (spec_l07Points.calls k _ _ l0_0 _ _ (cS (Kd.C_below HR0_0.out HB.out)) HC0_0.out A3.out).mono ?_); rintro e w19 ⟨rfl, hb⟩; replace BK324 := kB (g := gb324) hb; replace HB := hB hb; (try clear hb); (try clear hb2); (try clear hk); (try clear hi)))
   go_ret
   exact ⟨eS, bS⟩
 ·rw [if_neg c2] at H
  have c2b0 : decide (3 ≤ (l0_0.length : Int)) = false := decide_eq_false c2
  have c2b1 : decide (3 ≤ l0_0.length) = false := decide_eq_false (by omega)
  clear c2
  obtain rfl := Option.some.inj H
  exact spec_l07Object.lf0

/-! ### spec_ObjectOk: function 95 -/
def spec_ObjectOk.f (k : Nat) (l0_0 : List (S171)) (a0_1 : Int) (a0_2 : Int) (a0_3 : Int) (a0_4 : Int) (a0_5 : Int) : Option (Bool) := (spec_l07Object.f k l0_0 a0_1 a0_2 a0_3 a0_4 a0_5).bind fun t329 => (some t329)
theorem spec_ObjectOk.calls (k : Nat) (A0_0 : Option Addr) (c0_0 : Nat) (l0_0 : List (S171)) (a0_1 : Int) (a0_2 : Int) (a0_3 : Int) (a0_4 : Int) (a0_5 : Int) (r : Bool) (w : World) (hr0_0 : Kd.C k171 w A0_0 l0_0.length l0_0) (hc0_0 : l0_0.length ≤ c0_0) (h : spec_ObjectOk.f k l0_0 a0_1 a0_2 a0_3 a0_4 a0_5 = some r) :
  Calls Try.prog 95 #[.agg #[.slice A0_0 l0_0.length c0_0, .int .i64 a0_1, .int .i64 a0_2, .int .i64 a0_3, .int .i64 a0_4, .int .i64 a0_5]] w fun e w' => e = .returned (.bool r) ∧ Below w.heap.size w w' := by
 have hu45 := Try.underlying45
 have HR0_0 := Aside0.mk hr0_0
 have HC0_0 := Aside0.mk hc0_0
 clear hr0_0 hc0_0
 have HB := Aside0.mk (Below.refl w.heap.size w)
 have H : ((spec_l07Object.f k l0_0 a0_1 a0_2 a0_3 a0_4 a0_5).bind fun t329 => (some t329)) = some r := h
 clear h
 replace H := bN H
 obtain ⟨t329, A2, H⟩ := H
 obtain rfl := Option.some.inj H
 go_enter Try.func95, Try.ntmps95
 go_wp2_with (first | ((with_reducible refine gD 1 ?_); refine bxE #[.slice A0_0 l0_0.length c0_0, .int .i64 a0_1, .int .i64 a0_2, .int .i64 a0_3, .int .i64 a0_4, .int .i64 a0_5] 45 ?_; intro gb328 hg w3 BK328 hb; have GW328 := gE hg; have GE328 := gE hg; replace HB := hB hb; clear hb hg; have hz4 := cz6 BK328) | ((with_reducible refine gC 160 ?_); refine cL (some 4) Try.func160 #[.agg #[.slice A0_0 l0_0.length c0_0, .int .i64 a0_1, .int .i64 a0_2, .int .i64 a0_3, .int .i64 a0_4, .int .i64 a0_5]] ?_; (with_reducible refine (spec_l07Object.calls k _ _ l0_0 a0_1 a0_2 a0_3 a0_4 a0_5 t329 _ (cS (Kd.C_below HR0_0.out HB.out)) HC0_0.out A2.out).mono ?_); rintro e w5 ⟨rfl, hb⟩; refine ⟨_, rfl, ?_⟩; replace BK328 := kB (g := gb328) hb; replace HB := hB hb; (try clear hb); (try clear hb2); (try clear hk); (try clear hi)))
 go_ret
 exact ⟨eS, bS⟩

/-! ### spec_l11Row: function 161 -/
def spec_l11Row.l0 : Nat → List Int → Int → Option (Bool)
 | 0, _, _ => none
 | k + 1, x0, x3 => if x3 < (x0.length : Int) then (if 0 ≤ x3 then ((spec_l01In.f (rd x0 x3) 0 255).bind fun t331 => (if t331 = true then (spec_l11Row.l0 k x0 (wrap64 (x3 + 1))) else (some false))) else (none)) else (some ((x0.length : Int) == 32))
def spec_l11Row.f (k : Nat) (l0 : List Int) : Option (Bool) := spec_l11Row.l0 k l0 0
theorem spec_l11Row.calls (k : Nat) (A0 : Option Addr) (c0 : Nat) (l0 : List Int) (r : Bool) (w : World) (hr0 : Kd.C (Kd.int .i64) w A0 l0.length l0) (hc0 : l0.length ≤ c0) (h : spec_l11Row.f k l0 = some r) :
  Calls Try.prog 161 #[.slice A0 l0.length c0] w fun e w' => e = .returned (.bool r) ∧ Drawn0 w w' := by
 have HR0 := Aside0.mk hr0
 have HC0 := Aside0.mk hc0
 clear hr0 hc0
 have H : (spec_l11Row.l0 k l0 0) = some r := h
 clear h
 have H' := Aside0.mk H
 clear H
 go_enter Try.func161, Try.ntmps161
 go_wp2
 go_loopg [3] k (fun kq v3 w' => ∃ (x3_1 : Int), v3 = .int .i64 x3_1 ∧ Aside0 (spec_l11Row.l0 kq l0 x3_1 = some r) ∧ Aside0 (kq ≤ k) ∧ Drawn0 w w')
 case atStart => exact ⟨(0), fS, H', ⟨Nat.le_refl _⟩, dS⟩
 case round =>
  clear H'
  try clear c1
  obtain ⟨x3_1, rfl, HA, HK1, ⟨m1, rfl⟩⟩ := hrel
  cases gk with
  | zero => exact absurd HA.out (by simp [spec_l11Row.l0])
  | succ k1 =>
   have H := HA.out
   clear HA
   simp only [spec_l11Row.l0] at H
   rcases iD H with ⟨c2b0, H⟩ | ⟨c2b0, H⟩
   ·obtain ⟨c3b0, H⟩ := iT H
    replace H := bN H
    obtain ⟨t331, A4, H⟩ := H
    by_cases c5 : t331 = true
    ·subst c5
     rw [if_pos rfl] at H
     have H' := Aside0.mk H
     clear H
     have p330 : 0 ≤ (x3_1 : Int) := dA
     have q330 : x3_1 < (l0.length : Int) := dA
     obtain ⟨ad330, e330, hx330_0⟩ := Kd.at_int HR0.out x3_1 p330 q330
     cases e330
     replace p330 := eq_true p330
     replace q330 := eq_true q330
     go_wp2_with (first | ((with_reducible refine gC 123 ?_); refine cL (some 14) Try.func123 #[.int .i64 (rd l0 x3_1), .int .i64 0, .int .i64 255] ?_; (with_reducible refine (spec_l01In.calls (rd l0 x3_1) 0 255 _ _ A4.out).mono ?_); rintro e w' ⟨rfl, ⟨nd, rfl⟩⟩; refine ⟨_, rfl, ?_⟩))
     go_roundg k1
     case measure => have := HK1.out; omega
     case rel => exact ⟨(wrap64 (x3_1 + 1)), fS, H', ⟨by have := HK1.out; omega⟩, dS⟩
    ·obtain rfl := Bool.eq_false_iff.mpr c5
     rw [if_neg nF] at H
     obtain rfl := Option.some.inj H
     have p330 : 0 ≤ (x3_1 : Int) := dA
     have q330 : x3_1 < (l0.length : Int) := dA
     obtain ⟨ad330, e330, hx330_0⟩ := Kd.at_int HR0.out x3_1 p330 q330
     cases e330
     replace p330 := eq_true p330
     replace q330 := eq_true q330
     go_wp2_with (first | ((with_reducible refine gC 123 ?_); refine cL (some 14) Try.func123 #[.int .i64 (rd l0 x3_1), .int .i64 0, .int .i64 255] ?_; (with_reducible refine (spec_l01In.calls (rd l0 x3_1) 0 255 _ _ A4.out).mono ?_); rintro e w' ⟨rfl, ⟨nd, rfl⟩⟩; refine ⟨_, rfl, ?_⟩))
     go_ret
     exact ⟨fS, dS⟩
   ·obtain rfl := Option.some.inj H
    go_wp2
    go_ret
    exact ⟨fS, dS⟩

/-! ### spec_RowsOk: function 97 -/
def spec_RowsOk.l0 : Nat → List (List Int) → Int → Option (Bool)
 | 0, _, _ => none
 | k + 1, x0, x3 => if x3 < (x0.length : Int) then (if 0 ≤ x3 then ((spec_l11Row.f k (rd_L2 x0 x3)).bind fun t333 => (if t333 = true then (spec_RowsOk.l0 k x0 (wrap64 (x3 + 1))) else (some false))) else (none)) else (some (decide ((x0.length : Int) ≤ 32)))
def spec_RowsOk.f (k : Nat) (l0 : List (List Int)) : Option (Bool) := spec_RowsOk.l0 k l0 0
theorem spec_RowsOk.calls (k : Nat) (A0 : Option Addr) (c0 : Nat) (l0 : List (List Int)) (r : Bool) (w : World) (hr0 : Kd.C (Kd.slice 3 (Kd.int .i64)) w A0 l0.length l0) (hc0 : l0.length ≤ c0) (h : spec_RowsOk.f k l0 = some r) :
  Calls Try.prog 97 #[.slice A0 l0.length c0] w fun e w' => e = .returned (.bool r) ∧ Drawn0 w w' := by
 have HR0 := Aside0.mk hr0
 have HC0 := Aside0.mk hc0
 clear hr0 hc0
 have H : (spec_RowsOk.l0 k l0 0) = some r := h
 clear h
 have H' := Aside0.mk H
 clear H
 go_enter Try.func97, Try.ntmps97
 go_wp2
 go_loopg [3] k (fun kq v3 w' => ∃ (x3_1 : Int), v3 = .int .i64 x3_1 ∧ Aside0 (spec_RowsOk.l0 kq l0 x3_1 = some r) ∧ Aside0 (kq ≤ k) ∧ Drawn0 w w')
 case atStart => exact ⟨(0), fS, H', ⟨Nat.le_refl _⟩, dS⟩
 case round =>
  clear H'
  obtain ⟨x3_1, rfl, HA, HK1, ⟨m1, rfl⟩⟩ := hrel
  cases gk with
  | zero => exact absurd HA.out (by simp [spec_RowsOk.l0])
  | succ k1 =>
   have H := HA.out
   clear HA
   simp only [spec_RowsOk.l0] at H
   rcases iD H with ⟨c2b0, H⟩ | ⟨c2b0, H⟩
   ·obtain ⟨c3b0, H⟩ := iT H
    replace H := bN H
    obtain ⟨t333, A4, H⟩ := H
    by_cases c5 : t333 = true
    ·subst c5
     rw [if_pos rfl] at H
     have H' := Aside0.mk H
     clear H
     have p332 : 0 ≤ (x3_1 : Int) := dA
     have q332 : x3_1 < (l0.length : Int) := dA
     obtain ⟨ad332, A332_0, c332_0, e332, hx332_0, hl332_0, hi332_0⟩ := at_L2 HR0.out x3_1 p332 q332
     cases e332
     have HR332_0 := Aside0.mk hi332_0
     have HC332_0 := Aside0.mk hl332_0
     clear hi332_0 hl332_0
     replace p332 := eq_true p332
     replace q332 := eq_true q332
     go_wp2_with (first | ((with_reducible refine gC 161 ?_); refine cL (some 14) Try.func161 #[.slice A332_0 (rd_L2 l0 x3_1).length c332_0] ?_; (with_reducible refine (spec_l11Row.calls k1 _ _ (rd_L2 l0 x3_1) _ _ ?side1 ?side2 A4.out).mono ?_); (case side1 => repeat (first | exact HR332_0.out | (with_reducible refine Kd.C_alloc ?_ _) | (with_reducible refine Kd.C_drewN ?_ _) | (with_reducible refine Kd.C_drew ?_))); (case side2 => exact HC332_0.out); rintro e w' ⟨rfl, ⟨nd, rfl⟩⟩; refine ⟨_, rfl, ?_⟩))
     go_roundg k1
     case measure => have := HK1.out; omega
     case rel => exact ⟨(wrap64 (x3_1 + 1)), fS, H', ⟨by have := HK1.out; omega⟩, dS⟩
    ·obtain rfl := Bool.eq_false_iff.mpr c5
     rw [if_neg nF] at H
     obtain rfl := Option.some.inj H
     have p332 : 0 ≤ (x3_1 : Int) := dA
     have q332 : x3_1 < (l0.length : Int) := dA
     obtain ⟨ad332, A332_0, c332_0, e332, hx332_0, hl332_0, hi332_0⟩ := at_L2 HR0.out x3_1 p332 q332
     cases e332
     have HR332_0 := Aside0.mk hi332_0
     have HC332_0 := Aside0.mk hl332_0
     clear hi332_0 hl332_0
     replace p332 := eq_true p332
     replace q332 := eq_true q332
     go_wp2_with (first | ((with_reducible refine gC 161 ?_); refine cL (some 14) Try.func161 #[.slice A332_0 (rd_L2 l0 x3_1).length c332_0] ?_; (with_reducible refine (spec_l11Row.calls k1 _ _ (rd_L2 l0 x3_1) _ _ ?side1 ?side2 A4.out).mono ?_); (case side1 => repeat (first | exact HR332_0.out | (with_reducible refine Kd.C_alloc ?_ _) | (with_reducible refine Kd.C_drewN ?_ _) | (with_reducible refine Kd.C_drew ?_))); (case side2 => exact HC332_0.out); rintro e w' ⟨rfl, ⟨nd, rfl⟩⟩; refine ⟨_, rfl, ?_⟩))
     go_ret
     exact ⟨fS, dS⟩
   ·obtain rfl := Option.some.inj H
    go_wp2
    go_ret
    exact ⟨fS, dS⟩

end Go.Proofs.Ytigodjcnkgebaaa.QFnMerges
