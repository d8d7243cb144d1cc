-- Made out of the translation by a program of this session (a changed copy of the print). Not trusted: Lean checks it.
import Derived.Test.YtpickbenfkcpmaaQFnRuns7x0
import Derived.Test.YtpickbenfkcpmaaQFnRuns7x1
namespace Go.Proofs.Ytpickbenfkcpmaa.QFnRuns7
open Go.RowKit Go.Proofs.YtpickbenfkcpmaaW.PrintWords Go.Proofs.YtpickbenfkcpmaaW.PrintLast Go.Proofs.YtpickbenfkcpmaaW.PrintMore
attribute [local go_sem] max2_int min2_int max_two min_two max_three min_three max_four min_four   -- for this text's walks alone
set_option linter.unusedVariables false
set_option linter.unusedSimpArgs false
set_option maxHeartbeats 8000000
set_option maxRecDepth 100000

/-! ### spec_l06Any: function 13 -/
def spec_l06Any.l0 : Nat → List (S46) → Int → List Int → Int → Int → Option ((List (S46)) × Int × Int)
 | 0, _, _, _, _, _ => none
 | k + 1, x3, x4, a3, a5, a6 => (spec_l01Below.f a3 a5 a6 2).bind fun a2 => (if x4 < (wrap64 (3 + a2.1)) then ((some (([(⟨(⟨#[]⟩ : ByteArray), 9⟩ : S46), (⟨(⟨#[114, 101, 112, 101, 97, 116]⟩ : ByteArray), 0⟩ : S46)] : List (S46)) : List (S46))).bind fun a7 => (if x3.length < 5864062014805 then ((some (x3 ++ [(⟨(⟨#[101, 110, 100]⟩ : ByteArray), 0⟩ : S46)] : List (S46))).bind fun a8 => (if a7.length + a8.length < 5864062014805 then (spec_l06Any.l0 k (a7 ++ a8) (wrap64 (x4 + 1)) a3 a2.2.1 a2.2.2) else (none))) else (none))) else (some (x3, a2.2.1, a2.2.2)))
def spec_l06Any.f (k : Nat) (a5 : List Int) (a9 : Int) (b0 : Int) : Option ((List (S46)) × Int × Int) := (spec_l06Blocks.f k a5 a9 b0 3).bind fun a3 => ((spec_l01Below.f a5 a3.2.1 a3.2.2 12).bind fun a2 => (if a2.1 = 0 then ((spec_l01Pick.f a5 a2.2.1 a2.2.2 (([(⟨#[101, 110, 100]⟩ : ByteArray), (⟨#[114, 101, 112, 101, 97, 116]⟩ : ByteArray)] : List ByteArray))).bind fun a6 => (if a3.1.length < 5864062014805 then (some ((a3.1 ++ [(⟨a6.1, 0⟩ : S46)]), a6.2.1, a6.2.2)) else (none))) else (if a2.1 = 1 then ((spec_l01PickInt.f a5 a2.2.1 a2.2.2 (([10, 9, (-1)] : List Int))).bind fun a7 => ((some (([(⟨(⟨#[]⟩ : ByteArray), a7.1⟩ : S46), (⟨(⟨#[114, 101, 112, 101, 97, 116]⟩ : ByteArray), 0⟩ : S46), (⟨(⟨#[]⟩ : ByteArray), 1⟩ : S46), (⟨(⟨#[101, 110, 100]⟩ : ByteArray), 0⟩ : S46)] : List (S46)) : List (S46))).bind fun a8 => (if a3.1.length + a8.length < 5864062014805 then (some ((a3.1 ++ a8), a7.2.1, a7.2.2)) else (none)))) else (if a2.1 = 2 then (spec_l06Any.l0 k a3.1 0 a5 a2.2.1 a2.2.2) else (some (a3.1, a2.2.1, a2.2.2))))))
theorem spec_l06Any.calls (k : Nat) (g : Nat) (a3 : List Int) (e2 : Int) (e3 : Int) (r1 : List (S46)) (r2 : Int) (r3 : Int) (w0 w : World) (hI : IsS71 w0 w g a3 e2 e3) (hB : Below w0.heap.size w0 w) (h : spec_l06Any.f k a3 e2 e3 = some (r1, r2, r3)) :
  Calls Try.prog 13 #[.pointer (some ⟨g, 0, none⟩)] w fun e w' => ∃ v0_ : Value, e = .returned (v0_) ∧ Kd.R k46 46 w' w.heap.size (fun _ => True) v0_ r1 ∧ IsS71 w0 w' g a3 r2 r3 ∧ Below w0.heap.size w0 w' ∧ KeepBut w w' g none := by
 have hu46 := Try.underlying46
 have HI0 := aM hI
 have HK := aM (KeepBut.refl w g none)
 have HL := aM hB.size
 clear hI
 have HW0 := aM hB.size
 have HB := aM hB
 clear hB
 have H := h
 clear h
 unfold spec_l06Any.f at H
 replace H := bN H
 obtain ⟨⟨a9, b6, b7⟩, A2, H⟩ := H
 replace H := bN H
 obtain ⟨⟨a5, b0, b1⟩, A3, H⟩ := H
 by_cases c4 : a5 = 0
 ·rw [if_pos c4] at H
  have g8 : (a5 == 0) = true := beq_iff_eq.mpr c4
  have g9 : (a5 != 0) = false := bne_eq_false_iff_eq.mpr c4
  clear c4
  obtain ⟨g4, hy_⟩ : ∃ y_ : List ByteArray, y_ = (([(⟨#[101, 110, 100]⟩ : ByteArray), (⟨#[114, 101, 112, 101, 97, 116]⟩ : ByteArray)] : List ByteArray)) := ⟨_, rfl⟩
  replace H : ((spec_l01Pick.f a3 b0 b1 g4).bind fun e7 => (if a9.length < 5864062014805 then (some ((a9 ++ [(⟨e7.1, 0⟩ : S46)]), e7.2.1, e7.2.2)) else (none))) = some (r1, r2, r3) := yS
  have Ny201 := aM hy_
  clear hy_
  replace H := bN H
  obtain ⟨⟨e8, g5, g6⟩, A5, H⟩ := H
  obtain ⟨LMc6, H⟩ := iL H
  obtain ⟨h7, hy_⟩ : ∃ y_ : List (S46), y_ = (a9 ++ [(⟨e8, 0⟩ : S46)]) := ⟨_, rfl⟩
  replace H : (some (h7, g5, g6)) = some (r1, r2, r3) := yS
  have Ny207 := aM hy_
  clear hy_
  obtain ⟨rfl, rfl, rfl⟩ := sI3 H
  go_enter Try.func13, Try.ntmps13
  go_wp2_with (first | ((with_reducible refine gC 29 ?_); refine cL (some 6) Try.func29 #[.pointer (some ⟨g, 0, none⟩), .int .i64 3] ?_; (with_reducible refine (spec_l06Blocks.calls k g a3 e2 e3 3 a9 b6 b7 w0 _ ?side1 ?side2 A2.out).mono ?_); (case side1 => exact iS71 HI0); (case side2 => exact bI HB (IsS71.ge HI0.out)); rintro e w7 ⟨e9, rfl, f0, hi, hb, hk⟩; refine ⟨_, rfl, ?_⟩; have a2 := aM (Kd.R_lower f0 (keep_size (w := w) (g := g) (row := none) (kp HK))); replace HK := aM (KeepBut.trans (kp HK) hk (.inl rfl)); replace HB := aM (hb); replace HI0 := aM (hi); (try clear hb hk hi f0)) | ((with_reducible refine gC 28 ?_); refine cL (some 8) Try.func28 #[.pointer (some ⟨g, 0, none⟩), .int .i64 12] ?_; (with_reducible refine (spec_l01Below.calls g a3 b6 b7 12 a5 b0 b1 w0 _ ?side1 ?side2 A3.out).mono ?_); (case side1 => exact iS71 HI0); (case side2 => exact bI HB (IsS71.ge HI0.out)); rintro e w8 ⟨rfl, hi, hb, hk⟩; refine ⟨_, rfl, ?_⟩; replace a2 := aM (Kd.R_mono (Kd.R_keep (IsS71.apart (show IsS71 w0 _ g a3 b6 b7 from iS71 HI0) (rS a2) (by decide)) hk (fun _ h => h.2)) (fun _ h => h.1)); replace HK := aM (KeepBut.trans (kp HK) hk (.inl rfl)); replace HB := aM (hb); replace HI0 := aM (hi); (try clear hb hk hi)) | ((with_reducible refine gate_dst (N := 13) rfl ?_); refine Kd.R_lit Kd.string _ 9 ?hg (N := 13) ?hd (xs := ([(⟨#[101, 110, 100]⟩ : ByteArray), (⟨#[114, 101, 112, 101, 97, 116]⟩ : ByteArray)] : List ByteArray)) (inner := [.string (⟨#[101, 110, 100]⟩ : ByteArray), .string (⟨#[114, 101, 112, 101, 97, 116]⟩ : ByteArray)]) (ok := fun _ => True) (okp := fun _ => True) ?hr ?hp (fun _ hk => hk) trivial (Below.refl _ _) (Nat.le_refl _) (by simp) ?_; (case hd => rfl); (case hg => rfl); (case hr => first | (go_simp; done) | (go_simp; rfl)); (case hp => exact (Reps.one (show Kd.M Kd.string _ _ _ (⟨#[101, 110, 100]⟩ : ByteArray) [.string (⟨#[101, 110, 100]⟩ : ByteArray)] from rfl) (Reps.one (show Kd.M Kd.string _ _ _ (⟨#[114, 101, 112, 101, 97, 116]⟩ : ByteArray) [.string (⟨#[114, 101, 112, 101, 97, 116]⟩ : ByteArray)] from rfl) (Reps.none _ _)))); intro k0 w9 f3 hb hg_ hnew_; clear hg_ hnew_; (first | rw [← Ny201.out] at f3 | (simp only [Int.reduceToNat] at f3; rw [← Ny201.out] at f3)); have b2 := aM (Kd.R_lower f3 (keep_size (w := w) (g := g) (row := none) (kp HK))); replace a2 := rB a2 hb; replace HK := aM (KeepBut.trans (kp HK) (KeepBut.of_below hb g none) (.inl rfl)); replace HB := aM (below_step (bI HB (IsS71.ge HI0.out)) hb); replace HI0 := aM (IsS71.below (iS71 HI0) hb); clear hb f3; obtain ⟨h8, h9, i1⟩ := Kd.R_slice b2.out; subst i1) | ((with_reducible refine gC 30 ?_); refine cL (some 14) Try.func30 #[.pointer (some ⟨g, 0, none⟩), .slice h8 g4.length h9] ?_; (with_reducible refine (spec_l01Pick.calls g a3 b0 b1 _ _ g4 e8 g5 g6 w0 _ ?side1 ?side2 ?side3 ?side4 ?side5 A5.out).mono ?_); (case side1 => exact iS71 HI0); (case side2 => exact bI HB (IsS71.ge HI0.out)); (case side3 => exact cS (Kd.R_reads' b2.out).2.2); (case side4 => exact (Kd.R_reads' b2.out).2.1); (case side5 => exact far_slice (IsS71.own_ne HI0.out b2.out (by decide))); rintro e l3 ⟨rfl, hi, hb, hk⟩; refine ⟨_, rfl, ?_⟩; replace a2 := aM (Kd.R_mono (Kd.R_keep (IsS71.apart (show IsS71 w0 _ g a3 b0 b1 from iS71 HI0) (rS a2) (by decide)) hk (fun _ h => h.2)) (fun _ h => h.1)); replace b2 := aM (Kd.R_mono (Kd.R_keep (IsS71.apart (show IsS71 w0 _ g a3 b0 b1 from iS71 HI0) (rS b2) (by decide)) hk (fun _ h => h.2)) (fun _ h => h.1)); replace HK := aM (KeepBut.trans (kp HK) hk (.inl rfl)); replace HB := aM (hb); replace HI0 := aM (hi); (try clear hb hk hi)) | ((with_reducible refine gate_builtin (b := .append) (xs := #[.tmp 11, .tmp 16]) rfl ?_); at_builtin; refine Kd.R_append k46 w.heap.size rfl (.tmp 11) (.tmp 16) 24 46 (.agg #[(.string ⟨#[]⟩), (.int .i64 0)]) 24 rfl Try.underlying24 info46 rfl (by decide) (by omega) e9 a9 (⟨e8, 0⟩ : S46) [.string e8, .int .i64 0] (fun _ => True) (fun _ => False) rfl rfl ?aP (fun _ hk => hk.elim) ?aF ?aO (Below.refl _ _) ?aS ?aL ?_; (case aP => exact k46_mkM _ _ _ (⟨e8, 0⟩ : S46)); (case aF => exact (fun _ _ => trivial)); (case aO => exact (rS a2)); (case aS => exact (keep_size (w := w) (g := g) (row := none) (kp HK))); (case aL => have := LMc6.out; (try dsimp only at this); omega); intro k2 l4 ho hb hg hat; rw [← Ny207.out] at ho; have h0 := aM (ho); replace b2 := aM (Kd.R_over' (rS b2) (Kd.R_typed (rS a2)) (by decide) hg); replace HB := aM (below_weaken (bI HB (IsS71.ge HI0.out)) HL.out hb); replace HI0 := aM (IsS71.grown (show IsS71 w0 _ g a3 g5 g6 from iS71 HI0) hg (IsS71.own_ne HI0.out a2.out (by decide))); replace HK := aM (KeepBut.trans (kp HK) (KeepBut.of_grown hg g) (Kd.R_base2 a2.out)); clear a2; clear ho hb hg hat))
  go_ret
  exact ⟨_, eS, rS h0, iS71 HI0, bI HB (IsS71.ge HI0.out), by repeat (first | (with_reducible first | exact HK.out | apply KeepBut.set_ | apply keep_drewN | apply keep_drew | apply keep_alloc) | exact HK.out)⟩
 ·rw [if_neg c4] at H
  have g8 : (a5 == 0) = false := beq_eq_false_iff_ne.mpr c4
  have g9 : (a5 != 0) = true := bne_iff_ne.mpr c4
  by_cases f8 : a5 = 1
  ·rw [if_pos f8] at H
   have f9 : (a5 == 1) = true := beq_iff_eq.mpr f8
   have g0 : (a5 != 1) = false := bne_eq_false_iff_eq.mpr f8
   clear f8
   obtain ⟨g7, hy_⟩ : ∃ y_ : List Int, y_ = (([10, 9, (-1)] : List Int)) := ⟨_, rfl⟩
   replace H : ((spec_l01PickInt.f a3 b0 b1 g7).bind fun f4 => ((some (([(⟨(⟨#[]⟩ : ByteArray), f4.1⟩ : S46), (⟨(⟨#[114, 101, 112, 101, 97, 116]⟩ : ByteArray), 0⟩ : S46), (⟨(⟨#[]⟩ : ByteArray), 1⟩ : S46), (⟨(⟨#[101, 110, 100]⟩ : ByteArray), 0⟩ : S46)] : List (S46)) : List (S46))).bind fun d0 => (if a9.length + d0.length < 5864062014805 then (some ((a9 ++ d0), f4.2.1, f4.2.2)) else (none)))) = some (r1, r2, r3) := yS
   have Ny210 := aM hy_
   clear hy_
   replace H := bN H
   obtain ⟨⟨d6, f6, f7⟩, k3, H⟩ := H
   obtain ⟨d0, hy_⟩ : ∃ y_ : List (S46), y_ = (([(⟨(⟨#[]⟩ : ByteArray), d6⟩ : S46), (⟨(⟨#[114, 101, 112, 101, 97, 116]⟩ : ByteArray), 0⟩ : S46), (⟨(⟨#[]⟩ : ByteArray), 1⟩ : S46), (⟨(⟨#[101, 110, 100]⟩ : ByteArray), 0⟩ : S46)] : List (S46))) := ⟨_, rfl⟩
   replace H : (if a9.length + d0.length < 5864062014805 then (some ((a9 ++ d0), f6, f7)) else (none)) = some (r1, r2, r3) := yS
   have Ny216 := aM hy_
   clear hy_
   obtain ⟨LMc16, H⟩ := iL H
   obtain ⟨i3, hy_⟩ : ∃ y_ : List (S46), y_ = (a9 ++ d0) := ⟨_, rfl⟩
   replace H : (some (i3, f6, f7)) = some (r1, r2, r3) := yS
   have Ny219 := aM hy_
   clear hy_
   obtain ⟨rfl, rfl, rfl⟩ := sI3 H
   go_enter Try.func13, Try.ntmps13
   go_wp2_with (first | ((with_reducible refine gC 29 ?_); refine cL (some 6) Try.func29 #[.pointer (some ⟨g, 0, none⟩), .int .i64 3] ?_; (with_reducible refine (spec_l06Blocks.calls k g a3 e2 e3 3 a9 b6 b7 w0 _ ?side1 ?side2 A2.out).mono ?_); (case side1 => exact iS71 HI0); (case side2 => exact bI HB (IsS71.ge HI0.out)); rintro e l5 ⟨e9, rfl, f0, hi, hb, hk⟩; refine ⟨_, rfl, ?_⟩; have a2 := aM (Kd.R_lower f0 (keep_size (w := w) (g := g) (row := none) (kp HK))); replace HK := aM (KeepBut.trans (kp HK) hk (.inl rfl)); replace HB := aM (hb); replace HI0 := aM (hi); (try clear hb hk hi f0)) | ((with_reducible refine gC 28 ?_); refine cL (some 8) Try.func28 #[.pointer (some ⟨g, 0, none⟩), .int .i64 12] ?_; (with_reducible refine (spec_l01Below.calls g a3 b6 b7 12 a5 b0 b1 w0 _ ?side1 ?side2 A3.out).mono ?_); (case side1 => exact iS71 HI0); (case side2 => exact bI HB (IsS71.ge HI0.out)); rintro e l6 ⟨rfl, hi, hb, hk⟩; refine ⟨_, rfl, ?_⟩; replace a2 := aM (Kd.R_mono (Kd.R_keep (IsS71.apart (show IsS71 w0 _ g a3 b6 b7 from iS71 HI0) (rS a2) (by decide)) hk (fun _ h => h.2)) (fun _ h => h.1)); replace HK := aM (KeepBut.trans (kp HK) hk (.inl rfl)); replace HB := aM (hb); replace HI0 := aM (hi); (try clear hb hk hi)) | ((with_reducible refine gate_dst (N := 22) rfl ?_); refine Kd.R_lit (Kd.int .i64) _ 3 ?hg (N := 22) ?hd (xs := ([10, 9, (-1)] : List Int)) (inner := [.int .i64 10, .int .i64 9, .int .i64 (-1)]) (ok := fun _ => True) (okp := fun _ => True) ?hr ?hp (fun _ hk => hk) trivial (Below.refl _ _) (Nat.le_refl _) (by simp) ?_; (case hd => rfl); (case hg => rfl); (case hr => first | (go_simp; done) | (go_simp; rfl)); (case hp => exact (Reps.one (show Kd.M (Kd.int .i64) _ _ _ 10 [.int .i64 10] from rfl) (Reps.one (show Kd.M (Kd.int .i64) _ _ _ 9 [.int .i64 9] from rfl) (Reps.one (show Kd.M (Kd.int .i64) _ _ _ (-1) [.int .i64 (-1)] from rfl) (Reps.none _ _))))); intro k4 l7 f5 hb hg_ hnew_; clear hg_ hnew_; (first | rw [← Ny210.out] at f5 | (simp only [Int.reduceToNat] at f5; rw [← Ny210.out] at f5)); have a8 := aM (Kd.R_lower f5 (keep_size (w := w) (g := g) (row := none) (kp HK))); replace a2 := rB a2 hb; replace HK := aM (KeepBut.trans (kp HK) (KeepBut.of_below hb g none) (.inl rfl)); replace HB := aM (below_step (bI HB (IsS71.ge HI0.out)) hb); replace HI0 := aM (IsS71.below (iS71 HI0) hb); clear hb f5; obtain ⟨i4, i5, i6⟩ := Kd.R_slice a8.out; subst i6) | ((with_reducible refine gC 31 ?_); refine cL (some 23) Try.func31 #[.pointer (some ⟨g, 0, none⟩), .slice i4 g7.length i5] ?_; (with_reducible refine (spec_l01PickInt.calls g a3 b0 b1 _ _ g7 d6 f6 f7 w0 _ ?side1 ?side2 ?side3 ?side4 ?side5 k3.out).mono ?_); (case side1 => exact iS71 HI0); (case side2 => exact bI HB (IsS71.ge HI0.out)); (case side3 => exact cS (Kd.R_reads' a8.out).2.2); (case side4 => exact (Kd.R_reads' a8.out).2.1); (case side5 => exact far_slice (IsS71.own_ne HI0.out a8.out (by decide))); rintro e l8 ⟨rfl, hi, hb, hk⟩; refine ⟨_, rfl, ?_⟩; replace a2 := aM (Kd.R_mono (Kd.R_keep (IsS71.apart (show IsS71 w0 _ g a3 b0 b1 from iS71 HI0) (rS a2) (by decide)) hk (fun _ h => h.2)) (fun _ h => h.1)); replace a8 := aM (Kd.R_mono (Kd.R_keep (IsS71.apart (show IsS71 w0 _ g a3 b0 b1 from iS71 HI0) (rS a8) (by decide)) hk (fun _ h => h.2)) (fun _ h => h.1)); replace HK := aM (KeepBut.trans (kp HK) hk (.inl rfl)); replace HB := aM (hb); replace HI0 := aM (hi); (try clear hb hk hi)) | ((with_reducible refine gate_dst (N := 28) rfl ?_); refine Kd.R_lit k46 _ 46 ?hg (N := 28) ?hd (xs := ([(⟨(⟨#[]⟩ : ByteArray), d6⟩ : S46), (⟨(⟨#[114, 101, 112, 101, 97, 116]⟩ : ByteArray), 0⟩ : S46), (⟨(⟨#[]⟩ : ByteArray), 1⟩ : S46), (⟨(⟨#[101, 110, 100]⟩ : ByteArray), 0⟩ : S46)] : List (S46))) (inner := [.string (⟨#[]⟩ : ByteArray), .int .i64 d6, .string (⟨#[114, 101, 112, 101, 97, 116]⟩ : ByteArray), .int .i64 0, .string (⟨#[]⟩ : ByteArray), .int .i64 1, .string (⟨#[101, 110, 100]⟩ : ByteArray), .int .i64 0]) (ok := fun _ => True) (okp := fun _ => True) ?hr ?hp (fun _ hk => hk) trivial (Below.refl _ _) (Nat.le_refl _) (by simp) ?_; (case hd => rfl); (case hg => rfl); (case hr => first | (go_simp; done) | (go_simp; rfl)); (case hp => exact (Reps.c2 (show Kd.M k46 _ _ _ (⟨(⟨#[]⟩ : ByteArray), d6⟩ : S46) [.string (⟨#[]⟩ : ByteArray), .int .i64 d6] from (k46_mkM _ _ _ (⟨(⟨#[]⟩ : ByteArray), d6⟩ : S46) )) (Reps.c2 (show Kd.M k46 _ _ _ (⟨(⟨#[114, 101, 112, 101, 97, 116]⟩ : ByteArray), 0⟩ : S46) [.string (⟨#[114, 101, 112, 101, 97, 116]⟩ : ByteArray), .int .i64 0] from (k46_mkM _ _ _ (⟨(⟨#[114, 101, 112, 101, 97, 116]⟩ : ByteArray), 0⟩ : S46) )) (Reps.c2 (show Kd.M k46 _ _ _ (⟨(⟨#[]⟩ : ByteArray), 1⟩ : S46) [.string (⟨#[]⟩ : ByteArray), .int .i64 1] from (k46_mkM _ _ _ (⟨(⟨#[]⟩ : ByteArray), 1⟩ : S46) )) (Reps.c2 (show Kd.M k46 _ _ _ (⟨(⟨#[101, 110, 100]⟩ : ByteArray), 0⟩ : S46) [.string (⟨#[101, 110, 100]⟩ : ByteArray), .int .i64 0] from (k46_mkM _ _ _ (⟨(⟨#[101, 110, 100]⟩ : ByteArray), 0⟩ : S46) )) (Reps.none _ _)))))); intro k5 l9 e4 hb hg_ hnew_; clear hg_ hnew_; (first | rw [← Ny216.out] at e4 | (simp only [Int.reduceToNat] at e4; rw [← Ny216.out] at e4)); have d1 := aM (Kd.R_lower (Kd.R_new' e4 (Kd.R_lt (rS a2))) (keep_size (w := w) (g := g) (row := none) (kp HK))); replace a2 := aM (Kd.R_elder' (rS a2) (Kd.R_base e4) hb); replace a8 := rB a8 hb; replace HK := aM (KeepBut.trans (kp HK) (KeepBut.of_below hb g none) (.inl rfl)); replace HB := aM (below_step (bI HB (IsS71.ge HI0.out)) hb); replace HI0 := aM (IsS71.below (iS71 HI0) hb); clear hb e4; obtain ⟨i7, i8, i9⟩ := Kd.R_slice d1.out; subst i9) | ((with_reducible refine gate_builtin (b := .append) (xs := #[.tmp 20, .tmp 28]) rfl ?_); at_builtin; refine Kd.R_append_rows k46 w.heap.size rfl (.tmp 20) (.tmp 28) 24 46 (.agg #[(.string ⟨#[]⟩), (.int .i64 0)]) 24 rfl Try.underlying24 info46 rfl (by decide) (by omega) e9 a9 d0 _ _ _ (fun k_ => some k_ ≠ (.slice i7 d0.length i8 : Value).ownBlock) (fun _ => False) rfl rfl ?aO ?aR (fun _ _ h => h) (fun _ h => h.elim) ?aF (Below.refl _ _) ?aS ?aL ?_; (case aR => exact cS (Kd.R_reads' d1.out).2.2); (case aF => exact (fun k_ hk => Kd.fresh' (Kd.R_lt (rS d1)) k_ hk)); (case aO => exact (by exact rM a2)); (case aS => exact (keep_size (w := w) (g := g) (row := none) (kp HK))); (case aL => have := LMc16.out; (try dsimp only at this); omega); intro k6 m0 ho hb hg hat; rw [← Ny219.out] at ho; have h1 := aM (ho); replace a8 := aM (Kd.R_over' (rS a8) (Kd.R_typed (rS a2)) (by decide) hg); replace d1 := aM (Kd.R_after (ok := (fun _ => True)) (rS d1) hg hat); replace HB := aM (below_weaken (bI HB (IsS71.ge HI0.out)) HL.out hb); replace HI0 := aM (IsS71.grown (show IsS71 w0 _ g a3 f6 f7 from iS71 HI0) hg (IsS71.own_ne HI0.out a2.out (by decide))); replace HK := aM (KeepBut.trans (kp HK) (KeepBut.of_grown hg g) (Kd.R_base2 a2.out)); clear a2; clear ho hb hg hat))
   go_ret
   exact ⟨_, eS, by exact rT (Kd.R_mono h1.out (fun _ hk => trivial)), iS71 HI0, bI HB (IsS71.ge HI0.out), by repeat (first | (with_reducible first | exact HK.out | apply KeepBut.set_ | apply keep_drewN | apply keep_drew | apply keep_alloc) | exact HK.out)⟩
  ·rw [if_neg f8] at H
   have f9 : (a5 == 1) = false := beq_eq_false_iff_ne.mpr f8
   have g0 : (a5 != 1) = true := bne_iff_ne.mpr f8
   by_cases g1 : a5 = 2
   ·rw [if_pos g1] at H
    have g2 : (a5 == 2) = true := beq_iff_eq.mpr g1
    have g3 : (a5 != 2) = false := bne_eq_false_iff_eq.mpr g1
    clear g1
    have H' := aM H
    clear H
    go_enter Try.func13, Try.ntmps13
    go_wp2_with (first | ((with_reducible refine gC 29 ?_); refine cL (some 6) Try.func29 #[.pointer (some ⟨g, 0, none⟩), .int .i64 3] ?_; (with_reducible refine (spec_l06Blocks.calls k g a3 e2 e3 3 a9 b6 b7 w0 _ ?side1 ?side2 A2.out).mono ?_); (case side1 => exact iS71 HI0); (case side2 => exact bI HB (IsS71.ge HI0.out)); rintro e m1 ⟨e9, rfl, f0, hi, hb, hk⟩; refine ⟨_, rfl, ?_⟩; have a2 := aM (Kd.R_lower f0 (keep_size (w := w) (g := g) (row := none) (kp HK))); replace HK := aM (KeepBut.trans (kp HK) hk (.inl rfl)); replace HB := aM (hb); replace HI0 := aM (hi); (try clear hb hk hi f0)) | ((with_reducible refine gC 28 ?_); refine cL (some 8) Try.func28 #[.pointer (some ⟨g, 0, none⟩), .int .i64 12] ?_; (with_reducible refine (spec_l01Below.calls g a3 b6 b7 12 a5 b0 b1 w0 _ ?side1 ?side2 A3.out).mono ?_); (case side1 => exact iS71 HI0); (case side2 => exact bI HB (IsS71.ge HI0.out)); rintro e m2 ⟨rfl, hi, hb, hk⟩; refine ⟨_, rfl, ?_⟩; replace a2 := aM (Kd.R_mono (Kd.R_keep (IsS71.apart (show IsS71 w0 _ g a3 b6 b7 from iS71 HI0) (rS a2) (by decide)) hk (fun _ h => h.2)) (fun _ h => h.1)); replace HK := aM (KeepBut.trans (kp HK) hk (.inl rfl)); replace HB := aM (hb); replace HI0 := aM (hi); (try clear hb hk hi)))
    go_loopg [3, 4] k (fun kq v3 v4 w' => ∃ (e0 : List (S46)) (e1 : Int) (a6 : Int) (a7 : Int), v4 = .int .i64 e1 ∧ Aside0 (spec_l06Any.l0 kq e0 e1 a3 a6 a7 = some (r1, r2, r3)) ∧ Aside0 (kq ≤ k) ∧ Aside0 (Kd.R k46 46 w' w.heap.size (fun _ => True) v3 e0) ∧ Aside0 (IsS71 w0 w' g a3 a6 a7) ∧ Aside0 (KeepBut w w' g none) ∧ Aside0 (Below w0.heap.size w0 w'))
    case atStart => exact ⟨(a9), (0), (b0), (b1), fS, H', ⟨Nat.le_refl _⟩, ⟨rS a2⟩, ⟨iS71 HI0⟩, ⟨kp HK⟩, ⟨bI HB (IsS71.ge HI0.out)⟩⟩
    case round =>
     clear H'
     try clear c1
     try clear c2
     try clear p2
     try clear c3
     try clear c4
     try clear g8
     try clear g9
     try clear c6
     try clear m3
     try clear f8
     try clear f9
     try clear g0
     try clear m4
     try clear g1
     try clear g2
     try clear g3
     try clear m5
     try clear m6
     obtain ⟨e0, e1, a6, a7, rfl, HA, j8, b8, HI0, HK, HB⟩ := hrel
     cases gk with
     | zero => exact absurd HA.out (by simp [spec_l06Any.l0])
     | succ k1 =>
      have H := HA.out
      clear HA
      simp only [spec_l06Any.l0] at H
      replace H := bN H
      obtain ⟨⟨h2, d2, d3⟩, j9, H⟩ := H
      rcases iD H with ⟨h3, H⟩ | ⟨h3, H⟩
      ·obtain ⟨e5, hy225⟩ : ∃ y_ : List (S46), y_ = (([(⟨(⟨#[]⟩ : ByteArray), 9⟩ : S46), (⟨(⟨#[114, 101, 112, 101, 97, 116]⟩ : ByteArray), 0⟩ : S46)] : List (S46))) := ⟨_, rfl⟩
       replace H : (if e0.length < 5864062014805 then ((some (e0 ++ [(⟨(⟨#[101, 110, 100]⟩ : ByteArray), 0⟩ : S46)] : List (S46))).bind fun d4 => (if e5.length + d4.length < 5864062014805 then (spec_l06Any.l0 k1 (e5 ++ d4) (wrap64 (e1 + 1)) a3 d2 d3) else (none))) else (none)) = some (r1, r2, r3) := by first | (rw [hy225]; with_reducible exact H) | (have H2_ := (Option.bind_some _ _).symm.trans H; rw [hy225]; with_reducible exact H2_) | (have H2_ := (Option.bind_some _ _).symm.trans H; with_reducible exact H2_) | with_reducible exact H | (rw [hy225]; exact H) | exact H
       have Ny225 := aM hy225
       clear hy225
       obtain ⟨LMc32, H⟩ := iL H
       obtain ⟨d4, hy_⟩ : ∃ y_ : List (S46), y_ = (e0 ++ [(⟨(⟨#[101, 110, 100]⟩ : ByteArray), 0⟩ : S46)]) := ⟨_, rfl⟩
       replace H : (if e5.length + d4.length < 5864062014805 then (spec_l06Any.l0 k1 (e5 ++ d4) (wrap64 (e1 + 1)) a3 d2 d3) else (none)) = some (r1, r2, r3) := yS
       have Ny228 := aM hy_
       clear hy_
       obtain ⟨LMc33, H⟩ := iL H
       obtain ⟨h4, hy_⟩ : ∃ y_ : List (S46), y_ = (e5 ++ d4) := ⟨_, rfl⟩
       replace H : (spec_l06Any.l0 k1 h4 (wrap64 (e1 + 1)) a3 d2 d3) = some (r1, r2, r3) := yS
       have Ny231 := aM hy_
       clear hy_
       have H' := aM H
       clear H
       go_wp2_with (first | ((with_reducible refine gC 28 ?_); refine cL (some 34) Try.func28 #[.pointer (some ⟨g, 0, none⟩), .int .i64 2] ?_; (with_reducible refine (spec_l01Below.calls g a3 a6 a7 2 h2 d2 d3 w0 _ ?side1 ?side2 j9.out).mono ?_); (case side1 => exact iS71 HI0); (case side2 => exact bI HB (IsS71.ge HI0.out)); rintro e m7 ⟨rfl, hi, hb, hk⟩; refine ⟨_, rfl, ?_⟩; replace b8 := aM (Kd.R_mono (Kd.R_keep (IsS71.apart (show IsS71 w0 _ g a3 a6 a7 from iS71 HI0) (rS b8) (by decide)) hk (fun _ h => h.2)) (fun _ h => h.1)); replace HK := aM (KeepBut.trans (kp HK) hk (.inl rfl)); replace HB := aM (hb); replace HI0 := aM (hi); (try clear hb hk hi)) | ((with_reducible refine gate_dst (N := 41) rfl ?_); refine Kd.R_lit k46 _ 46 ?hg (N := 41) ?hd (xs := ([(⟨(⟨#[]⟩ : ByteArray), 9⟩ : S46), (⟨(⟨#[114, 101, 112, 101, 97, 116]⟩ : ByteArray), 0⟩ : S46)] : List (S46))) (inner := [.string (⟨#[]⟩ : ByteArray), .int .i64 9, .string (⟨#[114, 101, 112, 101, 97, 116]⟩ : ByteArray), .int .i64 0]) (ok := fun _ => True) (okp := fun _ => True) ?hr ?hp (fun _ hk => hk) trivial (Below.refl _ _) (Nat.le_refl _) (by simp) ?_; (case hd => rfl); (case hg => rfl); (case hr => first | (go_simp; done) | (go_simp; rfl)); (case hp => exact (Reps.c2 (show Kd.M k46 _ _ _ (⟨(⟨#[]⟩ : ByteArray), 9⟩ : S46) [.string (⟨#[]⟩ : ByteArray), .int .i64 9] from (k46_mkM _ _ _ (⟨(⟨#[]⟩ : ByteArray), 9⟩ : S46) )) (Reps.c2 (show Kd.M k46 _ _ _ (⟨(⟨#[114, 101, 112, 101, 97, 116]⟩ : ByteArray), 0⟩ : S46) [.string (⟨#[114, 101, 112, 101, 97, 116]⟩ : ByteArray), .int .i64 0] from (k46_mkM _ _ _ (⟨(⟨#[114, 101, 112, 101, 97, 116]⟩ : ByteArray), 0⟩ : S46) )) (Reps.none _ _)))); intro h5 m8 e6 hb hg_ hnew_; clear hg_ hnew_; (first | rw [← Ny225.out] at e6 | (simp only [Int.reduceToNat] at e6; rw [← Ny225.out] at e6)); have b9 := aM (Kd.R_lower (Kd.R_new' e6 (Kd.R_lt (rS b8))) (keep_size (w := w) (g := g) (row := none) (kp HK))); replace b8 := aM (Kd.R_elder' (rS b8) (Kd.R_base e6) hb); replace HK := aM (KeepBut.trans (kp HK) (KeepBut.of_below hb g none) (.inl rfl)); replace HB := aM (below_step (bI HB (IsS71.ge HI0.out)) hb); replace HI0 := aM (IsS71.below (iS71 HI0) hb); clear hb e6) | ((with_reducible refine gate_builtin (b := .append) (xs := #[.tmp 42, .tmp 44]) rfl ?_); at_builtin; refine Kd.R_append k46 w.heap.size rfl (.tmp 42) (.tmp 44) 24 46 (.agg #[(.string ⟨#[]⟩), (.int .i64 0)]) 24 rfl Try.underlying24 info46 rfl (by decide) (by omega) u3 e0 (⟨(⟨#[101, 110, 100]⟩ : ByteArray), 0⟩ : S46) [.string (⟨#[101, 110, 100]⟩ : ByteArray), .int .i64 0] (fun k_ => some k_ ≠ (h5 : Value).ownBlock) (fun _ => False) rfl rfl ?aP (fun _ hk => hk.elim) ?aF ?aO (Below.refl _ _) ?aS ?aL ?_; (case aP => exact k46_mkM _ _ _ (⟨(⟨#[101, 110, 100]⟩ : ByteArray), 0⟩ : S46)); (case aF => exact (fun k_ hk => Kd.fresh' (Kd.R_lt (rS b9)) k_ hk)); (case aO => exact (by exact rM b8)); (case aS => exact (keep_size (w := w) (g := g) (row := none) (kp HK))); (case aL => have := LMc32.out; (try dsimp only at this); omega); intro k7 m9 ho hb hg hat; rw [← Ny228.out] at ho; have d5 := aM (ho); replace b9 := aM (Kd.R_after (ok := (fun _ => True)) (rS b9) hg hat); replace HB := aM (below_weaken (bI HB (IsS71.ge HI0.out)) HL.out hb); replace HI0 := aM (IsS71.grown (show IsS71 w0 _ g a3 d2 d3 from iS71 HI0) hg (IsS71.own_ne HI0.out b8.out (by decide))); replace HK := aM (KeepBut.trans (kp HK) (KeepBut.of_grown hg g) (Kd.R_base2 b8.out)); clear b8; clear ho hb hg hat; obtain ⟨j5, j6, j7⟩ := Kd.R_slice d5.out; subst j7) | ((with_reducible refine gate_builtin (b := .append) (xs := #[.tmp 41, .tmp 45]) rfl ?_); at_builtin; refine Kd.R_append_rows k46 w.heap.size rfl (.tmp 41) (.tmp 45) 24 46 (.agg #[(.string ⟨#[]⟩), (.int .i64 0)]) 24 rfl Try.underlying24 info46 rfl (by decide) (by omega) h5 e5 d4 _ _ _ (fun k_ => some k_ ≠ (.slice j5 d4.length j6 : Value).ownBlock) (fun _ => False) rfl rfl ?aO ?aR (fun _ _ h => h) (fun _ h => h.elim) ?aF (Below.refl _ _) ?aS ?aL ?_; (case aR => exact cS (Kd.R_reads' d5.out).2.2); (case aF => exact (fun k_ hk => Kd.fresh' (Kd.R_lt (rS d5)) k_ hk)); (case aO => exact (by exact rM b9)); (case aS => exact (keep_size (w := w) (g := g) (row := none) (kp HK))); (case aL => have := LMc33.out; (try dsimp only at this); omega); intro k9 n0 ho hb hg hat; rw [← Ny231.out] at ho; have h6 := aM (ho); replace d5 := aM (Kd.R_after (ok := (fun _ => True)) (by exact rM d5) hg hat); replace HB := aM (below_weaken (bI HB (IsS71.ge HI0.out)) HL.out hb); replace HI0 := aM (IsS71.grown (show IsS71 w0 _ g a3 d2 d3 from iS71 HI0) hg (IsS71.own_ne HI0.out b9.out (by decide))); replace HK := aM (KeepBut.trans (kp HK) (KeepBut.of_grown hg g) (Kd.R_base2 b9.out)); clear b9; clear ho hb hg hat))
       go_roundg k1
       case measure => have := j8.out; omega
       case rel => exact ⟨(h4), (wrap64 (e1 + 1)), (d2), (d3), fS, H', ⟨by have := j8.out; omega⟩, ⟨by exact rT (Kd.R_mono h6.out (fun _ hk => trivial))⟩, ⟨iS71 HI0⟩, ⟨kp HK⟩, ⟨bI HB (IsS71.ge HI0.out)⟩⟩
      ·obtain ⟨rfl, rfl, rfl⟩ := sI3 H
       go_wp2_with (first | ((with_reducible refine gC 28 ?_); refine cL (some 34) Try.func28 #[.pointer (some ⟨g, 0, none⟩), .int .i64 2] ?_; (with_reducible refine (spec_l01Below.calls g a3 a6 a7 2 h2 d2 d3 w0 _ ?side1 ?side2 j9.out).mono ?_); (case side1 => exact iS71 HI0); (case side2 => exact bI HB (IsS71.ge HI0.out)); rintro e n1 ⟨rfl, hi, hb, hk⟩; refine ⟨_, rfl, ?_⟩; replace b8 := aM (Kd.R_mono (Kd.R_keep (IsS71.apart (show IsS71 w0 _ g a3 a6 a7 from iS71 HI0) (rS b8) (by decide)) hk (fun _ h => h.2)) (fun _ h => h.1)); replace HK := aM (KeepBut.trans (kp HK) hk (.inl rfl)); replace HB := aM (hb); replace HI0 := aM (hi); (try clear hb hk hi)))
       go_ret
       exact ⟨_, eS, rS b8, iS71 HI0, bI HB (IsS71.ge HI0.out), by repeat (first | (with_reducible first | exact HK.out | apply KeepBut.set_ | apply keep_drewN | apply keep_drew | apply keep_alloc) | exact HK.out)⟩
   ·rw [if_neg g1] at H
    have g2 : (a5 == 2) = false := beq_eq_false_iff_ne.mpr g1
    have g3 : (a5 != 2) = true := bne_iff_ne.mpr g1
    obtain ⟨rfl, rfl, rfl⟩ := sI3 H
    go_enter Try.func13, Try.ntmps13
    go_wp2_with (first | ((with_reducible refine gC 29 ?_); refine cL (some 6) Try.func29 #[.pointer (some ⟨g, 0, none⟩), .int .i64 3] ?_; (with_reducible refine (spec_l06Blocks.calls k g a3 e2 e3 3 a9 b6 b7 w0 _ ?side1 ?side2 A2.out).mono ?_); (case side1 => exact iS71 HI0); (case side2 => exact bI HB (IsS71.ge HI0.out)); rintro e n2 ⟨e9, rfl, f0, hi, hb, hk⟩; refine ⟨_, rfl, ?_⟩; have a2 := aM (Kd.R_lower f0 (keep_size (w := w) (g := g) (row := none) (kp HK))); replace HK := aM (KeepBut.trans (kp HK) hk (.inl rfl)); replace HB := aM (hb); replace HI0 := aM (hi); (try clear hb hk hi f0)) | ((with_reducible refine gC 28 ?_); refine cL (some 8) Try.func28 #[.pointer (some ⟨g, 0, none⟩), .int .i64 12] ?_; (with_reducible refine (spec_l01Below.calls g a3 b6 b7 12 a5 b0 b1 w0 _ ?side1 ?side2 A3.out).mono ?_); (case side1 => exact iS71 HI0); (case side2 => exact bI HB (IsS71.ge HI0.out)); rintro e n5 ⟨rfl, hi, hb, hk⟩; refine ⟨_, rfl, ?_⟩; replace a2 := aM (Kd.R_mono (Kd.R_keep (IsS71.apart (show IsS71 w0 _ g a3 b6 b7 from iS71 HI0) (rS a2) (by decide)) hk (fun _ h => h.2)) (fun _ h => h.1)); replace HK := aM (KeepBut.trans (kp HK) hk (.inl rfl)); replace HB := aM (hb); replace HI0 := aM (hi); (try clear hb hk hi)))
    go_ret
    exact ⟨_, eS, rS a2, iS71 HI0, bI HB (IsS71.ge HI0.out), by repeat (first | (with_reducible first | exact HK.out | apply KeepBut.set_ | apply keep_drewN | apply keep_drew | apply keep_alloc) | exact HK.out)⟩

/-! ### spec_l06First: function 32 -/
def spec_l06First.f (a0 : Int) : Option (Int) := if a0 = 0 then (some 1) else (some 0)
theorem spec_l06First.calls (a0 : Int) (r : Int) (w : World) (h : spec_l06First.f a0 = some r) :
  Calls Try.prog 32 #[.int .i64 a0] w fun e w' => e = .returned (.int .i64 r) ∧ Drawn0 w w' := by
 have H := h
 clear h
 unfold spec_l06First.f at H
 by_cases c2 : a0 = 0
 ·rw [if_pos c2] at H
  have a2 : (a0 == 0) = true := beq_iff_eq.mpr c2
  have a3 : (a0 != 0) = false := bne_eq_false_iff_eq.mpr c2
  clear c2
  obtain rfl := Option.some.inj H
  go_enter Try.func32, Try.ntmps32
  go_wp2
  go_ret
  exact ⟨fS, dS⟩
 ·rw [if_neg c2] at H
  have a2 : (a0 == 0) = false := beq_eq_false_iff_ne.mpr c2
  have a3 : (a0 != 0) = true := bne_iff_ne.mpr c2
  obtain rfl := Option.some.inj H
  go_enter Try.func32, Try.ntmps32
  go_wp2
  go_ret
  exact ⟨fS, dS⟩

/-! ### spec_l07Tokens: function 14 -/
mutual
def spec_l07Tokens.l0 : Nat → List (S46) → Int → List Int → Int → Int → Option ((List (S46)) × Int × Int)
 | 0, _, _, _, _, _ => none
 | k + 1, x3, x4, a2, a3, a5 => (spec_l01Below.f a2 a3 a5 5).bind fun a7 => (if x4 < (wrap64 (1 + a7.1)) then (spec_l07Tokens.j1 k x3 x4 (decide ((x3.length : Int) < 40)) a2 a7.2.1 a7.2.2) else (spec_l07Tokens.j1 k x3 x4 false a2 a7.2.1 a7.2.2))
def spec_l07Tokens.j1 : Nat → List (S46) → Int → Bool → List Int → Int → Int → Option ((List (S46)) × Int × Int)
 | 0, _, _, _, _, _, _ => none
 | k + 1, x3, x4, e5, a2, a3, a5 => if e5 = true then ((spec_l01Below.f a2 a3 a5 7).bind fun a6 => (if a6.1 = 0 then ((spec_l01Below.f a2 a6.2.1 a6.2.2 256).bind fun a8 => ((some (([(⟨(⟨#[]⟩ : ByteArray), a8.1⟩ : S46), (⟨(⟨#[103, 114, 97, 121]⟩ : ByteArray), 0⟩ : S46)] : List (S46)) : List (S46))).bind fun d5 => (if x3.length + d5.length < 5864062014805 then (spec_l07Tokens.l0 k (x3 ++ d5) (wrap64 (x4 + 1)) a2 a8.2.1 a8.2.2) else (none)))) else (if a6.1 = 1 then (spec_l07Tokens.j2 k x3 x4 a6.1 (a6.1 == 1) a2 a6.2.1 a6.2.2) else (spec_l07Tokens.j2 k x3 x4 a6.1 (a6.1 == 2) a2 a6.2.1 a6.2.2)))) else (some (x3, a3, a5))
def spec_l07Tokens.j2 : Nat → List (S46) → Int → Int → Bool → List Int → Int → Int → Option ((List (S46)) × Int × Int)
 | 0, _, _, _, _, _, _, _ => none
 | k + 1, x3, x4, d3, e6, a2, a3, a5 => if e6 = true then ((spec_l01Below.f a2 a3 a5 28).bind fun a9 => ((spec_l01Below.f a2 a9.2.1 a9.2.2 28).bind fun b0 => ((spec_l01Below.f a2 b0.2.1 b0.2.2 14).bind fun b1 => ((spec_l01Below.f a2 b1.2.1 b1.2.2 14).bind fun b2 => ((some (([(⟨(⟨#[]⟩ : ByteArray), a9.1⟩ : S46), (⟨(⟨#[]⟩ : ByteArray), b0.1⟩ : S46), (⟨(⟨#[]⟩ : ByteArray), wrap64 (1 + b1.1)⟩ : S46), (⟨(⟨#[]⟩ : ByteArray), wrap64 (1 + b2.1)⟩ : S46)] : List (S46)) : List (S46))).bind fun d6 => (if x3.length + d6.length < 5864062014805 then ((some (x3 ++ d6 : List (S46))).bind fun e0 => ((spec_l01Pick.f a2 b2.2.1 b2.2.2 (([(⟨#[102, 105, 108, 108]⟩ : ByteArray), (⟨#[102, 105, 108, 108]⟩ : ByteArray), (⟨#[102, 105, 108, 108]⟩ : ByteArray), (⟨#[99, 108, 105, 112]⟩ : ByteArray)] : List ByteArray))).bind fun b6 => ((some (([(⟨(⟨#[114, 101, 99, 116]⟩ : ByteArray), 0⟩ : S46), (⟨b6.1, 0⟩ : S46)] : List (S46)) : List (S46))).bind fun e1 => (if e0.length + e1.length < 5864062014805 then (spec_l07Tokens.l0 k (e0 ++ e1) (wrap64 (x4 + 1)) a2 b6.2.1 b6.2.2) else (none))))) else (none))))))) else (if d3 = 3 then (spec_l07Tokens.j3 k x3 x4 d3 (d3 == 3) a2 a3 a5) else (spec_l07Tokens.j3 k x3 x4 d3 (d3 == 4) a2 a3 a5))
def spec_l07Tokens.j3 : Nat → List (S46) → Int → Int → Bool → List Int → Int → Int → Option ((List (S46)) × Int × Int)
 | 0, _, _, _, _, _, _, _ => none
 | k + 1, x3, x4, d3, e7, a2, a3, a5 => if e7 = true then ((spec_l01Below.f a2 a3 a5 3).bind fun b7 => (spec_l07Tokens.l1 k x3 x4 (wrap64 (3 + b7.1)) 0 a2 b7.2.1 b7.2.2)) else (if d3 = 5 then ((spec_l01Pick.f a2 a3 a5 (([(⟨#[115, 97, 118, 101]⟩ : ByteArray), (⟨#[114, 101, 115, 116, 111, 114, 101]⟩ : ByteArray), (⟨#[110, 101, 119]⟩ : ByteArray)] : List ByteArray))).bind fun b8 => (if x3.length < 5864062014805 then (spec_l07Tokens.l0 k (x3 ++ [(⟨b8.1, 0⟩ : S46)]) (wrap64 (x4 + 1)) a2 b8.2.1 b8.2.2) else (none))) else ((spec_l01Below.f a2 a3 a5 5).bind fun b9 => ((spec_l01Below.f a2 b9.2.1 b9.2.2 5).bind fun d0 => ((some (([(⟨(⟨#[]⟩ : ByteArray), b9.1⟩ : S46), (⟨(⟨#[]⟩ : ByteArray), d0.1⟩ : S46), (⟨(⟨#[115, 104, 105, 102, 116]⟩ : ByteArray), 0⟩ : S46)] : List (S46)) : List (S46))).bind fun e2 => (if x3.length + e2.length < 5864062014805 then (spec_l07Tokens.l0 k (x3 ++ e2) (wrap64 (x4 + 1)) a2 d0.2.1 d0.2.2) else (none))))))
def spec_l07Tokens.l1 : Nat → List (S46) → Int → Int → Int → List Int → Int → Int → Option ((List (S46)) × Int × Int)
 | 0, _, _, _, _, _, _, _ => none
 | k + 1, x3, x4, x8, x9, a2, a3, a5 => if x9 < x8 then ((spec_l01Below.f a2 a3 a5 33).bind fun d1 => ((spec_l01Below.f a2 d1.2.1 d1.2.2 33).bind fun d2 => ((some (([(⟨#[108, 105, 110, 101, 116, 111]⟩ : ByteArray), (⟨#[109, 111, 118, 101, 116, 111]⟩ : ByteArray)] : List ByteArray) : List ByteArray)).bind fun e3 => ((spec_l06First.f x9).bind fun d4 => (if 0 ≤ d4 then (if d4 < (e3.length : Int) then ((some (([(⟨(⟨#[]⟩ : ByteArray), d1.1⟩ : S46), (⟨(⟨#[]⟩ : ByteArray), d2.1⟩ : S46), (⟨rdOf ByteArray.empty e3 d4, 0⟩ : S46)] : List (S46)) : List (S46))).bind fun e4 => (if x3.length + e4.length < 5864062014805 then (spec_l07Tokens.l1 k (x3 ++ e4) x4 x8 (wrap64 (x9 + 1)) a2 d2.2.1 d2.2.2) else (none))) else (none)) else (none)))))) else (if x3.length < 5864062014805 then (spec_l07Tokens.l0 k (x3 ++ [(⟨(⟨#[102, 105, 108, 108]⟩ : ByteArray), 0⟩ : S46)]) (wrap64 (x4 + 1)) a2 a3 a5) else (none))
end
def spec_l07Tokens.f (k : Nat) (a2 : List Int) (a3 : Int) (a5 : Int) : Option ((List (S46)) × Int × Int) := spec_l07Tokens.l0 k (([] : List (S46))) 0 a2 a3 a5
theorem spec_l07Tokens.calls (k : Nat) (g : Nat) (a3 : List Int) (k7 : Int) (k9 : Int) (r1 : List (S46)) (r2 : Int) (r3 : Int) (w0 w : World) (hI : IsS71 w0 w g a3 k7 k9) (hB : Below w0.heap.size w0 w) (h : spec_l07Tokens.f k a3 k7 k9 = some (r1, r2, r3)) :
  Calls Try.prog 14 #[.pointer (some ⟨g, 0, none⟩)] w fun e w' => ∃ v0_ : Value, e = .returned (v0_) ∧ Kd.R k46 46 w' w.heap.size (fun _ => True) v0_ r1 ∧ IsS71 w0 w' g a3 r2 r3 ∧ Below w0.heap.size w0 w' ∧ KeepBut w w' g none := by
 have hu46 := Try.underlying46
 have HI0 := aM hI
 have HK := aM (KeepBut.refl w g none)
 have HL := aM hB.size
 clear hI
 have HW0 := aM hB.size
 have HB := aM hB
 clear hB
 have H := h
 clear h
 unfold spec_l07Tokens.f at H
 obtain ⟨o0, hy_⟩ : ∃ y_ : List (S46), y_ = (([] : List (S46))) := ⟨_, rfl⟩
 replace H : (spec_l07Tokens.l0 k o0 0 a3 k7 k9) = some (r1, r2, r3) := yS
 have Ny234 := aM hy_
 clear hy_
 have H' := aM H
 clear H
 go_enter Try.func14, Try.ntmps14
 go_wp2_with (first | ((with_reducible refine gate_dst (N := 12) rfl ?_); (try (refine gG (by rfl) (by rfl) ?_; dsimp only)); refine Kd.R_lit k46 _ 46 ?hg (N := 12) ?hd (xs := ([] : List (S46))) (inner := []) (ok := fun _ => True) (okp := fun _ => True) ?hr ?hp (fun _ hk => hk) trivial (Below.refl _ _) (Nat.le_refl _) (by simp) ?_; (case hd => rfl); (case hg => rfl); (case hr => first | (go_simp; done) | (go_simp; rfl)); (case hp => exact (Reps.none _ _)); intro v2 w2 o1 hb hg_ hnew_; clear hg_ hnew_; (first | rw [← Ny234.out] at o1 | (simp only [Int.reduceToNat] at o1; rw [← Ny234.out] at o1)); have o4 := aM (Kd.R_lower o1 (keep_size (w := w) (g := g) (row := none) (kp HK))); replace HK := aM (KeepBut.trans (kp HK) (KeepBut.of_below hb g none) (.inl rfl)); replace HB := aM (below_step (bI HB (IsS71.ge HI0.out)) hb); replace HI0 := aM (IsS71.below (iS71 HI0) hb); clear hb o1))
 go_loopg [3, 4] k (fun kq v3 v4 w' => ∃ (a6 : List (S46)) (a7 : Int) (b1 : Int) (b2 : Int), v4 = .int .i64 a7 ∧ Aside0 (spec_l07Tokens.l0 kq a6 a7 a3 b1 b2 = some (r1, r2, r3)) ∧ Aside0 (kq ≤ k) ∧ Aside0 (Kd.R k46 46 w' w.heap.size (fun _ => True) v3 a6) ∧ Aside0 (IsS71 w0 w' g a3 b1 b2) ∧ Aside0 (KeepBut w w' g none) ∧ Aside0 (Below w0.heap.size w0 w'))
 case atStart => exact ⟨(o0), (0), (k7), (k9), fS, H', ⟨Nat.le_refl _⟩, ⟨rS o4⟩, ⟨iS71 HI0⟩, ⟨kp HK⟩, ⟨bI HB (IsS71.ge HI0.out)⟩⟩
 case round =>
  clear H'
  try clear c1
  try clear p2
  obtain ⟨a6, a7, b1, b2, rfl, HA, f3, a2, HI0, HK, HB⟩ := hrel
  cases gk with
  | zero => exact absurd HA.out (by simp [spec_l07Tokens.l0])
  | succ k1 =>
   have H := HA.out
   clear HA
   simp only [spec_l07Tokens.l0] at H
   have s3 := aM H
   clear H
   go_upto_region 3 with (fail)
   go_cut [22] (fun v5 wc => ∃ (kq : Nat) (h1 : Bool) (b6 : Int) (b7 : Int), v5 = .bool h1 ∧ Aside0 (spec_l07Tokens.j1 kq a6 a7 h1 a3 b6 b7 = some (r1, r2, r3)) ∧ Aside0 (kq ≤ k1) ∧ Aside0 (Kd.R k46 46 wc w.heap.size (fun _ => True) u3 a6) ∧ Aside0 (IsS71 w0 wc g a3 b6 b7) ∧ Aside0 (KeepBut w wc g none) ∧ Aside0 (Below w0.heap.size w0 wc))
   case first =>
    have H := s3.out
    clear s3
    replace H := bN H
    obtain ⟨⟨o5, l3, l4⟩, A5, H⟩ := H
    rcases iD H with ⟨e4, H⟩ | ⟨e4, H⟩
    ·(first | rw [e4] | (simp only [i64_w, i32_w]; rw [e4]) | skip)
     have H' := aM H
     clear H
     go_wp2_with (first | ((with_reducible refine gC 28 ?_); refine cL (some 15) Try.func28 #[.pointer (some ⟨g, 0, none⟩), .int .i64 5] ?_; (with_reducible refine (spec_l01Below.calls g a3 b1 b2 5 o5 l3 l4 w0 _ ?side1 ?side2 A5.out).mono ?_); (case side1 => exact iS71 HI0); (case side2 => exact bI HB (IsS71.ge HI0.out)); rintro e w7 ⟨rfl, hi, hb, hk⟩; refine ⟨_, rfl, ?_⟩; replace a2 := aM (Kd.R_mono (Kd.R_keep (IsS71.apart (show IsS71 w0 _ g a3 b1 b2 from iS71 HI0) (rS a2) (by decide)) hk (fun _ h => h.2)) (fun _ h => h.1)); replace HK := aM (KeepBut.trans (kp HK) hk (.inl rfl)); replace HB := aM (hb); replace HI0 := aM (hi); (try clear hb hk hi); obtain ⟨B8, B9, v6⟩ := Kd.R_slice a2.out; subst v6))
     go_meet
     case rel => exact ⟨_, (decide ((a6.length : Int) < 40)), (l3), (l4), fS, H', ⟨by have := f3.out; first | omega | exact Nat.le_refl _⟩, ⟨rS a2⟩, ⟨iS71 HI0⟩, ⟨kp HK⟩, ⟨bI HB (IsS71.ge HI0.out)⟩⟩
    ·(first | rw [e4] | (simp only [i64_w, i32_w]; rw [e4]) | skip)
     have H' := aM H
     clear H
     go_wp2_with (first | ((with_reducible refine gC 28 ?_); refine cL (some 15) Try.func28 #[.pointer (some ⟨g, 0, none⟩), .int .i64 5] ?_; (with_reducible refine (spec_l01Below.calls g a3 b1 b2 5 o5 l3 l4 w0 _ ?side1 ?side2 A5.out).mono ?_); (case side1 => exact iS71 HI0); (case side2 => exact bI HB (IsS71.ge HI0.out)); rintro e w9 ⟨rfl, hi, hb, hk⟩; refine ⟨_, rfl, ?_⟩; replace a2 := aM (Kd.R_mono (Kd.R_keep (IsS71.apart (show IsS71 w0 _ g a3 b1 b2 from iS71 HI0) (rS a2) (by decide)) hk (fun _ h => h.2)) (fun _ h => h.1)); replace HK := aM (KeepBut.trans (kp HK) hk (.inl rfl)); replace HB := aM (hb); replace HI0 := aM (hi); (try clear hb hk hi)))
     go_meet
     case rel => exact ⟨_, (false), (l3), (l4), fS, H', ⟨by have := f3.out; first | omega | exact Nat.le_refl _⟩, ⟨rS a2⟩, ⟨iS71 HI0⟩, ⟨kp HK⟩, ⟨bI HB (IsS71.ge HI0.out)⟩⟩
   case rest =>
    clear s3
    try clear c1
    try clear c2
    try clear p2
    try clear c6
    try clear e4
    try clear p6
    try clear p2
    obtain ⟨kq, h1, b6, b7, rfl, HA, HJ3, a2, HI0, HK, HB⟩ := hcut
    cases kq with
    | zero => exact absurd HA.out (by simp [spec_l07Tokens.j1])
    | succ kj3 =>
     have H := HA.out
     clear HA
     simp only [spec_l07Tokens.j1] at H
     by_cases c10 : h1 = true
     ·subst c10
      rw [if_pos rfl] at H
      replace H := bN H
      obtain ⟨⟨a5, b9, d0⟩, u6, H⟩ := H
      by_cases k4 : a5 = 0
      ·rw [if_pos k4] at H
       have h2 : (a5 == 0) = true := beq_iff_eq.mpr k4
       have h3 : (a5 != 0) = false := bne_eq_false_iff_eq.mpr k4
       clear k4
       replace H := bN H
       obtain ⟨⟨g1, i3, i4⟩, v7, H⟩ := H
       obtain ⟨i5, hy_⟩ : ∃ y_ : List (S46), y_ = (([(⟨(⟨#[]⟩ : ByteArray), g1⟩ : S46), (⟨(⟨#[103, 114, 97, 121]⟩ : ByteArray), 0⟩ : S46)] : List (S46))) := ⟨_, rfl⟩
       replace H : (if a6.length + i5.length < 5864062014805 then (spec_l07Tokens.l0 kj3 (a6 ++ i5) (wrap64 (a7 + 1)) a3 i3 i4) else (none)) = some (r1, r2, r3) := yS
       have Ny246 := aM hy_
       clear hy_
       obtain ⟨LMc14, H⟩ := iL H
       obtain ⟨o6, hy_⟩ : ∃ y_ : List (S46), y_ = (a6 ++ i5) := ⟨_, rfl⟩
       replace H : (spec_l07Tokens.l0 kj3 o6 (wrap64 (a7 + 1)) a3 i3 i4) = some (r1, r2, r3) := yS
       have Ny249 := aM hy_
       clear hy_
       have H' := aM H
       clear H
       go_wp2_with (first | ((with_reducible refine gC 28 ?_); refine cL (some 26) Try.func28 #[.pointer (some ⟨g, 0, none⟩), .int .i64 7] ?_; (with_reducible refine (spec_l01Below.calls g a3 b6 b7 7 a5 b9 d0 w0 _ ?side1 ?side2 u6.out).mono ?_); (case side1 => exact iS71 HI0); (case side2 => exact bI HB (IsS71.ge HI0.out)); rintro e C0 ⟨rfl, hi, hb, hk⟩; refine ⟨_, rfl, ?_⟩; replace a2 := aM (Kd.R_mono (Kd.R_keep (IsS71.apart (show IsS71 w0 _ g a3 b6 b7 from iS71 HI0) (rS a2) (by decide)) hk (fun _ h => h.2)) (fun _ h => h.1)); replace HK := aM (KeepBut.trans (kp HK) hk (.inl rfl)); replace HB := aM (hb); replace HI0 := aM (hi); (try clear hb hk hi)) | ((with_reducible refine gC 28 ?_); refine cL (some 42) Try.func28 #[.pointer (some ⟨g, 0, none⟩), .int .i64 256] ?_; (with_reducible refine (spec_l01Below.calls g a3 b9 d0 256 g1 i3 i4 w0 _ ?side1 ?side2 v7.out).mono ?_); (case side1 => exact iS71 HI0); (case side2 => exact bI HB (IsS71.ge HI0.out)); rintro e C2 ⟨rfl, hi, hb, hk⟩; refine ⟨_, rfl, ?_⟩; replace a2 := aM (Kd.R_mono (Kd.R_keep (IsS71.apart (show IsS71 w0 _ g a3 b9 d0 from iS71 HI0) (rS a2) (by decide)) hk (fun _ h => h.2)) (fun _ h => h.1)); replace HK := aM (KeepBut.trans (kp HK) hk (.inl rfl)); replace HB := aM (hb); replace HI0 := aM (hi); (try clear hb hk hi)) | ((with_reducible refine gate_dst (N := 45) rfl ?_); (try (refine gG (by rfl) (by rfl) ?_; dsimp only)); refine Kd.R_lit k46 _ 46 ?hg (N := 45) ?hd (xs := ([(⟨(⟨#[]⟩ : ByteArray), g1⟩ : S46), (⟨(⟨#[103, 114, 97, 121]⟩ : ByteArray), 0⟩ : S46)] : List (S46))) (inner := [.string (⟨#[]⟩ : ByteArray), .int .i64 g1, .string (⟨#[103, 114, 97, 121]⟩ : ByteArray), .int .i64 0]) (ok := fun _ => True) (okp := fun _ => True) ?hr ?hp (fun _ hk => hk) trivial (Below.refl _ _) (Nat.le_refl _) (by simp) ?_; (case hd => rfl); (case hg => rfl); (case hr => first | (go_simp; done) | (go_simp; rfl)); (case hp => exact (Reps.c2 (show Kd.M k46 _ _ _ (⟨(⟨#[]⟩ : ByteArray), g1⟩ : S46) [.string (⟨#[]⟩ : ByteArray), .int .i64 g1] from (k46_mkM _ _ _ (⟨(⟨#[]⟩ : ByteArray), g1⟩ : S46) )) (Reps.c2 (show Kd.M k46 _ _ _ (⟨(⟨#[103, 114, 97, 121]⟩ : ByteArray), 0⟩ : S46) [.string (⟨#[103, 114, 97, 121]⟩ : ByteArray), .int .i64 0] from (k46_mkM _ _ _ (⟨(⟨#[103, 114, 97, 121]⟩ : ByteArray), 0⟩ : S46) )) (Reps.none _ _)))); intro v8 C3 h5 hb hg_ hnew_; clear hg_ hnew_; (first | rw [← Ny246.out] at h5 | (simp only [Int.reduceToNat] at h5; rw [← Ny246.out] at h5)); have f4 := aM (Kd.R_lower (Kd.R_new' h5 (Kd.R_lt (rS a2))) (keep_size (w := w) (g := g) (row := none) (kp HK))); replace a2 := aM (Kd.R_elder' (rS a2) (Kd.R_base h5) hb); replace HK := aM (KeepBut.trans (kp HK) (KeepBut.of_below hb g none) (.inl rfl)); replace HB := aM (below_step (bI HB (IsS71.ge HI0.out)) hb); replace HI0 := aM (IsS71.below (iS71 HI0) hb); clear hb h5; obtain ⟨s4, s5, s6⟩ := Kd.R_slice f4.out; subst s6) | ((with_reducible refine gate_builtin (b := .append) (xs := #[.tmp 40, .tmp 45]) rfl ?_); (try (refine gG (by rfl) (by rfl) ?_; dsimp only)); at_builtin; refine Kd.R_append_rows k46 w.heap.size rfl (.tmp 40) (.tmp 45) 24 46 (.agg #[(.string ⟨#[]⟩), (.int .i64 0)]) 24 rfl Try.underlying24 info46 rfl (by decide) (by omega) u3 a6 i5 _ _ _ (fun k_ => some k_ ≠ (.slice s4 i5.length s5 : Value).ownBlock) (fun _ => False) rfl rfl ?aO ?aR (fun _ _ h => h) (fun _ h => h.elim) ?aF (Below.refl _ _) ?aS ?aL ?_; (case aR => exact cS (Kd.R_reads' f4.out).2.2); (case aF => exact (fun k_ hk => Kd.fresh' (Kd.R_lt (rS f4)) k_ hk)); (case aO => exact (by exact rM a2)); (case aS => exact (keep_size (w := w) (g := g) (row := none) (kp HK))); (case aL => have := LMc14.out; (try dsimp only at this); omega); intro w8 C4 ho hb hg hat; rw [← Ny249.out] at ho; have o7 := aM (ho); replace f4 := aM (Kd.R_after (ok := (fun _ => True)) (rS f4) hg hat); replace HB := aM (below_weaken (bI HB (IsS71.ge HI0.out)) HL.out hb); replace HI0 := aM (IsS71.grown (show IsS71 w0 _ g a3 i3 i4 from iS71 HI0) hg (IsS71.own_ne HI0.out a2.out (by decide))); replace HK := aM (KeepBut.trans (kp HK) (KeepBut.of_grown hg g) (Kd.R_base2 a2.out)); clear a2; clear ho hb hg hat))
       go_roundg kj3
       case measure => have := f3.out; have := HJ3.out; omega
       case rel => exact ⟨(o6), (wrap64 (a7 + 1)), (i3), (i4), fS, H', ⟨by have := f3.out; have := HJ3.out; omega⟩, ⟨by exact rT (Kd.R_mono o7.out (fun _ hk => trivial))⟩, ⟨iS71 HI0⟩, ⟨kp HK⟩, ⟨bI HB (IsS71.ge HI0.out)⟩⟩
      ·rw [if_neg k4] at H
       have h2 : (a5 == 0) = false := beq_eq_false_iff_ne.mpr k4
       have h3 : (a5 != 0) = true := bne_iff_ne.mpr k4
       have l8 := aM H
       clear H
       go_upto_if 47 with (first | ((with_reducible refine gC 28 ?_); refine cL (some 26) Try.func28 #[.pointer (some ⟨g, 0, none⟩), .int .i64 7] ?_; (with_reducible refine (spec_l01Below.calls g a3 b6 b7 7 a5 b9 d0 w0 _ ?side1 ?side2 u6.out).mono ?_); (case side1 => exact iS71 HI0); (case side2 => exact bI HB (IsS71.ge HI0.out)); rintro e C5 ⟨rfl, hi, hb, hk⟩; refine ⟨_, rfl, ?_⟩; replace a2 := aM (Kd.R_mono (Kd.R_keep (IsS71.apart (show IsS71 w0 _ g a3 b6 b7 from iS71 HI0) (rS a2) (by decide)) hk (fun _ h => h.2)) (fun _ h => h.1)); replace HK := aM (KeepBut.trans (kp HK) hk (.inl rfl)); replace HB := aM (hb); replace HI0 := aM (hi); (try clear hb hk hi)))
       (try simp only [Act.put, List.setIfInBounds_toArray, List.set_cons_zero, List.set_cons_succ])
       go_cut [47] (fun x0 wc => ∃ (kq : Nat) (e5 : Bool), x0 = .bool e5 ∧ Aside0 (spec_l07Tokens.j2 kq a6 a7 a5 e5 a3 b9 d0 = some (r1, r2, r3)) ∧ Aside0 (kq ≤ kj3) ∧ Aside0 (Kd.R k46 46 wc w.heap.size (fun _ => True) u3 a6) ∧ Aside0 (IsS71 w0 wc g a3 b9 d0) ∧ Aside0 (KeepBut w wc g none) ∧ Aside0 (Below w0.heap.size w0 wc))
       case first =>
        have H := l8.out
        clear l8
        by_cases k6 : a5 = 1
        ·rw [if_pos k6] at H
         have d5 : (a5 == 1) = true := beq_iff_eq.mpr k6
         have h4 : (a5 != 1) = false := bne_eq_false_iff_eq.mpr k6
         clear k6
         (first | rw [d5] | (simp only [i64_w, i32_w]; rw [d5]) | skip)
         have H' := aM H
         clear H
         go_wp2
         go_meet
         case rel => exact ⟨_, ((a5 == 1)), fS, H', ⟨by have := f3.out; have := HJ3.out; first | omega | exact Nat.le_refl _⟩, ⟨rS a2⟩, ⟨iS71 HI0⟩, ⟨kp HK⟩, ⟨bI HB (IsS71.ge HI0.out)⟩⟩
        ·rw [if_neg k6] at H
         have d5 : (a5 == 1) = false := beq_eq_false_iff_ne.mpr k6
         have h4 : (a5 != 1) = true := bne_iff_ne.mpr k6
         (first | rw [d5] | (simp only [i64_w, i32_w]; rw [d5]) | skip)
         have H' := aM H
         clear H
         go_wp2
         go_meet
         case rel => exact ⟨_, ((a5 == 2)), fS, H', ⟨by have := f3.out; have := HJ3.out; first | omega | exact Nat.le_refl _⟩, ⟨rS a2⟩, ⟨iS71 HI0⟩, ⟨kp HK⟩, ⟨bI HB (IsS71.ge HI0.out)⟩⟩
       case rest =>
        clear l8
        try clear c1
        try clear c2
        try clear p2
        try clear c6
        try clear e4
        try clear p6
        try clear c10
        try clear k4
        try clear h2
        try clear h3
        try clear u7
        try clear k6
        try clear d5
        try clear h4
        try clear p2
        try clear p6
        obtain ⟨kq, e5, rfl, HA, HJ20, a2, HI0, HK, HB⟩ := hcut
        cases kq with
        | zero => exact absurd HA.out (by simp [spec_l07Tokens.j2])
        | succ kj20 =>
         have H := HA.out
         clear HA
         simp only [spec_l07Tokens.j2] at H
         by_cases c24 : e5 = true
         ·subst c24
          rw [if_pos rfl] at H
          replace H := bN H
          obtain ⟨⟨g2, l9, m0⟩, x1, H⟩ := H
          replace H := bN H
          obtain ⟨⟨g3, m1, m2⟩, x2, H⟩ := H
          replace H := bN H
          obtain ⟨⟨g4, m3, m4⟩, x3, H⟩ := H
          replace H := bN H
          obtain ⟨⟨g5, e6, e7⟩, x4, H⟩ := H
          obtain ⟨g6, hy_⟩ : ∃ y_ : List (S46), y_ = (([(⟨(⟨#[]⟩ : ByteArray), g2⟩ : S46), (⟨(⟨#[]⟩ : ByteArray), g3⟩ : S46), (⟨(⟨#[]⟩ : ByteArray), wrap64 (1 + g4)⟩ : S46), (⟨(⟨#[]⟩ : ByteArray), wrap64 (1 + g5)⟩ : S46)] : List (S46))) := ⟨_, rfl⟩
          replace H : (if a6.length + g6.length < 5864062014805 then ((some (a6 ++ g6 : List (S46))).bind fun e0 => ((spec_l01Pick.f a3 e6 e7 (([(⟨#[102, 105, 108, 108]⟩ : ByteArray), (⟨#[102, 105, 108, 108]⟩ : ByteArray), (⟨#[102, 105, 108, 108]⟩ : ByteArray), (⟨#[99, 108, 105, 112]⟩ : ByteArray)] : List ByteArray))).bind fun d1 => ((some (([(⟨(⟨#[114, 101, 99, 116]⟩ : ByteArray), 0⟩ : S46), (⟨d1.1, 0⟩ : S46)] : List (S46)) : List (S46))).bind fun d3 => (if e0.length + d3.length < 5864062014805 then (spec_l07Tokens.l0 kj20 (e0 ++ d3) (wrap64 (a7 + 1)) a3 d1.2.1 d1.2.2) else (none))))) else (none)) = some (r1, r2, r3) := yS
          have Ny264 := aM hy_
          clear hy_
          obtain ⟨LMc29, H⟩ := iL H
          obtain ⟨e0, hy_⟩ : ∃ y_ : List (S46), y_ = (a6 ++ g6) := ⟨_, rfl⟩
          replace H : ((spec_l01Pick.f a3 e6 e7 (([(⟨#[102, 105, 108, 108]⟩ : ByteArray), (⟨#[102, 105, 108, 108]⟩ : ByteArray), (⟨#[102, 105, 108, 108]⟩ : ByteArray), (⟨#[99, 108, 105, 112]⟩ : ByteArray)] : List ByteArray))).bind fun d1 => ((some (([(⟨(⟨#[114, 101, 99, 116]⟩ : ByteArray), 0⟩ : S46), (⟨d1.1, 0⟩ : S46)] : List (S46)) : List (S46))).bind fun d3 => (if e0.length + d3.length < 5864062014805 then (spec_l07Tokens.l0 kj20 (e0 ++ d3) (wrap64 (a7 + 1)) a3 d1.2.1 d1.2.2) else (none)))) = some (r1, r2, r3) := yS
          have Ny267 := aM hy_
          clear hy_
          obtain ⟨m5, hy_⟩ : ∃ y_ : List ByteArray, y_ = (([(⟨#[102, 105, 108, 108]⟩ : ByteArray), (⟨#[102, 105, 108, 108]⟩ : ByteArray), (⟨#[102, 105, 108, 108]⟩ : ByteArray), (⟨#[99, 108, 105, 112]⟩ : ByteArray)] : List ByteArray)) := ⟨_, rfl⟩
          replace H : ((spec_l01Pick.f a3 e6 e7 m5).bind fun d1 => ((some (([(⟨(⟨#[114, 101, 99, 116]⟩ : ByteArray), 0⟩ : S46), (⟨d1.1, 0⟩ : S46)] : List (S46)) : List (S46))).bind fun d3 => (if e0.length + d3.length < 5864062014805 then (spec_l07Tokens.l0 kj20 (e0 ++ d3) (wrap64 (a7 + 1)) a3 d1.2.1 d1.2.2) else (none)))) = some (r1, r2, r3) := yS
          have Ny270 := aM hy_
          clear hy_
          replace H := bN H
          obtain ⟨⟨g7, i6, i7⟩, x5, H⟩ := H
          obtain ⟨d3, hy_⟩ : ∃ y_ : List (S46), y_ = (([(⟨(⟨#[114, 101, 99, 116]⟩ : ByteArray), 0⟩ : S46), (⟨g7, 0⟩ : S46)] : List (S46))) := ⟨_, rfl⟩
          replace H : (if e0.length + d3.length < 5864062014805 then (spec_l07Tokens.l0 kj20 (e0 ++ d3) (wrap64 (a7 + 1)) a3 i6 i7) else (none)) = some (r1, r2, r3) := yS
          have Ny276 := aM hy_
          clear hy_
          obtain ⟨LMc31, H⟩ := iL H
          obtain ⟨o8, hy_⟩ : ∃ y_ : List (S46), y_ = (e0 ++ d3) := ⟨_, rfl⟩
          replace H : (spec_l07Tokens.l0 kj20 o8 (wrap64 (a7 + 1)) a3 i6 i7) = some (r1, r2, r3) := yS
          have Ny279 := aM hy_
          clear hy_
          have H' := aM H
          clear H
          go_wp2_with (first | ((with_reducible refine gC 28 ?_); refine cL (some 51) Try.func28 #[.pointer (some ⟨g, 0, none⟩), .int .i64 28] ?_; (with_reducible refine (spec_l01Below.calls g a3 b9 d0 28 g2 l9 m0 w0 _ ?side1 ?side2 x1.out).mono ?_); (case side1 => exact iS71 HI0); (case side2 => exact bI HB (IsS71.ge HI0.out)); rintro e C6 ⟨rfl, hi, hb, hk⟩; refine ⟨_, rfl, ?_⟩; replace a2 := aM (Kd.R_mono (Kd.R_keep (IsS71.apart (show IsS71 w0 _ g a3 b9 d0 from iS71 HI0) (rS a2) (by decide)) hk (fun _ h => h.2)) (fun _ h => h.1)); replace HK := aM (KeepBut.trans (kp HK) hk (.inl rfl)); replace HB := aM (hb); replace HI0 := aM (hi); (try clear hb hk hi)) | ((with_reducible refine gC 28 ?_); refine cL (some 53) Try.func28 #[.pointer (some ⟨g, 0, none⟩), .int .i64 28] ?_; (with_reducible refine (spec_l01Below.calls g a3 l9 m0 28 g3 m1 m2 w0 _ ?side1 ?side2 x2.out).mono ?_); (case side1 => exact iS71 HI0); (case side2 => exact bI HB (IsS71.ge HI0.out)); rintro e C7 ⟨rfl, hi, hb, hk⟩; refine ⟨_, rfl, ?_⟩; replace a2 := aM (Kd.R_mono (Kd.R_keep (IsS71.apart (show IsS71 w0 _ g a3 l9 m0 from iS71 HI0) (rS a2) (by decide)) hk (fun _ h => h.2)) (fun _ h => h.1)); replace HK := aM (KeepBut.trans (kp HK) hk (.inl rfl)); replace HB := aM (hb); replace HI0 := aM (hi); (try clear hb hk hi)) | ((with_reducible refine gC 28 ?_); refine cL (some 55) Try.func28 #[.pointer (some ⟨g, 0, none⟩), .int .i64 14] ?_; (with_reducible refine (spec_l01Below.calls g a3 m1 m2 14 g4 m3 m4 w0 _ ?side1 ?side2 x3.out).mono ?_); (case side1 => exact iS71 HI0); (case side2 => exact bI HB (IsS71.ge HI0.out)); rintro e C9 ⟨rfl, hi, hb, hk⟩; refine ⟨_, rfl, ?_⟩; replace a2 := aM (Kd.R_mono (Kd.R_keep (IsS71.apart (show IsS71 w0 _ g a3 m1 m2 from iS71 HI0) (rS a2) (by decide)) hk (fun _ h => h.2)) (fun _ h => h.1)); replace HK := aM (KeepBut.trans (kp HK) hk (.inl rfl)); replace HB := aM (hb); replace HI0 := aM (hi); (try clear hb hk hi)) | ((with_reducible refine gC 28 ?_); refine cL (some 65) Try.func28 #[.pointer (some ⟨g, 0, none⟩), .int .i64 14] ?_; (with_reducible refine (spec_l01Below.calls g a3 m3 m4 14 g5 e6 e7 w0 _ ?side1 ?side2 x4.out).mono ?_); (case side1 => exact iS71 HI0); (case side2 => exact bI HB (IsS71.ge HI0.out)); rintro e D0 ⟨rfl, hi, hb, hk⟩; refine ⟨_, rfl, ?_⟩; replace a2 := aM (Kd.R_mono (Kd.R_keep (IsS71.apart (show IsS71 w0 _ g a3 m3 m4 from iS71 HI0) (rS a2) (by decide)) hk (fun _ h => h.2)) (fun _ h => h.1)); replace HK := aM (KeepBut.trans (kp HK) hk (.inl rfl)); replace HB := aM (hb); replace HI0 := aM (hi); (try clear hb hk hi)) | ((with_reducible refine gate_dst (N := 68) rfl ?_); (try (refine gG (by rfl) (by rfl) ?_; dsimp only)); refine Kd.R_lit k46 _ 46 ?hg (N := 68) ?hd (xs := ([(⟨(⟨#[]⟩ : ByteArray), g2⟩ : S46), (⟨(⟨#[]⟩ : ByteArray), g3⟩ : S46), (⟨(⟨#[]⟩ : ByteArray), wrap64 (1 + g4)⟩ : S46), (⟨(⟨#[]⟩ : ByteArray), wrap64 (1 + g5)⟩ : S46)] : List (S46))) (inner := [.string (⟨#[]⟩ : ByteArray), .int .i64 g2, .string (⟨#[]⟩ : ByteArray), .int .i64 g3, .string (⟨#[]⟩ : ByteArray), .int .i64 (wrap64 (1 + g4)), .string (⟨#[]⟩ : ByteArray), .int .i64 (wrap64 (1 + g5))]) (ok := fun _ => True) (okp := fun _ => True) ?hr ?hp (fun _ hk => hk) trivial (Below.refl _ _) (Nat.le_refl _) (by simp) ?_; (case hd => rfl); (case hg => rfl); (case hr => first | (go_simp; done) | (go_simp; rfl)); (case hp => exact (Reps.c2 (show Kd.M k46 _ _ _ (⟨(⟨#[]⟩ : ByteArray), g2⟩ : S46) [.string (⟨#[]⟩ : ByteArray), .int .i64 g2] from (k46_mkM _ _ _ (⟨(⟨#[]⟩ : ByteArray), g2⟩ : S46) )) (Reps.c2 (show Kd.M k46 _ _ _ (⟨(⟨#[]⟩ : ByteArray), g3⟩ : S46) [.string (⟨#[]⟩ : ByteArray), .int .i64 g3] from (k46_mkM _ _ _ (⟨(⟨#[]⟩ : ByteArray), g3⟩ : S46) )) (Reps.c2 (show Kd.M k46 _ _ _ (⟨(⟨#[]⟩ : ByteArray), wrap64 (1 + g4)⟩ : S46) [.string (⟨#[]⟩ : ByteArray), .int .i64 (wrap64 (1 + g4))] from (k46_mkM _ _ _ (⟨(⟨#[]⟩ : ByteArray), wrap64 (1 + g4)⟩ : S46) )) (Reps.c2 (show Kd.M k46 _ _ _ (⟨(⟨#[]⟩ : ByteArray), wrap64 (1 + g5)⟩ : S46) [.string (⟨#[]⟩ : ByteArray), .int .i64 (wrap64 (1 + g5))] from (k46_mkM _ _ _ (⟨(⟨#[]⟩ : ByteArray), wrap64 (1 + g5)⟩ : S46) )) (Reps.none _ _)))))); intro x6 D1 h6 hb hg_ hnew_; clear hg_ hnew_; (first | rw [← Ny264.out] at h6 | (simp only [Int.reduceToNat] at h6; rw [← Ny264.out] at h6)); have a8 := aM (Kd.R_lower (Kd.R_new' h6 (Kd.R_lt (rS a2))) (keep_size (w := w) (g := g) (row := none) (kp HK))); replace a2 := aM (Kd.R_elder' (rS a2) (Kd.R_base h6) hb); replace HK := aM (KeepBut.trans (kp HK) (KeepBut.of_below hb g none) (.inl rfl)); replace HB := aM (below_step (bI HB (IsS71.ge HI0.out)) hb); replace HI0 := aM (IsS71.below (iS71 HI0) hb); clear hb h6; obtain ⟨m6, m7, s7⟩ := Kd.R_slice a8.out; subst s7) | ((with_reducible refine gate_builtin (b := .append) (xs := #[.tmp 57, .tmp 68]) rfl ?_); (try (refine gG (by rfl) (by rfl) ?_; dsimp only)); at_builtin; refine Kd.R_append_rows k46 w.heap.size rfl (.tmp 57) (.tmp 68) 24 46 (.agg #[(.string ⟨#[]⟩), (.int .i64 0)]) 24 rfl Try.underlying24 info46 rfl (by decide) (by omega) u3 a6 g6 _ _ _ (fun k_ => some k_ ≠ (.slice m6 g6.length m7 : Value).ownBlock) (fun _ => False) rfl rfl ?aO ?aR (fun _ _ h => h) (fun _ h => h.elim) ?aF (Below.refl _ _) ?aS ?aL ?_; (case aR => exact cS (Kd.R_reads' a8.out).2.2); (case aF => exact (fun k_ hk => Kd.fresh' (Kd.R_lt (rS a8)) k_ hk)); (case aO => exact (by exact rM a2)); (case aS => exact (keep_size (w := w) (g := g) (row := none) (kp HK))); (case aL => have := LMc29.out; (try dsimp only at this); omega); intro s8 D2 ho hb hg hat; rw [← Ny267.out] at ho; have b8 := aM (ho); replace a8 := aM (Kd.R_after (ok := (fun _ => True)) (rS a8) hg hat); replace HB := aM (below_weaken (bI HB (IsS71.ge HI0.out)) HL.out hb); replace HI0 := aM (IsS71.grown (show IsS71 w0 _ g a3 e6 e7 from iS71 HI0) hg (IsS71.own_ne HI0.out a2.out (by decide))); replace HK := aM (KeepBut.trans (kp HK) (KeepBut.of_grown hg g) (Kd.R_base2 a2.out)); clear a2; clear ho hb hg hat) | ((with_reducible refine gate_dst (N := 73) rfl ?_); (try (refine gG (by rfl) (by rfl) ?_; dsimp only)); refine Kd.R_lit Kd.string _ 9 ?hg (N := 73) ?hd (xs := ([(⟨#[102, 105, 108, 108]⟩ : ByteArray), (⟨#[102, 105, 108, 108]⟩ : ByteArray), (⟨#[102, 105, 108, 108]⟩ : ByteArray), (⟨#[99, 108, 105, 112]⟩ : ByteArray)] : List ByteArray)) (inner := [.string (⟨#[102, 105, 108, 108]⟩ : ByteArray), .string (⟨#[102, 105, 108, 108]⟩ : ByteArray), .string (⟨#[102, 105, 108, 108]⟩ : ByteArray), .string (⟨#[99, 108, 105, 112]⟩ : ByteArray)]) (ok := fun _ => True) (okp := fun _ => True) ?hr ?hp (fun _ hk => hk) trivial (Below.refl _ _) (Nat.le_refl _) (by simp) ?_; (case hd => rfl); (case hg => rfl); (case hr => first | (go_simp; done) | (go_simp; rfl)); (case hp => exact (Reps.one (show Kd.M Kd.string _ _ _ (⟨#[102, 105, 108, 108]⟩ : ByteArray) [.string (⟨#[102, 105, 108, 108]⟩ : ByteArray)] from rfl) (Reps.one (show Kd.M Kd.string _ _ _ (⟨#[102, 105, 108, 108]⟩ : ByteArray) [.string (⟨#[102, 105, 108, 108]⟩ : ByteArray)] from rfl) (Reps.one (show Kd.M Kd.string _ _ _ (⟨#[102, 105, 108, 108]⟩ : ByteArray) [.string (⟨#[102, 105, 108, 108]⟩ : ByteArray)] from rfl) (Reps.one (show Kd.M Kd.string _ _ _ (⟨#[99, 108, 105, 112]⟩ : ByteArray) [.string (⟨#[99, 108, 105, 112]⟩ : ByteArray)] from rfl) (Reps.none _ _)))))); intro x7 D3 i8 hb hg_ hnew_; clear hg_ hnew_; (first | rw [← Ny270.out] at i8 | (simp only [Int.reduceToNat] at i8; rw [← Ny270.out] at i8)); have d2 := aM (Kd.R_lower i8 (keep_size (w := w) (g := g) (row := none) (kp HK))); replace a8 := rB a8 hb; replace b8 := rB b8 hb; replace HK := aM (KeepBut.trans (kp HK) (KeepBut.of_below hb g none) (.inl rfl)); replace HB := aM (below_step (bI HB (IsS71.ge HI0.out)) hb); replace HI0 := aM (IsS71.below (iS71 HI0) hb); clear hb i8; obtain ⟨s9, t0, t1⟩ := Kd.R_slice d2.out; subst t1) | ((with_reducible refine gC 30 ?_); refine cL (some 74) Try.func30 #[.pointer (some ⟨g, 0, none⟩), .slice s9 m5.length t0] ?_; (with_reducible refine (spec_l01Pick.calls g a3 e6 e7 _ _ m5 g7 i6 i7 w0 _ ?side1 ?side2 ?side3 ?side4 ?side5 x5.out).mono ?_); (case side1 => exact iS71 HI0); (case side2 => exact bI HB (IsS71.ge HI0.out)); (case side3 => exact cS (Kd.R_reads' d2.out).2.2); (case side4 => exact (Kd.R_reads' d2.out).2.1); (case side5 => exact far_slice (IsS71.own_ne HI0.out d2.out (by decide))); rintro e D4 ⟨rfl, hi, hb, hk⟩; refine ⟨_, rfl, ?_⟩; replace a8 := aM (Kd.R_mono (Kd.R_keep (IsS71.apart (show IsS71 w0 _ g a3 e6 e7 from iS71 HI0) (rS a8) (by decide)) hk (fun _ h => h.2)) (fun _ h => h.1)); replace b8 := aM (Kd.R_mono (Kd.R_keep (IsS71.apart (show IsS71 w0 _ g a3 e6 e7 from iS71 HI0) (rS b8) (by decide)) hk (fun _ h => h.2)) (fun _ h => h.1)); replace d2 := aM (Kd.R_mono (Kd.R_keep (IsS71.apart (show IsS71 w0 _ g a3 e6 e7 from iS71 HI0) (rS d2) (by decide)) hk (fun _ h => h.2)) (fun _ h => h.1)); replace HK := aM (KeepBut.trans (kp HK) hk (.inl rfl)); replace HB := aM (hb); replace HI0 := aM (hi); (try clear hb hk hi)) | ((with_reducible refine gate_dst (N := 76) rfl ?_); (try (refine gG (by rfl) (by rfl) ?_; dsimp only)); refine Kd.R_lit k46 _ 46 ?hg (N := 76) ?hd (xs := ([(⟨(⟨#[114, 101, 99, 116]⟩ : ByteArray), 0⟩ : S46), (⟨g7, 0⟩ : S46)] : List (S46))) (inner := [.string (⟨#[114, 101, 99, 116]⟩ : ByteArray), .int .i64 0, .string g7, .int .i64 0]) (ok := fun _ => True) (okp := fun _ => True) ?hr ?hp (fun _ hk => hk) trivial (Below.refl _ _) (Nat.le_refl _) (by simp) ?_; (case hd => rfl); (case hg => rfl); (case hr => first | (go_simp; done) | (go_simp; rfl)); (case hp => exact (Reps.c2 (show Kd.M k46 _ _ _ (⟨(⟨#[114, 101, 99, 116]⟩ : ByteArray), 0⟩ : S46) [.string (⟨#[114, 101, 99, 116]⟩ : ByteArray), .int .i64 0] from (k46_mkM _ _ _ (⟨(⟨#[114, 101, 99, 116]⟩ : ByteArray), 0⟩ : S46) )) (Reps.c2 (show Kd.M k46 _ _ _ (⟨g7, 0⟩ : S46) [.string g7, .int .i64 0] from (k46_mkM _ _ _ (⟨g7, 0⟩ : S46) )) (Reps.none _ _)))); intro x8 D5 g8 hb hg_ hnew_; clear hg_ hnew_; (first | rw [← Ny276.out] at g8 | (simp only [Int.reduceToNat] at g8; rw [← Ny276.out] at g8)); have f5 := aM (Kd.R_lower (Kd.R_new' (Kd.R_new' g8 (Kd.R_lt (rS a8))) (Kd.R_lt (rS b8))) (keep_size (w := w) (g := g) (row := none) (kp HK))); replace a8 := aM (Kd.R_elder' (rS a8) (Kd.R_base g8) hb); replace b8 := aM (Kd.R_elder' (rS b8) (Kd.R_base g8) hb); replace d2 := rB d2 hb; replace HK := aM (KeepBut.trans (kp HK) (KeepBut.of_below hb g none) (.inl rfl)); replace HB := aM (below_step (bI HB (IsS71.ge HI0.out)) hb); replace HI0 := aM (IsS71.below (iS71 HI0) hb); clear hb g8; obtain ⟨o9, q0, t2⟩ := Kd.R_slice f5.out; subst t2) | ((with_reducible refine gate_builtin (b := .append) (xs := #[.tmp 70, .tmp 76]) rfl ?_); (try (refine gG (by rfl) (by rfl) ?_; dsimp only)); at_builtin; refine Kd.R_append_rows k46 w.heap.size rfl (.tmp 70) (.tmp 76) 24 46 (.agg #[(.string ⟨#[]⟩), (.int .i64 0)]) 24 rfl Try.underlying24 info46 rfl (by decide) (by omega) s8 e0 d3 _ _ _ (fun k_ => some k_ ≠ (.slice m6 g6.length m7 : Value).ownBlock ∧ some k_ ≠ (.slice o9 d3.length q0 : Value).ownBlock) (fun _ => False) rfl rfl ?aO ?aR (fun _ _ h => h) (fun _ h => h.elim) ?aF (Below.refl _ _) ?aS ?aL ?_; (case aR => exact cS (Kd.R_reads' f5.out).2.2); (case aF => exact (fun k_ hk => ⟨Kd.fresh' (Kd.R_lt (rS a8)) k_ hk, Kd.fresh' (Kd.R_lt (rS f5)) k_ hk⟩)); (case aO => exact (rS b8)); (case aS => exact (keep_size (w := w) (g := g) (row := none) (kp HK))); (case aL => have := LMc31.out; (try dsimp only at this); omega); intro x9 D6 ho hb hg hat; rw [← Ny279.out] at ho; have q2 := aM (ho); replace a8 := aM (Kd.R_after (ok := (fun k_ => some k_ ≠ (.slice o9 d3.length q0 : Value).ownBlock)) (by exact rM a8) hg hat); replace d2 := aM (Kd.R_over' (rS d2) (Kd.R_typed (rS b8)) (by decide) hg); replace f5 := aM (Kd.R_after (ok := (fun k_ => some k_ ≠ (.slice m6 g6.length m7 : Value).ownBlock)) (by exact rM f5) hg hat); replace HB := aM (below_weaken (bI HB (IsS71.ge HI0.out)) HL.out hb); replace HI0 := aM (IsS71.grown (show IsS71 w0 _ g a3 i6 i7 from iS71 HI0) hg (IsS71.own_ne HI0.out b8.out (by decide))); replace HK := aM (KeepBut.trans (kp HK) (KeepBut.of_grown hg g) (Kd.R_base2 b8.out)); clear b8; clear ho hb hg hat))
          go_roundg kj20
          case measure => have := f3.out; have := HJ3.out; have := HJ20.out; omega
          case rel => exact ⟨(o8), (wrap64 (a7 + 1)), (i6), (i7), fS, H', ⟨by have := f3.out; have := HJ3.out; have := HJ20.out; omega⟩, ⟨by exact rT (Kd.R_mono q2.out (fun _ hk => trivial))⟩, ⟨iS71 HI0⟩, ⟨kp HK⟩, ⟨bI HB (IsS71.ge HI0.out)⟩⟩
         ·obtain rfl := Bool.eq_false_iff.mpr c24
          rw [if_neg nF] at H
          have m8 := aM H
          clear H
          go_upto_if 78 with (fail)
          go_cut [78] (fun y0 wc => ∃ (kq : Nat) (e8 : Bool), y0 = .bool e8 ∧ Aside0 (spec_l07Tokens.j3 kq a6 a7 a5 e8 a3 b9 d0 = some (r1, r2, r3)) ∧ Aside0 (kq ≤ kj20) ∧ Aside0 (Kd.R k46 46 wc w.heap.size (fun _ => True) u3 a6) ∧ Aside0 (IsS71 w0 wc g a3 b9 d0) ∧ Aside0 (KeepBut w wc g none) ∧ Aside0 (Below w0.heap.size w0 wc))
          case first =>
           have H := m8.out
           clear m8
           by_cases l5 : a5 = 3
           ·rw [if_pos l5] at H
            have e1 : (a5 == 3) = true := beq_iff_eq.mpr l5
            have i9 : (a5 != 3) = false := bne_eq_false_iff_eq.mpr l5
            clear l5
            (first | rw [e1] | (simp only [i64_w, i32_w]; rw [e1]) | skip)
            have H' := aM H
            clear H
            go_wp2
            go_meet
            case rel => exact ⟨_, ((a5 == 3)), fS, H', ⟨by have := f3.out; have := HJ3.out; have := HJ20.out; first | omega | exact Nat.le_refl _⟩, ⟨rS a2⟩, ⟨iS71 HI0⟩, ⟨kp HK⟩, ⟨bI HB (IsS71.ge HI0.out)⟩⟩
           ·rw [if_neg l5] at H
            have e1 : (a5 == 3) = false := beq_eq_false_iff_ne.mpr l5
            have i9 : (a5 != 3) = true := bne_iff_ne.mpr l5
            (first | rw [e1] | (simp only [i64_w, i32_w]; rw [e1]) | skip)
            have H' := aM H
            clear H
            go_wp2
            go_meet
            case rel => exact ⟨_, ((a5 == 4)), fS, H', ⟨by have := f3.out; have := HJ3.out; have := HJ20.out; first | omega | exact Nat.le_refl _⟩, ⟨rS a2⟩, ⟨iS71 HI0⟩, ⟨kp HK⟩, ⟨bI HB (IsS71.ge HI0.out)⟩⟩
          case rest =>
           clear m8
           try clear c1
           try clear c2
           try clear p2
           try clear c3
           try clear c4
           try clear c6
           try clear e4
           try clear p6
           try clear c10
           try clear k4
           try clear h2
           try clear h3
           try clear u7
           try clear k6
           try clear d5
           try clear h4
           try clear c24
           try clear y1
           try clear y2
           try clear y3
           try clear y4
           try clear l5
           try clear e1
           try clear i9
           try clear p2
           try clear p6
           obtain ⟨kq, e8, rfl, HA, HJ47, a2, HI0, HK, HB⟩ := hcut
           cases kq with
           | zero => exact absurd HA.out (by simp [spec_l07Tokens.j3])
           | succ kj47 =>
            have H := HA.out
            clear HA
            simp only [spec_l07Tokens.j3] at H
            by_cases t3 : e8 = true
            ·subst t3
             rw [if_pos rfl] at H
             replace H := bN H
             obtain ⟨⟨j5, q3, q4⟩, y5, H⟩ := H
             have H' := aM H
             clear H
             go_wp2_with (first | ((with_reducible refine gC 28 ?_); refine cL (some 82) Try.func28 #[.pointer (some ⟨g, 0, none⟩), .int .i64 3] ?_; (with_reducible refine (spec_l01Below.calls g a3 b9 d0 3 j5 q3 q4 w0 _ ?side1 ?side2 y5.out).mono ?_); (case side1 => exact iS71 HI0); (case side2 => exact bI HB (IsS71.ge HI0.out)); rintro e D7 ⟨rfl, hi, hb, hk⟩; refine ⟨_, rfl, ?_⟩; replace a2 := aM (Kd.R_mono (Kd.R_keep (IsS71.apart (show IsS71 w0 _ g a3 b9 d0 from iS71 HI0) (rS a2) (by decide)) hk (fun _ h => h.2)) (fun _ h => h.1)); replace HK := aM (KeepBut.trans (kp HK) hk (.inl rfl)); replace HB := aM (hb); replace HI0 := aM (hi); (try clear hb hk hi)))
             go_loopg [3, 9] kj47 (fun kq v3 v9 w' => ∃ (e2 : List (S46)) (e9 : Int) (a9 : Int) (b0 : Int), v9 = .int .i64 e9 ∧ Aside0 (spec_l07Tokens.l1 kq e2 a7 (wrap64 (3 + j5)) e9 a3 a9 b0 = some (r1, r2, r3)) ∧ Aside0 (kq ≤ kj47) ∧ Aside0 (Kd.R k46 46 w' w.heap.size (fun _ => True) v3 e2) ∧ Aside0 (IsS71 w0 w' g a3 a9 b0) ∧ Aside0 (KeepBut w w' g none) ∧ Aside0 (Below w0.heap.size w0 w'))
             case atStart => exact ⟨(a6), (0), (q3), (q4), fS, H', ⟨Nat.le_refl _⟩, ⟨rS a2⟩, ⟨iS71 HI0⟩, ⟨kp HK⟩, ⟨bI HB (IsS71.ge HI0.out)⟩⟩
             case round =>
              clear H'
              try clear c1
              try clear c2
              try clear p2
              try clear c3
              try clear c4
              try clear c5
              try clear c6
              try clear e4
              try clear p6
              try clear c10
              try clear k4
              try clear h2
              try clear h3
              try clear u7
              try clear k6
              try clear d5
              try clear h4
              try clear c24
              try clear y1
              try clear y2
              try clear y3
              try clear y4
              try clear l5
              try clear e1
              try clear i9
              try clear t3
              try clear p2
              try clear p6
              obtain ⟨e2, e9, a9, b0, rfl, HA, s1, a2, HI0, HK, HB⟩ := hrel
              cases gk with
              | zero => exact absurd HA.out (by simp [spec_l07Tokens.l1])
              | succ k5 =>
               have H := HA.out
               clear HA
               simp only [spec_l07Tokens.l1] at H
               rcases iD H with ⟨q5, H⟩ | ⟨q5, H⟩
               ·replace H := bN H
                obtain ⟨⟨f6, m9, n0⟩, y6, H⟩ := H
                replace H := bN H
                obtain ⟨⟨f7, h7, h8⟩, y7, H⟩ := H
                obtain ⟨f0, hy_⟩ : ∃ y_ : List ByteArray, y_ = (([(⟨#[108, 105, 110, 101, 116, 111]⟩ : ByteArray), (⟨#[109, 111, 118, 101, 116, 111]⟩ : ByteArray)] : List ByteArray)) := ⟨_, rfl⟩
                replace H : ((spec_l06First.f e9).bind fun d4 => (if 0 ≤ d4 then (if d4 < (f0.length : Int) then ((some (([(⟨(⟨#[]⟩ : ByteArray), f6⟩ : S46), (⟨(⟨#[]⟩ : ByteArray), f7⟩ : S46), (⟨rdOf ByteArray.empty f0 d4, 0⟩ : S46)] : List (S46)) : List (S46))).bind fun f8 => (if e2.length + f8.length < 5864062014805 then (spec_l07Tokens.l1 k5 (e2 ++ f8) a7 (wrap64 (3 + j5)) (wrap64 (e9 + 1)) a3 h7 h8) else (none))) else (none)) else (none))) = some (r1, r2, r3) := yS
                have Ny291 := aM hy_
                clear hy_
                replace H := bN H
                obtain ⟨d4, y8, H⟩ := H
                obtain ⟨u9, H⟩ := iT H
                obtain ⟨v0, H⟩ := iT H
                obtain ⟨f8, hy_⟩ : ∃ y_ : List (S46), y_ = (([(⟨(⟨#[]⟩ : ByteArray), f6⟩ : S46), (⟨(⟨#[]⟩ : ByteArray), f7⟩ : S46), (⟨rdOf ByteArray.empty f0 d4, 0⟩ : S46)] : List (S46))) := ⟨_, rfl⟩
                replace H : (if e2.length + f8.length < 5864062014805 then (spec_l07Tokens.l1 k5 (e2 ++ f8) a7 (wrap64 (3 + j5)) (wrap64 (e9 + 1)) a3 h7 h8) else (none)) = some (r1, r2, r3) := yS
                have Ny296 := aM hy_
                clear hy_
                obtain ⟨LMc59, H⟩ := iL H
                obtain ⟨q6, hy_⟩ : ∃ y_ : List (S46), y_ = (e2 ++ f8) := ⟨_, rfl⟩
                replace H : (spec_l07Tokens.l1 k5 q6 a7 (wrap64 (3 + j5)) (wrap64 (e9 + 1)) a3 h7 h8) = some (r1, r2, r3) := yS
                have Ny299 := aM hy_
                clear hy_
                have H' := aM H
                clear H
                go_wp2_with (first | ((with_reducible refine gC 28 ?_); refine cL (some 90) Try.func28 #[.pointer (some ⟨g, 0, none⟩), .int .i64 33] ?_; (with_reducible refine (spec_l01Below.calls g a3 a9 b0 33 f6 m9 n0 w0 _ ?side1 ?side2 y6.out).mono ?_); (case side1 => exact iS71 HI0); (case side2 => exact bI HB (IsS71.ge HI0.out)); rintro e D8 ⟨rfl, hi, hb, hk⟩; refine ⟨_, rfl, ?_⟩; replace a2 := aM (Kd.R_mono (Kd.R_keep (IsS71.apart (show IsS71 w0 _ g a3 a9 b0 from iS71 HI0) (rS a2) (by decide)) hk (fun _ h => h.2)) (fun _ h => h.1)); replace HK := aM (KeepBut.trans (kp HK) hk (.inl rfl)); replace HB := aM (hb); replace HI0 := aM (hi); (try clear hb hk hi)) | ((with_reducible refine gC 28 ?_); refine cL (some 95) Try.func28 #[.pointer (some ⟨g, 0, none⟩), .int .i64 33] ?_; (with_reducible refine (spec_l01Below.calls g a3 m9 n0 33 f7 h7 h8 w0 _ ?side1 ?side2 y7.out).mono ?_); (case side1 => exact iS71 HI0); (case side2 => exact bI HB (IsS71.ge HI0.out)); rintro e D9 ⟨rfl, hi, hb, hk⟩; refine ⟨_, rfl, ?_⟩; replace a2 := aM (Kd.R_mono (Kd.R_keep (IsS71.apart (show IsS71 w0 _ g a3 m9 n0 from iS71 HI0) (rS a2) (by decide)) hk (fun _ h => h.2)) (fun _ h => h.1)); replace HK := aM (KeepBut.trans (kp HK) hk (.inl rfl)); replace HB := aM (hb); replace HI0 := aM (hi); (try clear hb hk hi)) | ((with_reducible refine gate_dst (N := 97) rfl ?_); (try (refine gG (by rfl) (by rfl) ?_; dsimp only)); refine Kd.R_lit Kd.string _ 9 ?hg (N := 97) ?hd (xs := ([(⟨#[108, 105, 110, 101, 116, 111]⟩ : ByteArray), (⟨#[109, 111, 118, 101, 116, 111]⟩ : ByteArray)] : List ByteArray)) (inner := [.string (⟨#[108, 105, 110, 101, 116, 111]⟩ : ByteArray), .string (⟨#[109, 111, 118, 101, 116, 111]⟩ : ByteArray)]) (ok := fun _ => True) (okp := fun _ => True) ?hr ?hp (fun _ hk => hk) trivial (Below.refl _ _) (Nat.le_refl _) (by simp) ?_; (case hd => rfl); (case hg => rfl); (case hr => first | (go_simp; done) | (go_simp; rfl)); (case hp => exact (Reps.one (show Kd.M Kd.string _ _ _ (⟨#[108, 105, 110, 101, 116, 111]⟩ : ByteArray) [.string (⟨#[108, 105, 110, 101, 116, 111]⟩ : ByteArray)] from rfl) (Reps.one (show Kd.M Kd.string _ _ _ (⟨#[109, 111, 118, 101, 116, 111]⟩ : ByteArray) [.string (⟨#[109, 111, 118, 101, 116, 111]⟩ : ByteArray)] from rfl) (Reps.none _ _)))); intro y9 E0 j6 hb hg_ hnew_; clear hg_ hnew_; (first | rw [← Ny291.out] at j6 | (simp only [Int.reduceToNat] at j6; rw [← Ny291.out] at j6)); have e3 := aM (Kd.R_lower j6 (keep_size (w := w) (g := g) (row := none) (kp HK))); replace a2 := rB a2 hb; replace HK := aM (KeepBut.trans (kp HK) (KeepBut.of_below hb g none) (.inl rfl)); replace HB := aM (below_step (bI HB (IsS71.ge HI0.out)) hb); replace HI0 := aM (IsS71.below (iS71 HI0) hb); clear hb j6) | ((with_reducible refine gC 32 ?_); refine cM (some 99) Try.func32 (spec_l06First.calls e9 d4 _ y8.out) ?_; rintro e w' ⟨rfl, ⟨nd, rfl⟩⟩; refine ⟨_, rfl, ?_⟩; obtain ⟨A0, A1, t4⟩ := Kd.R_slice e3.out; subst t4; have n1 : 0 ≤ (d4 : Int) := dA; have n2 : d4 < (f0.length : Int) := dA; obtain ⟨v1, t5, s2⟩ := Kd.at_string (Kd.R_reads' e3.out).2.2 d4 n1 n2; cases t5; replace n1 := eq_true n1; replace n2 := eq_true n2) | ((with_reducible refine gate_dst (N := 103) rfl ?_); (try (refine gG (by rfl) (by rfl) ?_; dsimp only)); refine Kd.R_lit k46 _ 46 ?hg (N := 103) ?hd (xs := ([(⟨(⟨#[]⟩ : ByteArray), f6⟩ : S46), (⟨(⟨#[]⟩ : ByteArray), f7⟩ : S46), (⟨rdOf ByteArray.empty f0 d4, 0⟩ : S46)] : List (S46))) (inner := [.string (⟨#[]⟩ : ByteArray), .int .i64 f6, .string (⟨#[]⟩ : ByteArray), .int .i64 f7, .string (rdOf ByteArray.empty f0 d4), .int .i64 0]) (ok := fun _ => True) (okp := fun _ => True) ?hr ?hp (fun _ hk => hk) trivial (Below.refl _ _) (Nat.le_refl _) (by simp) ?_; (case hd => rfl); (case hg => rfl); (case hr => first | (go_simp; done) | (go_simp; rfl)); (case hp => exact (Reps.c2 (show Kd.M k46 _ _ _ (⟨(⟨#[]⟩ : ByteArray), f6⟩ : S46) [.string (⟨#[]⟩ : ByteArray), .int .i64 f6] from (k46_mkM _ _ _ (⟨(⟨#[]⟩ : ByteArray), f6⟩ : S46) )) (Reps.c2 (show Kd.M k46 _ _ _ (⟨(⟨#[]⟩ : ByteArray), f7⟩ : S46) [.string (⟨#[]⟩ : ByteArray), .int .i64 f7] from (k46_mkM _ _ _ (⟨(⟨#[]⟩ : ByteArray), f7⟩ : S46) )) (Reps.c2 (show Kd.M k46 _ _ _ (⟨rdOf ByteArray.empty f0 d4, 0⟩ : S46) [.string (rdOf ByteArray.empty f0 d4), .int .i64 0] from (k46_mkM _ _ _ (⟨rdOf ByteArray.empty f0 d4, 0⟩ : S46) )) (Reps.none _ _))))); intro A2 E1 h9 hb hg_ hnew_; clear hg_ hnew_; (first | rw [← Ny296.out] at h9 | (simp only [Int.reduceToNat] at h9; rw [← Ny296.out] at h9)); have f9 := aM (Kd.R_lower (Kd.R_new' h9 (Kd.R_lt (rS a2))) (keep_size (w := w) (g := g) (row := none) (kp HK))); replace a2 := aM (Kd.R_elder' (rS a2) (Kd.R_base h9) hb); replace e3 := rB e3 hb; replace HK := aM (KeepBut.trans (kp HK) (KeepBut.of_below hb g none) (.inl rfl)); replace HB := aM (below_step (bI HB (IsS71.ge HI0.out)) hb); replace HI0 := aM (IsS71.below (iS71 HI0) hb); clear hb h9; obtain ⟨t6, t7, t8⟩ := Kd.R_slice f9.out; subst t8) | ((with_reducible refine gate_builtin (b := .append) (xs := #[.tmp 91, .tmp 103]) rfl ?_); (try (refine gG (by rfl) (by rfl) ?_; dsimp only)); at_builtin; refine Kd.R_append_rows k46 w.heap.size rfl (.tmp 91) (.tmp 103) 24 46 (.agg #[(.string ⟨#[]⟩), (.int .i64 0)]) 24 rfl Try.underlying24 info46 rfl (by decide) (by omega) u3 e2 f8 _ _ _ (fun k_ => some k_ ≠ (.slice t6 f8.length t7 : Value).ownBlock) (fun _ => False) rfl rfl ?aO ?aR (fun _ _ h => h) (fun _ h => h.elim) ?aF (Below.refl _ _) ?aS ?aL ?_; (case aR => exact cS (Kd.R_reads' f9.out).2.2); (case aF => exact (fun k_ hk => Kd.fresh' (Kd.R_lt (rS f9)) k_ hk)); (case aO => exact (by exact rM a2)); (case aS => exact (keep_size (w := w) (g := g) (row := none) (kp HK))); (case aL => have := LMc59.out; (try dsimp only at this); omega); intro A3 E2 ho hb hg hat; rw [← Ny299.out] at ho; have q7 := aM (ho); replace e3 := aM (Kd.R_over' (rS e3) (Kd.R_typed (rS a2)) (by decide) hg); replace f9 := aM (Kd.R_after (ok := (fun _ => True)) (rS f9) hg hat); replace HB := aM (below_weaken (bI HB (IsS71.ge HI0.out)) HL.out hb); replace HI0 := aM (IsS71.grown (show IsS71 w0 _ g a3 h7 h8 from iS71 HI0) hg (IsS71.own_ne HI0.out a2.out (by decide))); replace HK := aM (KeepBut.trans (kp HK) (KeepBut.of_grown hg g) (Kd.R_base2 a2.out)); clear a2; clear ho hb hg hat))
                go_roundg k5
                case measure => have := f3.out; have := HJ3.out; have := HJ20.out; have := HJ47.out; have := s1.out; omega
                case rel => exact ⟨(q6), (wrap64 (e9 + 1)), (h7), (h8), fS, H', ⟨by have := f3.out; have := HJ3.out; have := HJ20.out; have := HJ47.out; have := s1.out; omega⟩, ⟨by exact rT (Kd.R_mono q7.out (fun _ hk => trivial))⟩, ⟨iS71 HI0⟩, ⟨kp HK⟩, ⟨bI HB (IsS71.ge HI0.out)⟩⟩
               ·obtain ⟨LMc69, H⟩ := iL H
                obtain ⟨q8, hy_⟩ : ∃ y_ : List (S46), y_ = (e2 ++ [(⟨(⟨#[102, 105, 108, 108]⟩ : ByteArray), 0⟩ : S46)]) := ⟨_, rfl⟩
                replace H : (spec_l07Tokens.l0 k5 q8 (wrap64 (a7 + 1)) a3 a9 b0) = some (r1, r2, r3) := yS
                have Ny302 := aM hy_
                clear hy_
                have H' := aM H
                clear H
                go_wp2_with (first | ((with_reducible refine gate_builtin (b := .append) (xs := #[.tmp 105, .tmp 107]) rfl ?_); (try (refine gG (by rfl) (by rfl) ?_; dsimp only)); at_builtin; refine Kd.R_append k46 w.heap.size rfl (.tmp 105) (.tmp 107) 24 46 (.agg #[(.string ⟨#[]⟩), (.int .i64 0)]) 24 rfl Try.underlying24 info46 rfl (by decide) (by omega) u3 e2 (⟨(⟨#[102, 105, 108, 108]⟩ : ByteArray), 0⟩ : S46) [.string (⟨#[102, 105, 108, 108]⟩ : ByteArray), .int .i64 0] (fun _ => True) (fun _ => False) rfl rfl ?aP (fun _ hk => hk.elim) ?aF ?aO (Below.refl _ _) ?aS ?aL ?_; (case aP => exact k46_mkM _ _ _ (⟨(⟨#[102, 105, 108, 108]⟩ : ByteArray), 0⟩ : S46)); (case aF => exact (fun _ _ => trivial)); (case aO => exact (rS a2)); (case aS => exact (keep_size (w := w) (g := g) (row := none) (kp HK))); (case aL => have := LMc69.out; (try dsimp only at this); omega); intro A4 E3 ho hb hg hat; rw [← Ny302.out] at ho; have q9 := aM (ho); replace HB := aM (below_weaken (bI HB (IsS71.ge HI0.out)) HL.out hb); replace HI0 := aM (IsS71.grown (show IsS71 w0 _ g a3 a9 b0 from iS71 HI0) hg (IsS71.own_ne HI0.out a2.out (by decide))); replace HK := aM (KeepBut.trans (kp HK) (KeepBut.of_grown hg g) (Kd.R_base2 a2.out)); clear a2; clear ho hb hg hat))
                go_roundg k5
                case measure => have := f3.out; have := HJ3.out; have := HJ20.out; have := HJ47.out; have := s1.out; omega
                case rel => exact ⟨(q8), (wrap64 (a7 + 1)), (a9), (b0), fS, H', ⟨by have := f3.out; have := HJ3.out; have := HJ20.out; have := HJ47.out; have := s1.out; omega⟩, ⟨rS q9⟩, ⟨iS71 HI0⟩, ⟨kp HK⟩, ⟨bI HB (IsS71.ge HI0.out)⟩⟩
            ·obtain rfl := Bool.eq_false_iff.mpr t3
             rw [if_neg nF] at H
             by_cases n5 : a5 = 5
             ·rw [if_pos n5] at H
              have r0 : (a5 == 5) = true := beq_iff_eq.mpr n5
              have r4 : (a5 != 5) = false := bne_eq_false_iff_eq.mpr n5
              clear n5
              obtain ⟨n6, hy_⟩ : ∃ y_ : List ByteArray, y_ = (([(⟨#[115, 97, 118, 101]⟩ : ByteArray), (⟨#[114, 101, 115, 116, 111, 114, 101]⟩ : ByteArray), (⟨#[110, 101, 119]⟩ : ByteArray)] : List ByteArray)) := ⟨_, rfl⟩
              replace H : ((spec_l01Pick.f a3 b9 d0 n6).bind fun j7 => (if a6.length < 5864062014805 then (spec_l07Tokens.l0 kj47 (a6 ++ [(⟨j7.1, 0⟩ : S46)]) (wrap64 (a7 + 1)) a3 j7.2.1 j7.2.2) else (none))) = some (r1, r2, r3) := yS
              have Ny305 := aM hy_
              clear hy_
              replace H := bN H
              obtain ⟨⟨j8, l6, l7⟩, A6, H⟩ := H
              obtain ⟨LMc73, H⟩ := iL H
              obtain ⟨r5, hy_⟩ : ∃ y_ : List (S46), y_ = (a6 ++ [(⟨j8, 0⟩ : S46)]) := ⟨_, rfl⟩
              replace H : (spec_l07Tokens.l0 kj47 r5 (wrap64 (a7 + 1)) a3 l6 l7) = some (r1, r2, r3) := yS
              have Ny311 := aM hy_
              clear hy_
              have H' := aM H
              clear H
              go_wp2_with (first | ((with_reducible refine gate_dst (N := 113) rfl ?_); (try (refine gG (by rfl) (by rfl) ?_; dsimp only)); refine Kd.R_lit Kd.string _ 9 ?hg (N := 113) ?hd (xs := ([(⟨#[115, 97, 118, 101]⟩ : ByteArray), (⟨#[114, 101, 115, 116, 111, 114, 101]⟩ : ByteArray), (⟨#[110, 101, 119]⟩ : ByteArray)] : List ByteArray)) (inner := [.string (⟨#[115, 97, 118, 101]⟩ : ByteArray), .string (⟨#[114, 101, 115, 116, 111, 114, 101]⟩ : ByteArray), .string (⟨#[110, 101, 119]⟩ : ByteArray)]) (ok := fun _ => True) (okp := fun _ => True) ?hr ?hp (fun _ hk => hk) trivial (Below.refl _ _) (Nat.le_refl _) (by simp) ?_; (case hd => rfl); (case hg => rfl); (case hr => first | (go_simp; done) | (go_simp; rfl)); (case hp => exact (Reps.one (show Kd.M Kd.string _ _ _ (⟨#[115, 97, 118, 101]⟩ : ByteArray) [.string (⟨#[115, 97, 118, 101]⟩ : ByteArray)] from rfl) (Reps.one (show Kd.M Kd.string _ _ _ (⟨#[114, 101, 115, 116, 111, 114, 101]⟩ : ByteArray) [.string (⟨#[114, 101, 115, 116, 111, 114, 101]⟩ : ByteArray)] from rfl) (Reps.one (show Kd.M Kd.string _ _ _ (⟨#[110, 101, 119]⟩ : ByteArray) [.string (⟨#[110, 101, 119]⟩ : ByteArray)] from rfl) (Reps.none _ _))))); intro A7 E4 j9 hb hg_ hnew_; clear hg_ hnew_; (first | rw [← Ny305.out] at j9 | (simp only [Int.reduceToNat] at j9; rw [← Ny305.out] at j9)); have d6 := aM (Kd.R_lower j9 (keep_size (w := w) (g := g) (row := none) (kp HK))); replace a2 := rB a2 hb; replace HK := aM (KeepBut.trans (kp HK) (KeepBut.of_below hb g none) (.inl rfl)); replace HB := aM (below_step (bI HB (IsS71.ge HI0.out)) hb); replace HI0 := aM (IsS71.below (iS71 HI0) hb); clear hb j9; obtain ⟨t9, u0, u1⟩ := Kd.R_slice d6.out; subst u1) | ((with_reducible refine gC 30 ?_); refine cL (some 114) Try.func30 #[.pointer (some ⟨g, 0, none⟩), .slice t9 n6.length u0] ?_; (with_reducible refine (spec_l01Pick.calls g a3 b9 d0 _ _ n6 j8 l6 l7 w0 _ ?side1 ?side2 ?side3 ?side4 ?side5 A6.out).mono ?_); (case side1 => exact iS71 HI0); (case side2 => exact bI HB (IsS71.ge HI0.out)); (case side3 => exact cS (Kd.R_reads' d6.out).2.2); (case side4 => exact (Kd.R_reads' d6.out).2.1); (case side5 => exact far_slice (IsS71.own_ne HI0.out d6.out (by decide))); rintro e E5 ⟨rfl, hi, hb, hk⟩; refine ⟨_, rfl, ?_⟩; replace a2 := aM (Kd.R_mono (Kd.R_keep (IsS71.apart (show IsS71 w0 _ g a3 b9 d0 from iS71 HI0) (rS a2) (by decide)) hk (fun _ h => h.2)) (fun _ h => h.1)); replace d6 := aM (Kd.R_mono (Kd.R_keep (IsS71.apart (show IsS71 w0 _ g a3 b9 d0 from iS71 HI0) (rS d6) (by decide)) hk (fun _ h => h.2)) (fun _ h => h.1)); replace HK := aM (KeepBut.trans (kp HK) hk (.inl rfl)); replace HB := aM (hb); replace HI0 := aM (hi); (try clear hb hk hi)) | ((with_reducible refine gate_builtin (b := .append) (xs := #[.tmp 111, .tmp 116]) rfl ?_); (try (refine gG (by rfl) (by rfl) ?_; dsimp only)); at_builtin; refine Kd.R_append k46 w.heap.size rfl (.tmp 111) (.tmp 116) 24 46 (.agg #[(.string ⟨#[]⟩), (.int .i64 0)]) 24 rfl Try.underlying24 info46 rfl (by decide) (by omega) u3 a6 (⟨j8, 0⟩ : S46) [.string j8, .int .i64 0] (fun _ => True) (fun _ => False) rfl rfl ?aP (fun _ hk => hk.elim) ?aF ?aO (Below.refl _ _) ?aS ?aL ?_; (case aP => exact k46_mkM _ _ _ (⟨j8, 0⟩ : S46)); (case aF => exact (fun _ _ => trivial)); (case aO => exact (rS a2)); (case aS => exact (keep_size (w := w) (g := g) (row := none) (kp HK))); (case aL => have := LMc73.out; (try dsimp only at this); omega); intro A8 E6 ho hb hg hat; rw [← Ny311.out] at ho; have r6 := aM (ho); replace d6 := aM (Kd.R_over' (rS d6) (Kd.R_typed (rS a2)) (by decide) hg); replace HB := aM (below_weaken (bI HB (IsS71.ge HI0.out)) HL.out hb); replace HI0 := aM (IsS71.grown (show IsS71 w0 _ g a3 l6 l7 from iS71 HI0) hg (IsS71.own_ne HI0.out a2.out (by decide))); replace HK := aM (KeepBut.trans (kp HK) (KeepBut.of_grown hg g) (Kd.R_base2 a2.out)); clear a2; clear ho hb hg hat))
              go_roundg kj47
              case measure => have := f3.out; have := HJ3.out; have := HJ20.out; have := HJ47.out; omega
              case rel => exact ⟨(r5), (wrap64 (a7 + 1)), (l6), (l7), fS, H', ⟨by have := f3.out; have := HJ3.out; have := HJ20.out; have := HJ47.out; omega⟩, ⟨rS r6⟩, ⟨iS71 HI0⟩, ⟨kp HK⟩, ⟨bI HB (IsS71.ge HI0.out)⟩⟩
             ·rw [if_neg n5] at H
              have r0 : (a5 == 5) = false := beq_eq_false_iff_ne.mpr n5
              have r4 : (a5 != 5) = true := bne_iff_ne.mpr n5
              replace H := bN H
              obtain ⟨⟨g9, n7, n8⟩, A9, H⟩ := H
              replace H := bN H
              obtain ⟨⟨h0, k0, k2⟩, B0, H⟩ := H
              obtain ⟨k3, hy_⟩ : ∃ y_ : List (S46), y_ = (([(⟨(⟨#[]⟩ : ByteArray), g9⟩ : S46), (⟨(⟨#[]⟩ : ByteArray), h0⟩ : S46), (⟨(⟨#[115, 104, 105, 102, 116]⟩ : ByteArray), 0⟩ : S46)] : List (S46))) := ⟨_, rfl⟩
              replace H : (if a6.length + k3.length < 5864062014805 then (spec_l07Tokens.l0 kj47 (a6 ++ k3) (wrap64 (a7 + 1)) a3 k0 k2) else (none)) = some (r1, r2, r3) := yS
              have Ny320 := aM hy_
              clear hy_
              obtain ⟨LMc81, H⟩ := iL H
              obtain ⟨r7, hy_⟩ : ∃ y_ : List (S46), y_ = (a6 ++ k3) := ⟨_, rfl⟩
              replace H : (spec_l07Tokens.l0 kj47 r7 (wrap64 (a7 + 1)) a3 k0 k2) = some (r1, r2, r3) := yS
              have Ny323 := aM hy_
              clear hy_
              have H' := aM H
              clear H
              go_wp2_with (first | ((with_reducible refine gC 28 ?_); refine cL (some 28) Try.func28 #[.pointer (some ⟨g, 0, none⟩), .int .i64 5] ?_; (with_reducible refine (spec_l01Below.calls g a3 b9 d0 5 g9 n7 n8 w0 _ ?side1 ?side2 A9.out).mono ?_); (case side1 => exact iS71 HI0); (case side2 => exact bI HB (IsS71.ge HI0.out)); rintro e E7 ⟨rfl, hi, hb, hk⟩; refine ⟨_, rfl, ?_⟩; replace a2 := aM (Kd.R_mono (Kd.R_keep (IsS71.apart (show IsS71 w0 _ g a3 b9 d0 from iS71 HI0) (rS a2) (by decide)) hk (fun _ h => h.2)) (fun _ h => h.1)); replace HK := aM (KeepBut.trans (kp HK) hk (.inl rfl)); replace HB := aM (hb); replace HI0 := aM (hi); (try clear hb hk hi)) | ((with_reducible refine gC 28 ?_); refine cL (some 33) Try.func28 #[.pointer (some ⟨g, 0, none⟩), .int .i64 5] ?_; (with_reducible refine (spec_l01Below.calls g a3 n7 n8 5 h0 k0 k2 w0 _ ?side1 ?side2 B0.out).mono ?_); (case side1 => exact iS71 HI0); (case side2 => exact bI HB (IsS71.ge HI0.out)); rintro e E8 ⟨rfl, hi, hb, hk⟩; refine ⟨_, rfl, ?_⟩; replace a2 := aM (Kd.R_mono (Kd.R_keep (IsS71.apart (show IsS71 w0 _ g a3 n7 n8 from iS71 HI0) (rS a2) (by decide)) hk (fun _ h => h.2)) (fun _ h => h.1)); replace HK := aM (KeepBut.trans (kp HK) hk (.inl rfl)); replace HB := aM (hb); replace HI0 := aM (hi); (try clear hb hk hi)) | ((with_reducible refine gate_dst (N := 36) rfl ?_); (try (refine gG (by rfl) (by rfl) ?_; dsimp only)); refine Kd.R_lit k46 _ 46 ?hg (N := 36) ?hd (xs := ([(⟨(⟨#[]⟩ : ByteArray), g9⟩ : S46), (⟨(⟨#[]⟩ : ByteArray), h0⟩ : S46), (⟨(⟨#[115, 104, 105, 102, 116]⟩ : ByteArray), 0⟩ : S46)] : List (S46))) (inner := [.string (⟨#[]⟩ : ByteArray), .int .i64 g9, .string (⟨#[]⟩ : ByteArray), .int .i64 h0, .string (⟨#[115, 104, 105, 102, 116]⟩ : ByteArray), .int .i64 0]) (ok := fun _ => True) (okp := fun _ => True) ?hr ?hp (fun _ hk => hk) trivial (Below.refl _ _) (Nat.le_refl _) (by simp) ?_; (case hd => rfl); (case hg => rfl); (case hr => first | (go_simp; done) | (go_simp; rfl)); (case hp => exact (Reps.c2 (show Kd.M k46 _ _ _ (⟨(⟨#[]⟩ : ByteArray), g9⟩ : S46) [.string (⟨#[]⟩ : ByteArray), .int .i64 g9] from (k46_mkM _ _ _ (⟨(⟨#[]⟩ : ByteArray), g9⟩ : S46) )) (Reps.c2 (show Kd.M k46 _ _ _ (⟨(⟨#[]⟩ : ByteArray), h0⟩ : S46) [.string (⟨#[]⟩ : ByteArray), .int .i64 h0] from (k46_mkM _ _ _ (⟨(⟨#[]⟩ : ByteArray), h0⟩ : S46) )) (Reps.c2 (show Kd.M k46 _ _ _ (⟨(⟨#[115, 104, 105, 102, 116]⟩ : ByteArray), 0⟩ : S46) [.string (⟨#[115, 104, 105, 102, 116]⟩ : ByteArray), .int .i64 0] from (k46_mkM _ _ _ (⟨(⟨#[115, 104, 105, 102, 116]⟩ : ByteArray), 0⟩ : S46) )) (Reps.none _ _))))); intro B2 E9 i1 hb hg_ hnew_; clear hg_ hnew_; (first | rw [← Ny320.out] at i1 | (simp only [Int.reduceToNat] at i1; rw [← Ny320.out] at i1)); have g0 := aM (Kd.R_lower (Kd.R_new' i1 (Kd.R_lt (rS a2))) (keep_size (w := w) (g := g) (row := none) (kp HK))); replace a2 := aM (Kd.R_elder' (rS a2) (Kd.R_base i1) hb); replace HK := aM (KeepBut.trans (kp HK) (KeepBut.of_below hb g none) (.inl rfl)); replace HB := aM (below_step (bI HB (IsS71.ge HI0.out)) hb); replace HI0 := aM (IsS71.below (iS71 HI0) hb); clear hb i1; obtain ⟨u2, u4, u5⟩ := Kd.R_slice g0.out; subst u5) | ((with_reducible refine gate_builtin (b := .append) (xs := #[.tmp 29, .tmp 36]) rfl ?_); (try (refine gG (by rfl) (by rfl) ?_; dsimp only)); at_builtin; refine Kd.R_append_rows k46 w.heap.size rfl (.tmp 29) (.tmp 36) 24 46 (.agg #[(.string ⟨#[]⟩), (.int .i64 0)]) 24 rfl Try.underlying24 info46 rfl (by decide) (by omega) u3 a6 k3 _ _ _ (fun k_ => some k_ ≠ (.slice u2 k3.length u4 : Value).ownBlock) (fun _ => False) rfl rfl ?aO ?aR (fun _ _ h => h) (fun _ h => h.elim) ?aF (Below.refl _ _) ?aS ?aL ?_; (case aR => exact cS (Kd.R_reads' g0.out).2.2); (case aF => exact (fun k_ hk => Kd.fresh' (Kd.R_lt (rS g0)) k_ hk)); (case aO => exact (by exact rM a2)); (case aS => exact (keep_size (w := w) (g := g) (row := none) (kp HK))); (case aL => have := LMc81.out; (try dsimp only at this); omega); intro B7 F2 ho hb hg hat; rw [← Ny323.out] at ho; have s0 := aM (ho); replace g0 := aM (Kd.R_after (ok := (fun _ => True)) (rS g0) hg hat); replace HB := aM (below_weaken (bI HB (IsS71.ge HI0.out)) HL.out hb); replace HI0 := aM (IsS71.grown (show IsS71 w0 _ g a3 k0 k2 from iS71 HI0) hg (IsS71.own_ne HI0.out a2.out (by decide))); replace HK := aM (KeepBut.trans (kp HK) (KeepBut.of_grown hg g) (Kd.R_base2 a2.out)); clear a2; clear ho hb hg hat))
              go_roundg kj47
              case measure => have := f3.out; have := HJ3.out; have := HJ20.out; have := HJ47.out; omega
              case rel => exact ⟨(r7), (wrap64 (a7 + 1)), (k0), (k2), fS, H', ⟨by have := f3.out; have := HJ3.out; have := HJ20.out; have := HJ47.out; omega⟩, ⟨by exact rT (Kd.R_mono s0.out (fun _ hk => trivial))⟩, ⟨iS71 HI0⟩, ⟨kp HK⟩, ⟨bI HB (IsS71.ge HI0.out)⟩⟩
     ·obtain rfl := Bool.eq_false_iff.mpr c10
      rw [if_neg nF] at H
      obtain ⟨rfl, rfl, rfl⟩ := sI3 H
      go_wp2
      go_ret
      exact ⟨_, eS, rS a2, iS71 HI0, bI HB (IsS71.ge HI0.out), by repeat (first | (with_reducible first | exact HK.out | apply KeepBut.set_ | apply keep_drewN | apply keep_drew | apply keep_alloc) | exact HK.out)⟩

/-! ### spec_DrawRunPage: function 5 -/
def spec_DrawRunPage.f (k : Nat) (l0 : List Int) : Option ((List (S46))) := (spec_l01New.f k l0).bind fun a2 => ((spec_l01Once.f a2.1 a2.2.1 a2.2.2 3).bind fun a3 => (if a3.1 = true then ((spec_l06Any.f k a2.1 a3.2.1 a3.2.2).bind fun a5 => (some a5.1)) else ((spec_l07Tokens.f k a2.1 a3.2.1 a3.2.2).bind fun a6 => (some a6.1))))
theorem spec_DrawRunPage.calls (k : Nat) (A0 : Option Addr) (c0 : Nat) (l0 : List Int) (r : List (S46)) (w : World) (hr0 : Kd.C (Kd.int .u8) w A0 l0.length l0) (d3 : l0.length ≤ c0) (h : spec_DrawRunPage.f k l0 = some r) :
  Calls Try.prog 5 #[.slice A0 l0.length c0] w fun e w' => ∃ v0_ : Value, e = .returned (v0_) ∧ Kd.R k46 46 w' w.heap.size (fun _ => True) v0_ r ∧ Below w.heap.size w w' := by
 have d4 := aM hr0
 have d5 := aM d3
 clear hr0 d3
 have HB := aM (Below.refl w.heap.size w)
 have H := h
 clear h
 unfold spec_DrawRunPage.f at H
 replace H := bN H
 obtain ⟨⟨a3, a5, a6⟩, A2, H⟩ := H
 replace H := bN H
 obtain ⟨⟨b2, a7, a8⟩, A3, H⟩ := H
 by_cases c4 : b2 = true
 ·subst c4
  rw [if_pos rfl] at H
  replace H := bN H
  obtain ⟨⟨b6, b7, b8⟩, A5, H⟩ := H
  obtain rfl := Option.some.inj H
  go_enter Try.func5, Try.ntmps5
  go_wp2_with (first | ((with_reducible refine gC 11 ?_); refine cL (some 5) Try.func11 #[.slice A0 l0.length c0] ?_; (with_reducible refine (spec_l01New.calls k _ _ l0 a3 a5 a6 w _ ?side1 ?side2 ?side3 A2.out).mono ?_); (case side1 => repeat (first | (with_reducible first | exact HB.out | apply below_alloc | apply pw_below_drewN | apply below_drew1) | exact HB.out)); (case side2 => exact d4.out); (case side3 => exact d5.out); rintro e w6 ⟨a2, rfl, hi, hb, b9⟩; refine ⟨_, rfl, ?_⟩; have HI329 := aM (hi); replace HB := aM (hb); (try clear hb b9 hi)) | ((with_reducible refine gC 12 ?_); refine cL (some 7) Try.func12 #[.pointer (some ⟨a2, 0, none⟩), .int .i64 3] ?_; (with_reducible refine (spec_l01Once.calls a2 a3 a5 a6 3 true a7 a8 w _ ?side1 ?side2 A3.out).mono ?_); (case side1 => exact iS71 HI329); (case side2 => exact bI HB (IsS71.ge HI329.out)); rintro e w7 ⟨rfl, hi, hb, hk⟩; refine ⟨_, rfl, ?_⟩; replace HB := aM (hb); replace HI329 := aM (hi); (try clear hb hk hi)) | ((with_reducible refine gC 13 ?_); refine cL (some 9) Try.func13 #[.pointer (some ⟨a2, 0, none⟩)] ?_; (with_reducible refine (spec_l06Any.calls k a2 a3 a7 a8 b6 b7 b8 w _ ?side1 ?side2 A5.out).mono ?_); (case side1 => exact iS71 HI329); (case side2 => exact bI HB (IsS71.ge HI329.out)); rintro e w8 ⟨d6, rfl, a9, hi, hb, hk⟩; refine ⟨_, rfl, ?_⟩; have b0 := aM (Kd.R_lower a9 (below_size (bI HB (IsS71.ge HI329.out)))); replace HB := aM (hb); replace HI329 := aM (hi); (try clear hb hk hi a9)))
  go_ret
  exact ⟨_, eS, rS b0, bI HB (IsS71.ge HI329.out)⟩
 ·obtain rfl := Bool.eq_false_iff.mpr c4
  rw [if_neg nF] at H
  replace H := bN H
  obtain ⟨⟨d0, d1, d2⟩, A9, H⟩ := H
  obtain rfl := Option.some.inj H
  go_enter Try.func5, Try.ntmps5
  go_wp2_with (first | ((with_reducible refine gC 11 ?_); refine cL (some 5) Try.func11 #[.slice A0 l0.length c0] ?_; (with_reducible refine (spec_l01New.calls k _ _ l0 a3 a5 a6 w _ ?side1 ?side2 ?side3 A2.out).mono ?_); (case side1 => repeat (first | (with_reducible first | exact HB.out | apply below_alloc | apply pw_below_drewN | apply below_drew1) | exact HB.out)); (case side2 => exact d4.out); (case side3 => exact d5.out); rintro e e1 ⟨a2, rfl, hi, hb, b9⟩; refine ⟨_, rfl, ?_⟩; have HI329 := aM (hi); replace HB := aM (hb); (try clear hb b9 hi)) | ((with_reducible refine gC 12 ?_); refine cL (some 7) Try.func12 #[.pointer (some ⟨a2, 0, none⟩), .int .i64 3] ?_; (with_reducible refine (spec_l01Once.calls a2 a3 a5 a6 3 false a7 a8 w _ ?side1 ?side2 A3.out).mono ?_); (case side1 => exact iS71 HI329); (case side2 => exact bI HB (IsS71.ge HI329.out)); rintro e e2 ⟨rfl, hi, hb, hk⟩; refine ⟨_, rfl, ?_⟩; replace HB := aM (hb); replace HI329 := aM (hi); (try clear hb hk hi)) | ((with_reducible refine gC 14 ?_); refine cL (some 11) Try.func14 #[.pointer (some ⟨a2, 0, none⟩)] ?_; (with_reducible refine (spec_l07Tokens.calls k a2 a3 a7 a8 d0 d1 d2 w _ ?side1 ?side2 A9.out).mono ?_); (case side1 => exact iS71 HI329); (case side2 => exact bI HB (IsS71.ge HI329.out)); rintro e e3 ⟨e0, rfl, a9, hi, hb, hk⟩; refine ⟨_, rfl, ?_⟩; have b1 := aM (Kd.R_lower a9 (below_size (bI HB (IsS71.ge HI329.out)))); replace HB := aM (hb); replace HI329 := aM (hi); (try clear hb hk hi a9)))
  go_ret
  exact ⟨_, eS, rS b1, bI HB (IsS71.ge HI329.out)⟩

/-! ### impl_within: function 34 -/
def impl_within.f (a0 : Int) (a1 : Int) (a2 : Int) : Option (Bool) := if a0 ≥ a1 then (some (decide (a0 ≤ a2))) else (some false)
theorem impl_within.calls (a0 : Int) (a1 : Int) (a2 : Int) (r : Bool) (w : World) (h : impl_within.f a0 a1 a2 = some r) :
  Calls Try.prog 34 #[.int .i64 a0, .int .i64 a1, .int .i64 a2] w fun e w' => e = .returned (.bool r) ∧ Drawn0 w w' := by
 have H := h
 clear h
 unfold impl_within.f at H
 by_cases c4 : a0 ≥ a1
 ·rw [if_pos c4] at H
  have a3 : decide (a1 ≤ a0) = true := decide_eq_true c4
  clear c4
  obtain rfl := Option.some.inj H
  go_enter Try.func34, Try.ntmps34
  go_wp2
  go_ret
  exact ⟨fS, dS⟩
 ·rw [if_neg c4] at H
  have a3 : decide (a1 ≤ a0) = false := decide_eq_false c4
  clear c4
  obtain rfl := Option.some.inj H
  go_enter Try.func34, Try.ntmps34
  go_wp2
  go_ret
  exact ⟨fS, dS⟩

end Go.Proofs.Ytpickbenfkcpmaa.QFnRuns7
