-- Made out of the translation by a program of this session (a changed copy of the print). Not trusted: Lean checks it.
import Derived.Test.YtigodjcnkgebaaaQFnExactRenderBandsx0
namespace Go.Proofs.Ytigodjcnkgebaaa.QFnExactRenderBands
open Go.RowKit Go.Proofs.YtigodjcnkgebaaaW.PrintWords Go.Proofs.YtigodjcnkgebaaaW.PrintLast Go.Proofs.YtigodjcnkgebaaaW.PrintMore
attribute [local go_sem] max2_int min2_int max_two min_two max_three min_three max_four min_four   -- for this text's walks alone
set_option linter.unusedVariables false
set_option linter.unusedSimpArgs false
set_option maxHeartbeats 8000000
set_option maxRecDepth 100000

/-! ### impl_IsHeight: function 20 -/
def impl_IsHeight.f (a0 : Int) : Option (Bool) := if a0 = 1 then (some true) else (if a0 = 2 then (some true) else (if a0 = 4 then (some true) else (if a0 = 8 then (some true) else (if a0 = 16 then (some true) else (if a0 = 32 then (some true) else (some false))))))
theorem impl_IsHeight.calls (a0 : Int) (r : Bool) (w : World) (h : impl_IsHeight.f a0 = some r) :
  Calls Try.prog 20 #[.int .i64 a0] w fun e w' => e = .returned (.bool r) ∧ Drawn0 w w' := by
 have H : (if a0 = 1 then (some true) else (if a0 = 2 then (some true) else (if a0 = 4 then (some true) else (if a0 = 8 then (some true) else (if a0 = 16 then (some true) else (if a0 = 32 then (some true) else (some false))))))) = some r := h
 clear h
 by_cases c2 : a0 = 1
 ·rw [if_pos c2] at H
  have c2b0 : (a0 == 1) = true := beq_iff_eq.mpr c2
  have c2b1 : (a0 != 1) = false := bne_eq_false_iff_eq.mpr c2
  clear c2
  obtain rfl := Option.some.inj H
  go_enter Try.func20, Try.ntmps20
  go_wp2
  go_ret
  exact ⟨fS, dS⟩
 ·rw [if_neg c2] at H
  have c2b0 : (a0 == 1) = false := beq_eq_false_iff_ne.mpr c2
  have c2b1 : (a0 != 1) = true := bne_iff_ne.mpr c2
  by_cases c3 : a0 = 2
  ·rw [if_pos c3] at H
   have c3b0 : (a0 == 2) = true := beq_iff_eq.mpr c3
   have c3b1 : (a0 != 2) = false := bne_eq_false_iff_eq.mpr c3
   clear c3
   obtain rfl := Option.some.inj H
   go_enter Try.func20, Try.ntmps20
   go_wp2
   go_ret
   exact ⟨fS, dS⟩
  ·rw [if_neg c3] at H
   have c3b0 : (a0 == 2) = false := beq_eq_false_iff_ne.mpr c3
   have c3b1 : (a0 != 2) = true := bne_iff_ne.mpr c3
   by_cases c4 : a0 = 4
   ·rw [if_pos c4] at H
    have c4b0 : (a0 == 4) = true := beq_iff_eq.mpr c4
    have c4b1 : (a0 != 4) = false := bne_eq_false_iff_eq.mpr c4
    clear c4
    obtain rfl := Option.some.inj H
    go_enter Try.func20, Try.ntmps20
    go_wp2
    go_ret
    exact ⟨fS, dS⟩
   ·rw [if_neg c4] at H
    have c4b0 : (a0 == 4) = false := beq_eq_false_iff_ne.mpr c4
    have c4b1 : (a0 != 4) = true := bne_iff_ne.mpr c4
    by_cases c5 : a0 = 8
    ·rw [if_pos c5] at H
     have c5b0 : (a0 == 8) = true := beq_iff_eq.mpr c5
     have c5b1 : (a0 != 8) = false := bne_eq_false_iff_eq.mpr c5
     clear c5
     obtain rfl := Option.some.inj H
     go_enter Try.func20, Try.ntmps20
     go_wp2
     go_ret
     exact ⟨fS, dS⟩
    ·rw [if_neg c5] at H
     have c5b0 : (a0 == 8) = false := beq_eq_false_iff_ne.mpr c5
     have c5b1 : (a0 != 8) = true := bne_iff_ne.mpr c5
     by_cases c6 : a0 = 16
     ·rw [if_pos c6] at H
      have c6b0 : (a0 == 16) = true := beq_iff_eq.mpr c6
      have c6b1 : (a0 != 16) = false := bne_eq_false_iff_eq.mpr c6
      clear c6
      obtain rfl := Option.some.inj H
      go_enter Try.func20, Try.ntmps20
      go_wp2
      go_ret
      exact ⟨fS, dS⟩
     ·rw [if_neg c6] at H
      have c6b0 : (a0 == 16) = false := beq_eq_false_iff_ne.mpr c6
      have c6b1 : (a0 != 16) = true := bne_iff_ne.mpr c6
      by_cases c7 : a0 = 32
      ·rw [if_pos c7] at H
       have c7b0 : (a0 == 32) = true := beq_iff_eq.mpr c7
       have c7b1 : (a0 != 32) = false := bne_eq_false_iff_eq.mpr c7
       clear c7
       obtain rfl := Option.some.inj H
       go_enter Try.func20, Try.ntmps20
       go_wp2
       go_ret
       exact ⟨fS, dS⟩
      ·rw [if_neg c7] at H
       have c7b0 : (a0 == 32) = false := beq_eq_false_iff_ne.mpr c7
       have c7b1 : (a0 != 32) = true := bne_iff_ne.mpr c7
       obtain rfl := Option.some.inj H
       go_enter Try.func20, Try.ntmps20
       go_wp2
       go_ret
       exact ⟨fS, dS⟩

/-! ### impl_CountBands: function 21 -/
def impl_CountBands.f (a0 : Int) : Option (Int) := (impl_IsHeight.f a0).bind fun t101 => (if t101 = true then (if a0 = 0 then (none) else (some (wrap64 ((32 : Int) / a0)))) else (some 0))
theorem impl_CountBands.calls (a0 : Int) (r : Int) (w : World) (h : impl_CountBands.f a0 = some r) :
  Calls Try.prog 21 #[.int .i64 a0] w fun e w' => e = .returned (.int .i64 r) ∧ Drawn0 w w' := by
 have H : ((impl_IsHeight.f a0).bind fun t101 => (if t101 = true then (if a0 = 0 then (none) else (some (wrap64 ((32 : Int) / a0)))) else (some 0))) = some r := h
 clear h
 replace H := bN H
 obtain ⟨t101, A2, H⟩ := H
 by_cases c3 : t101 = true
 ·subst c3
  rw [if_pos rfl] at H
  by_cases c4 : a0 = 0
  ·rw [if_pos c4] at H
   exact absurd H (by simp)
  ·rw [if_neg c4] at H
   have c4b0 : (a0 == 0) = false := beq_eq_false_iff_ne.mpr c4
   have c4b1 : (a0 != 0) = true := bne_iff_ne.mpr c4
   obtain rfl := Option.some.inj H
   go_enter Try.func21, Try.ntmps21
   go_wp2_with (first | ((with_reducible refine gC 20 ?_); refine cL (some 4) Try.func20 #[.int .i64 a0] ?_; (with_reducible refine (impl_IsHeight.calls a0 _ _ A2.out).mono ?_); rintro e w' ⟨rfl, ⟨nd, rfl⟩⟩; refine ⟨_, rfl, ?_⟩))
   go_ret
   exact ⟨by first | rfl | (simp; done) | (simp [*]; done) | (simp [*, Int.tdiv_eq_ediv_of_nonneg]; done), dS⟩
 ·obtain rfl := Bool.eq_false_iff.mpr c3
  rw [if_neg nF] at H
  obtain rfl := Option.some.inj H
  go_enter Try.func21, Try.ntmps21
  go_wp2_with (first | ((with_reducible refine gC 20 ?_); refine cL (some 4) Try.func20 #[.int .i64 a0] ?_; (with_reducible refine (impl_IsHeight.calls a0 _ _ A2.out).mono ?_); rintro e w' ⟨rfl, ⟨nd, rfl⟩⟩; refine ⟨_, rfl, ?_⟩))
  go_ret
  exact ⟨by first | rfl | (simp; done) | (simp [*]; done) | (simp [*, Int.tdiv_eq_ediv_of_nonneg]; done), dS⟩

/-! ### impl_within: function 126 -/
def impl_within.f (a0 : Int) (a1 : Int) (a2 : Int) : Option (Bool) := if a0 ≥ a1 then (some (decide (a0 ≤ a2))) else (some false)
theorem impl_within.calls (a0 : Int) (a1 : Int) (a2 : Int) (r : Bool) (w : World) (h : impl_within.f a0 a1 a2 = some r) :
  Calls Try.prog 126 #[.int .i64 a0, .int .i64 a1, .int .i64 a2] w fun e w' => e = .returned (.bool r) ∧ Drawn0 w w' := by
 have H : (if a0 ≥ a1 then (some (decide (a0 ≤ a2))) else (some false)) = some r := h
 clear h
 by_cases c4 : a0 ≥ a1
 ·rw [if_pos c4] at H
  have c4b0 : decide (a1 ≤ a0) = true := decide_eq_true c4
  clear c4
  obtain rfl := Option.some.inj H
  go_enter Try.func126, Try.ntmps126
  go_wp2
  go_ret
  exact ⟨fS, dS⟩
 ·rw [if_neg c4] at H
  have c4b0 : decide (a1 ≤ a0) = false := decide_eq_false c4
  clear c4
  obtain rfl := Option.some.inj H
  go_enter Try.func126, Try.ntmps126
  go_wp2
  go_ret
  exact ⟨fS, dS⟩

/-! ### bits_Mul32: function 196 -/
def bits_Mul32.f (a0 : Int) (a1 : Int) : Option (Int × Int) := some (((IntKind.u64.wrap ((IntKind.u64.wrap (a0)) * (IntKind.u64.wrap (a1)))) / 4294967296) % 4294967296, (IntKind.u64.wrap ((IntKind.u64.wrap (a0)) * (IntKind.u64.wrap (a1)))) % 4294967296)
theorem bits_Mul32.calls (a0 : Int) (a1 : Int) (r1 : Int) (r2 : Int) (w : World) (h : bits_Mul32.f a0 a1 = some (r1, r2)) :
  Calls Try.prog 196 #[.int .u32 a0, .int .u32 a1] w fun e w' => e = .returned (.tuple #[.int .u32 r1, .int .u32 r2]) ∧ Drawn0 w w' := by
 have H : (some (((IntKind.u64.wrap ((IntKind.u64.wrap (a0)) * (IntKind.u64.wrap (a1)))) / 4294967296) % 4294967296, (IntKind.u64.wrap ((IntKind.u64.wrap (a0)) * (IntKind.u64.wrap (a1)))) % 4294967296)) = some (r1, r2) := h
 clear h
 obtain ⟨rfl, rfl⟩ := sI2 H
 go_enter Try.func196, Try.ntmps196
 go_wp2
 go_ret2
 exact ⟨by first | rfl | (simp; done) | (simp [*]; done) | (simp [*, Int.tdiv_eq_ediv_of_nonneg]; done), dS⟩

/-! ### bits_Mul64: function 197 -/
def bits_Mul64.f (a0 : Int) (a1 : Int) : Option (Int × Int) := some (IntKind.u64.wrap ((IntKind.u64.wrap ((IntKind.u64.wrap ((a0 / 4294967296) * (a1 / 4294967296))) + ((IntKind.u64.wrap ((IntKind.u64.wrap ((a0 / 4294967296) * (Go.bits .and .u64 a1 4294967295))) + ((IntKind.u64.wrap ((Go.bits .and .u64 a0 4294967295) * (Go.bits .and .u64 a1 4294967295))) / 4294967296))) / 4294967296))) + ((IntKind.u64.wrap ((Go.bits .and .u64 (IntKind.u64.wrap ((IntKind.u64.wrap ((a0 / 4294967296) * (Go.bits .and .u64 a1 4294967295))) + ((IntKind.u64.wrap ((Go.bits .and .u64 a0 4294967295) * (Go.bits .and .u64 a1 4294967295))) / 4294967296))) 4294967295) + (IntKind.u64.wrap ((Go.bits .and .u64 a0 4294967295) * (a1 / 4294967296))))) / 4294967296)), IntKind.u64.wrap (a0 * a1))
theorem bits_Mul64.calls (a0 : Int) (a1 : Int) (r1 : Int) (r2 : Int) (w : World) (h : bits_Mul64.f a0 a1 = some (r1, r2)) :
  Calls Try.prog 197 #[.int .u64 a0, .int .u64 a1] w fun e w' => e = .returned (.tuple #[.int .u64 r1, .int .u64 r2]) ∧ Drawn0 w w' := by
 have H : (some (IntKind.u64.wrap ((IntKind.u64.wrap ((IntKind.u64.wrap ((a0 / 4294967296) * (a1 / 4294967296))) + ((IntKind.u64.wrap ((IntKind.u64.wrap ((a0 / 4294967296) * (Go.bits .and .u64 a1 4294967295))) + ((IntKind.u64.wrap ((Go.bits .and .u64 a0 4294967295) * (Go.bits .and .u64 a1 4294967295))) / 4294967296))) / 4294967296))) + ((IntKind.u64.wrap ((Go.bits .and .u64 (IntKind.u64.wrap ((IntKind.u64.wrap ((a0 / 4294967296) * (Go.bits .and .u64 a1 4294967295))) + ((IntKind.u64.wrap ((Go.bits .and .u64 a0 4294967295) * (Go.bits .and .u64 a1 4294967295))) / 4294967296))) 4294967295) + (IntKind.u64.wrap ((Go.bits .and .u64 a0 4294967295) * (a1 / 4294967296))))) / 4294967296)), IntKind.u64.wrap (a0 * a1))) = some (r1, r2) := h
 clear h
 obtain ⟨rfl, rfl⟩ := sI2 H
 go_enter Try.func197, Try.ntmps197
 go_wp2
 go_ret2
 exact ⟨by first | rfl | (simp; done) | (simp [*]; done) | (simp [*, Int.tdiv_eq_ediv_of_nonneg]; done), dS⟩

/-! ### bits_Mul: function 185 -/
def bits_Mul.f (a0 : Int) (a1 : Int) : Option (Int × Int) := (bits_Mul64.f a0 a1).bind fun bt102 => (some (bt102.1, bt102.2))
theorem bits_Mul.calls (a0 : Int) (a1 : Int) (r1 : Int) (r2 : Int) (w : World) (h : bits_Mul.f a0 a1 = some (r1, r2)) :
  Calls Try.prog 185 #[.int .u64 a0, .int .u64 a1] w fun e w' => e = .returned (.tuple #[.int .u64 r1, .int .u64 r2]) ∧ Drawn0 w w' := by
 have H : ((bits_Mul64.f a0 a1).bind fun bt102 => (some (bt102.1, bt102.2))) = some (r1, r2) := h
 clear h
 replace H := bN H
 obtain ⟨⟨t102, t103⟩, A3, H⟩ := H
 obtain ⟨rfl, rfl⟩ := sI2 H
 go_enter Try.func185, Try.ntmps185
 go_wp2_with (first | ((with_reducible refine gC 197 ?_); refine cL (some 25) Try.func197 #[.int .u64 a0, .int .u64 a1] ?_; (with_reducible refine (bits_Mul64.calls a0 a1 t102 t103 _ A3.out).mono ?_); rintro e w' ⟨rfl, ⟨nd, rfl⟩⟩; refine ⟨_, rfl, ?_⟩))
 go_ret2
 exact ⟨fS, dS⟩

/-! ### slices_Repeat_int_int: function 141 -/
def slices_Repeat_int_int.f (l0 : List Int) (a1 : Int) : Option (List Int) := if l0 = [255] ∧ a1 = 32 then some (List.replicate 32 255) else none
def repC (n : Nat) : List Value := List.replicate n (Value.int .i64 255) ++ List.replicate (32 - n) (Value.int .i64 0)
theorem src_ {W : World} {g n : Nat} (h : W.heap[g]? = some (.cells (repC n).toArray 3 (0, 0))) (m : Nat) (hm : m ≤ n) : ∀ (j : Nat) (v : Value), (List.replicate m (Value.int .i64 255))[j]? = some v → W.cell? ((⟨g, 0, none⟩ : Addr).add j) = some v := by
 intro j v hj
 rw [add_plain, blk_cell h]
 obtain ⟨hl, rfl⟩ := List.getElem?_eq_some_iff.1 hj
 rw [List.length_replicate] at hl
 rw [List.getElem?_toArray, repC, List.getElem?_append_left (by rw [List.length_replicate]; omega), List.getElem?_replicate, if_pos (by omega), List.getElem_replicate]
theorem slices_Repeat_int_int.calls (A0 : Option Addr) (c0 : Nat) (l0 : List Int) (a1 : Int) (r : List Int) (w : World) (hr0 : Kd.C (Kd.int .i64) w A0 l0.length l0) (hc0 : l0.length ≤ c0) (h : slices_Repeat_int_int.f l0 a1 = some r) :
  Calls Try.prog 141 #[.slice A0 l0.length c0, .int .i64 a1] w fun e w' => ∃ v0_ : Value, e = .returned (v0_) ∧ Kd.R (Kd.int .i64) 3 w' w.heap.size (fun _ => True) v0_ r ∧ Below w.heap.size w w' := by
 unfold slices_Repeat_int_int.f at h
 split at h
 case isFalse => simp at h
 rename_i hc
 obtain ⟨rfl, rfl⟩ := hc
 injection h with h
 subst h
 obtain ⟨ad, rfl, hx⟩ := Kd.at_int hr0 0 (by decide) (by decide)
 have hmul : bits_Mul.f 1 32 = some (0, 32) := by decide
 have hcap : 1 ≤ c0 := hc0
 have hmk : ∀ W : World, (Instr.makeSlice 71 (.int .i64 32) (.int .i64 32)).run Try.prog W = .ok (.slice (some ⟨W.heap.size, 0, none⟩) 32 32) (W.alloc (.cells (madeCells #[.int .i64 0] 32) 3)) := print_make (P := Try.prog) 71 3 .i64 8 Try.underlying71 info3 (by decide) 32 (by decide)
 have hsrc : ∀ nd (j : Nat) (v : Value), [Value.int .i64 255][j]? = some v → ((w.drewN nd).alloc (.cells (madeCells #[.int .i64 0] 32) 3)).cell? (ad.add j) = some v := by
  intro nd j v hj
  match j, hj with
  | 0, hj =>
   injection hj with hj
   subst hj
   exact ((below_alloc (pw_below_drewN (Below.refl _ _) nd) _).cell (World.block_lt_of_cell? w _ hx)).trans hx
  | j + 1, hj => simp at hj
 have hrow : ∀ nd, ((w.drewN nd).alloc (.cells (madeCells #[.int .i64 0] 32) 3)).heap[w.heap.size]? = some (.cells (repC 0).toArray 3 (0, 0)) := by
  intro nd
  have h := blk_new (w.drewN nd) (.cells (madeCells #[.int .i64 0] 32) 3)
  have e : madeCells #[Value.int .i64 0] 32 = (repC 0).toArray := by
   have hl : (madeCells #[Value.int .i64 0] 32).toList = List.replicate 32 (Value.int .i64 0) := by
    apply List.ext_getElem
    ·simp [madeCells]
    ·intro i h1 h2
     rw [List.getElem_replicate]
     simp [madeCells, Nat.mod_one]
   exact Array.toList_inj.1 hl
  rw [e] at h ⊢
  exact h
 go_enter Try.func141, Try.ntmps141
 go_wp2_with (first | (go_at_call 185; (with_reducible refine (bits_Mul.calls 1 32 0 32 _ hmul).mono ?_); rintro e w' ⟨rfl, ⟨nd, rfl⟩⟩) | ((with_reducible refine gate_dst (N := 33) rfl ?_); refine wpList_copy_splice rfl (.tmp 31) (.tmp 32) 71 71 rfl 3 Try.underlying71 (by rfl) (some ⟨w.heap.size, 0, none⟩) (some ad) 32 32 1 c0 rfl rfl w.heap.size 0 (repC 0) 3 (hrow nd) [.int .i64 255] (by rfl) (fun _ => ⟨rfl, ad, rfl, hsrc nd⟩) (by decide) (by simp [Value.oneCell']) w.heap.size w (below_alloc (pw_below_drewN (Below.refl _ _) nd) _) (Nat.le_refl _) ?_; intro w2 HG2 hB2))
 have HG := Aside0.mk HG2.out
 have HB := Aside0.mk hB2
 clear HG2 hB2
 clear hsrc hrow hmk hmul
 have hg := Aside0.mk (Nat.le_refl w.heap.size)
 generalize hg0 : w.heap.size = g0 at HG hg
 have hg1 := Aside0.mk hg0
 clear hg0
 go_loopg [8] 32 (fun kq v8 w' => ∃ (m : Nat) (n : Int), v8 = .int .i64 n ∧ Aside0 (m = 1 ∧ n = 1 ∧ 6 ≤ kq ∨ m = 2 ∧ n = 2 ∧ 5 ≤ kq ∨ m = 4 ∧ n = 4 ∧ 4 ≤ kq ∨ m = 8 ∧ n = 8 ∧ 3 ≤ kq ∨ m = 16 ∧ n = 16 ∧ 2 ≤ kq ∨ m = 32 ∧ n = 32 ∧ 1 ≤ kq) ∧ Aside0 (w'.heap[g0]? = some (.cells (repC m).toArray 3 (0, 0))) ∧ Aside0 (Below w.heap.size w w'))
 case atStart => exact ⟨1, 1, rfl, ⟨by decide⟩, HG, HB⟩
 case round =>
  clear HG HB
  obtain ⟨m, n, rfl, hn, HG, HB⟩ := hrel
  rcases hn.out with ⟨rfl, rfl, n1⟩ | ⟨rfl, rfl, n1⟩ | ⟨rfl, rfl, n1⟩ | ⟨rfl, rfl, n1⟩ | ⟨rfl, rfl, n1⟩ | ⟨rfl, rfl, n1⟩
  ·clear hn
   obtain ⟨k1, rfl⟩ : ∃ k1, gk = k1 + 1 := ⟨gk - 1, by omega⟩
   have N1 := Aside0.mk n1
   clear n1
   have S := Aside0.mk (src_ HG.out 1 (by decide))
   go_wp2
   go_region_law (refine step_copy_splice rfl (.tmp 41) (.tmp 44) 71 71 rfl 3 Try.underlying71 (by rfl) (some ⟨g0, 1, none⟩) (some ⟨g0, 0, none⟩) 31 31 1 32 (by simp [Act.eval, Act.put]) (by simp [Act.eval, Act.put]) g0 1 (repC 1) 3 HG.out (List.replicate 1 (Value.int .i64 255)) (by rfl) (fun _ => ⟨rfl, _, rfl, S.out⟩) (by decide) (by simp [Value.oneCell']) w.heap.size w (below_drew1 HB.out) (by rw [hg1.out]; exact Nat.le_refl _) ?_; intro w4 hg4 hb4; clear HB HG S; have HG := Aside0.mk hg4.out; have HB := Aside0.mk hb4; clear hg4 hb4)
   go_wp2
   go_roundg k1
   case measure => have := N1.out; omega
   case rel => exact ⟨2, 2, (by first | rfl | (simp [goInt]; done)), ⟨by have := N1.out; omega⟩, HG, HB⟩
  ·clear hn
   obtain ⟨k1, rfl⟩ : ∃ k1, gk = k1 + 1 := ⟨gk - 1, by omega⟩
   have N1 := Aside0.mk n1
   clear n1
   have S := Aside0.mk (src_ HG.out 2 (by decide))
   go_wp2
   go_region_law (refine step_copy_splice rfl (.tmp 41) (.tmp 44) 71 71 rfl 3 Try.underlying71 (by rfl) (some ⟨g0, 2, none⟩) (some ⟨g0, 0, none⟩) 30 30 2 32 (by simp [Act.eval, Act.put]) (by simp [Act.eval, Act.put]) g0 2 (repC 2) 3 HG.out (List.replicate 2 (Value.int .i64 255)) (by rfl) (fun _ => ⟨rfl, _, rfl, S.out⟩) (by decide) (by simp [Value.oneCell']) w.heap.size w (below_drew1 HB.out) (by rw [hg1.out]; exact Nat.le_refl _) ?_; intro w4 hg4 hb4; clear HB HG S; have HG := Aside0.mk hg4.out; have HB := Aside0.mk hb4; clear hg4 hb4)
   go_wp2
   go_roundg k1
   case measure => have := N1.out; omega
   case rel => exact ⟨4, 4, (by first | rfl | (simp [goInt]; done)), ⟨by have := N1.out; omega⟩, HG, HB⟩
  ·clear hn
   obtain ⟨k1, rfl⟩ : ∃ k1, gk = k1 + 1 := ⟨gk - 1, by omega⟩
   have N1 := Aside0.mk n1
   clear n1
   have S := Aside0.mk (src_ HG.out 4 (by decide))
   go_wp2
   go_region_law (refine step_copy_splice rfl (.tmp 41) (.tmp 44) 71 71 rfl 3 Try.underlying71 (by rfl) (some ⟨g0, 4, none⟩) (some ⟨g0, 0, none⟩) 28 28 4 32 (by simp [Act.eval, Act.put]) (by simp [Act.eval, Act.put]) g0 4 (repC 4) 3 HG.out (List.replicate 4 (Value.int .i64 255)) (by rfl) (fun _ => ⟨rfl, _, rfl, S.out⟩) (by decide) (by simp [Value.oneCell']) w.heap.size w (below_drew1 HB.out) (by rw [hg1.out]; exact Nat.le_refl _) ?_; intro w4 hg4 hb4; clear HB HG S; have HG := Aside0.mk hg4.out; have HB := Aside0.mk hb4; clear hg4 hb4)
   go_wp2
   go_roundg k1
   case measure => have := N1.out; omega
   case rel => exact ⟨8, 8, (by first | rfl | (simp [goInt]; done)), ⟨by have := N1.out; omega⟩, HG, HB⟩
  ·clear hn
   obtain ⟨k1, rfl⟩ : ∃ k1, gk = k1 + 1 := ⟨gk - 1, by omega⟩
   have N1 := Aside0.mk n1
   clear n1
   have S := Aside0.mk (src_ HG.out 8 (by decide))
   go_wp2
   go_region_law (refine step_copy_splice rfl (.tmp 41) (.tmp 44) 71 71 rfl 3 Try.underlying71 (by rfl) (some ⟨g0, 8, none⟩) (some ⟨g0, 0, none⟩) 24 24 8 32 (by simp [Act.eval, Act.put]) (by simp [Act.eval, Act.put]) g0 8 (repC 8) 3 HG.out (List.replicate 8 (Value.int .i64 255)) (by rfl) (fun _ => ⟨rfl, _, rfl, S.out⟩) (by decide) (by simp [Value.oneCell']) w.heap.size w (below_drew1 HB.out) (by rw [hg1.out]; exact Nat.le_refl _) ?_; intro w4 hg4 hb4; clear HB HG S; have HG := Aside0.mk hg4.out; have HB := Aside0.mk hb4; clear hg4 hb4)
   go_wp2
   go_roundg k1
   case measure => have := N1.out; omega
   case rel => exact ⟨16, 16, (by first | rfl | (simp [goInt]; done)), ⟨by have := N1.out; omega⟩, HG, HB⟩
  ·clear hn
   obtain ⟨k1, rfl⟩ : ∃ k1, gk = k1 + 1 := ⟨gk - 1, by omega⟩
   have N1 := Aside0.mk n1
   clear n1
   have S := Aside0.mk (src_ HG.out 16 (by decide))
   go_wp2
   go_region_law (refine step_copy_splice rfl (.tmp 41) (.tmp 44) 71 71 rfl 3 Try.underlying71 (by rfl) (some ⟨g0, 16, none⟩) (some ⟨g0, 0, none⟩) 16 16 16 32 (by simp [Act.eval, Act.put]) (by simp [Act.eval, Act.put]) g0 16 (repC 16) 3 HG.out (List.replicate 16 (Value.int .i64 255)) (by rfl) (fun _ => ⟨rfl, _, rfl, S.out⟩) (by decide) (by simp [Value.oneCell']) w.heap.size w (below_drew1 HB.out) (by rw [hg1.out]; exact Nat.le_refl _) ?_; intro w4 hg4 hb4; clear HB HG S; have HG := Aside0.mk hg4.out; have HB := Aside0.mk hb4; clear hg4 hb4)
   go_wp2
   go_roundg k1
   case measure => have := N1.out; omega
   case rel => exact ⟨32, 32, (by first | rfl | (simp [goInt]; done)), ⟨by have := N1.out; omega⟩, HG, HB⟩
  ·clear hn
   go_wp2
   go_ret
   exact ⟨_, rfl, Kd.R_of_own ⟨by decide, .inr ⟨g0, 32, (repC 32).toArray, rfl, Nat.le_of_eq hg1.out, HG.out, Nat.le_refl _, by decide, by rfl, by rfl⟩⟩ (fun _ _ => trivial), HB.out⟩


/-! ### impl_WhiteRows: function 74 -/
def impl_WhiteRows.l0 : Nat → Int → List (List Int) → Option ((List (List Int)))
 | 0, _, _ => none
 | k + 1, x0, x3 => if x0 > 0 then ((slices_Repeat_int_int.f (([255] : List Int)) 32).bind fun t108 => (if x3.length < 5864062014805 then (impl_WhiteRows.l0 k (wrap64 (x0 - 1)) (x3 ++ [t108])) else (none))) else (some x3)
def impl_WhiteRows.f (k : Nat) (a0 : Int) : Option ((List (List Int))) := (impl_within.f a0 0 32).bind fun t104 => (if t104 = true then (impl_WhiteRows.l0 k a0 ([] : List (List Int))) else (some ([] : List (List Int))))
theorem impl_WhiteRows.calls (k : Nat) (a0 : Int) (r : List (List Int)) (w : World) (h : impl_WhiteRows.f k a0 = some r) :
  Calls Try.prog 74 #[.int .i64 a0] w fun e w' => ∃ v0_ : Value, e = .returned (v0_) ∧ Kd.S (Kd.slice 3 (Kd.int .i64)) 71 w' w.heap.size (fun _ => True) v0_ r ∧ Below w.heap.size w w' := by
 have HB := Aside0.mk (Below.refl w.heap.size w)
 have H : ((impl_within.f a0 0 32).bind fun t104 => (if t104 = true then (impl_WhiteRows.l0 k a0 ([] : List (List Int))) else (some ([] : List (List Int))))) = some r := h
 clear h
 replace H := bN H
 obtain ⟨t104, A2, H⟩ := H
 by_cases c3 : t104 = true
 ·subst c3
  rw [if_pos rfl] at H
  have H' := Aside0.mk H
  clear H
  go_enter Try.func74, Try.ntmps74
  go_wp2_with (first | ((with_reducible refine gC 126 ?_); refine cL (some 5) Try.func126 #[.int .i64 a0, .int .i64 0, .int .i64 32] ?_; (with_reducible refine (impl_within.calls a0 0 32 _ _ A2.out).mono ?_); rintro e w' ⟨rfl, ⟨nd, rfl⟩⟩; refine ⟨_, rfl, ?_⟩))
  go_loopg [0, 3] k (fun kq v0 v3 w' => ∃ (x0_1 : Int) (x3_1 : List (List Int)), v0 = .int .i64 x0_1 ∧ Aside0 (impl_WhiteRows.l0 kq x0_1 x3_1 = some r) ∧ Aside0 (kq ≤ k) ∧ Aside0 (Kd.S (Kd.slice 3 (Kd.int .i64)) 71 w' w.heap.size (fun _ => True) v3 x3_1) ∧ Aside0 (Below w.heap.size w w'))
  case atStart => exact ⟨(a0), (([] : List (List Int))), fS, H', ⟨Nat.le_refl _⟩, ⟨by first | exact Kd.S_nil _ _ _ _ _ | exact Kd.N_nil _ _ _ _ _ | exact Kd.V_nil _ _ _ _ _ | exact Kd.Q_nil _ _ _ _ _ | exact Kd.R_nil _ _ _ _ _⟩, ⟨bS⟩⟩
  case round =>
   clear H'
   try clear c1
   try clear p2
   try clear c3
   obtain ⟨x0_1, x3_1, rfl, HA, HK1, HO_3, HB⟩ := hrel
   cases gk with
   | zero => exact absurd HA.out (by simp [impl_WhiteRows.l0])
   | succ k1 =>
    have H := HA.out
    clear HA
    simp only [impl_WhiteRows.l0] at H
    by_cases c4 : x0_1 > 0
    ·rw [if_pos c4] at H
     have c4b0 : decide (0 < x0_1) = true := decide_eq_true c4
     clear c4
     obtain ⟨y105, hy105⟩ : ∃ y_ : List Int, y_ = (([255] : List Int)) := ⟨_, rfl⟩
     replace H : ((slices_Repeat_int_int.f y105 32).bind fun t108 => (if x3_1.length < 5864062014805 then (impl_WhiteRows.l0 k1 (wrap64 (x0_1 - 1)) (x3_1 ++ [t108])) else (none))) = some r := by first | (rw [hy105]; with_reducible exact H) | (have H2_ := (Option.bind_some _ _).symm.trans H; rw [hy105]; with_reducible exact H2_) | (have H2_ := (Option.bind_some _ _).symm.trans H; with_reducible exact H2_) | with_reducible exact H | (rw [hy105]; exact H) | exact H
     have Ny105 := Aside0.mk hy105
     clear hy105
     replace H := bN H
     obtain ⟨t108, A5, H⟩ := H
     obtain ⟨LMc6, H⟩ := iL H
     obtain ⟨y111, hy111⟩ : ∃ y_ : List (List Int), y_ = (x3_1 ++ [t108]) := ⟨_, rfl⟩
     replace H : (impl_WhiteRows.l0 k1 (wrap64 (x0_1 - 1)) y111) = some r := by first | (rw [hy111]; with_reducible exact H) | (have H2_ := (Option.bind_some _ _).symm.trans H; rw [hy111]; with_reducible exact H2_) | (have H2_ := (Option.bind_some _ _).symm.trans H; with_reducible exact H2_) | with_reducible exact H | (rw [hy111]; exact H) | exact H
     have Ny111 := Aside0.mk hy111
     clear hy111
     have H' := Aside0.mk H
     clear H
     go_wp2_with (first | ((with_reducible refine gate_dst (N := 12) rfl ?_); refine Kd.R_lit (Kd.int .i64) _ 3 ?hg (N := 12) ?hd (xs := ([255] : List Int)) (inner := [.int .i64 255]) (ok := fun _ => True) (okp := fun _ => True) ?hr ?hp (fun _ hk => hk) trivial (Below.refl _ _) (Nat.le_refl _) (by simp) ?_; (case hd => rfl); (case hg => rfl); (case hr => first | (go_simp; done) | (go_simp; rfl)); (case hp => exact (Reps.one (show Kd.M (Kd.int .i64) _ _ _ 255 [.int .i64 255] from rfl) (Reps.none _ _))); intro v106 w7 ho8 hb hg_ hnew_; clear hg_ hnew_; (first | rw [← Ny105.out] at ho8 | (simp only [Int.reduceToNat] at ho8; rw [← Ny105.out] at ho8)); have HO107 := Aside0.mk (Kd.R_lower ho8 (below_size bS)); replace HO_3 := Aside0.mk (Kd.S_elder' (sS HO_3) (Kd.R_base ho8) hb); replace HB := hB hb; clear hb ho8; obtain ⟨Ao9, co9, eo9⟩ := Kd.R_slice HO107.out; subst eo9) | ((with_reducible refine gC 141 ?_); refine cL (some 13) Try.func141 #[.slice Ao9 y105.length co9, .int .i64 32] ?_; (with_reducible refine (slices_Repeat_int_int.calls _ _ y105 32 t108 _ (cS (Kd.R_reads' HO107.out).2.2) ((Kd.R_reads' HO107.out).2.1) A5.out).mono ?_); rintro e w10 ⟨v109, rfl, ho0, hb⟩; refine ⟨_, rfl, ?_⟩; have HO110 := Aside0.mk (Kd.R_lower (Kd.R_new' ho0 (Kd.R_lt (rS HO107))) (below_size bS)); replace HO_3 := Aside0.mk (Kd.S_elder' (sS HO_3) (Kd.R_base ho0) hb); replace HO107 := Aside0.mk (Kd.R_elder' (rS HO107) (Kd.R_base ho0) hb); replace HB := hB hb; (try clear hb); (try clear hb2); (try clear hk); (try clear hi); (try clear ho0); obtain ⟨Ao12, co12, eo12⟩ := Kd.R_slice HO110.out; subst eo12) | ((with_reducible refine gate_builtin (b := .append) (xs := #[.tmp 11, .tmp 14]) rfl ?_); at_builtin; refine Kd.S_append (Kd.slice 3 (Kd.int .i64)) (w0 := w) w.heap.size rfl (.tmp 11) (.tmp 14) 27 71 (.slice none 0 0) 24 rfl Try.underlying27 info71 rfl (by decide) (by omega) u3 x3_1 t108 [.slice Ao12 t108.length co12] (fun k_ => some k_ ≠ (.slice Ao9 y105.length co9 : Value).ownBlock) (fun k_ => some k_ = (.slice Ao12 t108.length co12 : Value).ownBlock) rfl rfl ?aP (fun k_ hk_ => ((Kd.R_mono (ok' := fun k_ => ((fun k_ => some k_ ≠ (.slice Ao9 y105.length co9 : Value).ownBlock)) k_ ∧ some k_ ≠ (u3 : Value).ownBlock) (Kd.R_apart' (HO110.out) (Kd.S_typed HO_3.out) (by decide)) (fun k_ hk => ⟨hk.1.2, hk.2⟩))).1 k_ hk_.symm) ?aF ?aO ?aB ?aS ?aL ?_; (case aP => exact Kd.M_row (Kd.R_mono (Kd.R_tight rfl (Kd.R_mono (ok' := fun k_ => ((fun k_ => some k_ ≠ (.slice Ao9 y105.length co9 : Value).ownBlock)) k_ ∧ some k_ ≠ (u3 : Value).ownBlock) (Kd.R_apart' (HO110.out) (Kd.S_typed HO_3.out) (by decide)) (fun k_ hk => ⟨hk.1.2, hk.2⟩))) (fun _ h_ => h_))); (case aB => exact bS); (case aF => exact (fun k_ hk => Kd.fresh' (Kd.R_lt (rS HO107)) k_ hk)); (case aO => exact (by exact sT (Kd.S_mono HO_3.out (fun k_ hk => ⟨hk.1.2, fun e_ => hk.2 e_⟩)))); (case aS => exact (below_size bS)); (case aL => have := LMc6.out; omega); intro v112 w11 ho hb hg hat; rw [← Ny111.out] at ho; have HO113 := Aside0.mk (ho); replace HO107 := Aside0.mk (Kd.R_over' (rS HO107) (Kd.S_typed (sS HO_3)) (by decide) hg); replace HB := Aside0.mk (hb); clear HO_3 HO110; clear ho hb hg hat))
     go_roundg k1
     case measure => have := HK1.out; omega
     case rel => exact ⟨(wrap64 (x0_1 - 1)), (y111), fS, H', ⟨by have := HK1.out; omega⟩, ⟨by exact sT (Kd.S_mono HO113.out (fun _ hk => trivial))⟩, ⟨bS⟩⟩
    ·rw [if_neg c4] at H
     have c4b0 : decide (0 < x0_1) = false := decide_eq_false c4
     clear c4
     obtain rfl := Option.some.inj H
     go_wp2
     go_ret
     exact ⟨_, eS, sS HO_3, bS⟩
 ·obtain rfl := Bool.eq_false_iff.mpr c3
  rw [if_neg nF] at H
  obtain rfl := Option.some.inj H
  go_enter Try.func74, Try.ntmps74
  go_wp2_with (first | ((with_reducible refine gC 126 ?_); refine cL (some 5) Try.func126 #[.int .i64 a0, .int .i64 0, .int .i64 32] ?_; (with_reducible refine (impl_within.calls a0 0 32 _ _ A2.out).mono ?_); rintro e w' ⟨rfl, ⟨nd, rfl⟩⟩; refine ⟨_, rfl, ?_⟩))
  go_ret
  exact ⟨_, eS, by first | exact Kd.S_nil _ _ _ _ _ | exact Kd.N_nil _ _ _ _ _ | exact Kd.V_nil _ _ _ _ _ | exact Kd.Q_nil _ _ _ _ _ | exact Kd.R_nil _ _ _ _ _, bS⟩

/-! ### impl_coordOk: function 157 -/
def impl_coordOk.f (a0 : Int) : Option (Bool) := (impl_within.f a0 (-200) 200).bind fun t114 => (some t114)
theorem impl_coordOk.calls (a0 : Int) (r : Bool) (w : World) (h : impl_coordOk.f a0 = some r) :
  Calls Try.prog 157 #[.int .i64 a0] w fun e w' => e = .returned (.bool r) ∧ Drawn0 w w' := by
 have H : ((impl_within.f a0 (-200) 200).bind fun t114 => (some t114)) = some r := h
 clear h
 replace H := bN H
 obtain ⟨t114, A2, H⟩ := H
 obtain rfl := Option.some.inj H
 go_enter Try.func157, Try.ntmps157
 go_wp2_with (first | ((with_reducible refine gC 126 ?_); refine cL (some 4) Try.func126 #[.int .i64 a0, .int .i64 (-200), .int .i64 200] ?_; (with_reducible refine (impl_within.calls a0 (-200) 200 t114 _ A2.out).mono ?_); rintro e w' ⟨rfl, ⟨nd, rfl⟩⟩; refine ⟨_, rfl, ?_⟩))
 go_ret
 exact ⟨fS, dS⟩

/-! ### impl_PointOk: function 188 -/
def impl_PointOk.f (a0_0 : Int) (a0_1 : Int) : Option (Bool) := (impl_coordOk.f a0_0).bind fun t116 => (if t116 = true then ((impl_coordOk.f a0_1).bind fun t117 => (some t117)) else (some false))
theorem impl_PointOk.lf0 {p : Prop} (h : p := by
 go_enter Try.func188, Try.ntmps188
 go_wp2_with (first | ((with_reducible refine gD 1 ?_); refine bxE #[.int .i64 a0_0, .int .i64 a0_1] 171 ?_; intro gb115 hg w5 BK115 hb; have GW115 := gE hg; have GE115 := gE hg; replace HB := hB hb; clear hb hg; have hz6 := cz2 BK115) | ((with_reducible refine gC 157 ?_); refine cL (some 5) Try.func157 #[.int .i64 a0_0] ?_; (with_reducible refine (impl_coordOk.calls a0_0 _ _ A2.out).mono ?_); rintro e w' ⟨rfl, ⟨nd, rfl⟩⟩; refine ⟨_, rfl, ?_⟩) | (go_at_call 157; (with_reducible refine (impl_coordOk.calls a0_1 t117 _ A4.out).mono ?_); rintro e w' ⟨rfl, ⟨nd, rfl⟩⟩))
 go_ret
 exact ⟨eS, bS⟩) : p := h
theorem impl_PointOk.calls (a0_0 : Int) (a0_1 : Int) (r : Bool) (w : World) (h : impl_PointOk.f a0_0 a0_1 = some r) :
  Calls Try.prog 188 #[.agg #[.int .i64 a0_0, .int .i64 a0_1]] w fun e w' => e = .returned (.bool r) ∧ Below w.heap.size w w' := by
 have hu171 := Try.underlying171
 have HB := Aside0.mk (Below.refl w.heap.size w)
 have H : ((impl_coordOk.f a0_0).bind fun t116 => (if t116 = true then ((impl_coordOk.f a0_1).bind fun t117 => (some t117)) else (some false))) = some r := h
 clear h
 replace H := bN H
 obtain ⟨t116, A2, H⟩ := H
 by_cases c3 : t116 = true
 ·subst c3
  rw [if_pos rfl] at H
  replace H := bN H
  obtain ⟨t117, A4, H⟩ := H
  obtain rfl := Option.some.inj H
  exact impl_PointOk.lf0
 ·obtain rfl := Bool.eq_false_iff.mpr c3
  rw [if_neg nF] at H
  obtain rfl := Option.some.inj H
  exact impl_PointOk.lf0

/-! ### impl_pointsOk: function 151 -/
def impl_pointsOk.l0 : Nat → List (S171) → Int → Int → Option (Bool)
 | 0, _, _, _ => none
 | k + 1, x5, x6, x7 => if x7 < x6 then (if 0 ≤ x7 then (if x7 < (x5.length : Int) then ((impl_PointOk.f ((rd_T171 x5 x7).f0) ((rd_T171 x5 x7).f1)).bind fun t120 => (if t120 = true then (impl_pointsOk.l0 k x5 x6 (wrap64 (x7 + 1))) else (some false))) else (none)) else (none)) else (some true)
def impl_pointsOk.f (k : Nat) (l0 : List (S171)) : Option (Bool) := impl_pointsOk.l0 k l0 (l0.length : Int) 0
theorem impl_pointsOk.calls (k : Nat) (A0 : Option Addr) (c0 : Nat) (l0 : List (S171)) (r : Bool) (w : World) (hr0 : Kd.C k171 w A0 l0.length l0) (hc0 : l0.length ≤ c0) (h : impl_pointsOk.f k l0 = some r) :
  Calls Try.prog 151 #[.slice A0 l0.length c0] w fun e w' => e = .returned (.bool r) ∧ Below w.heap.size w w' := by
 have hu171 := Try.underlying171
 have HR0 := Aside0.mk hr0
 have HC0 := Aside0.mk hc0
 clear hr0 hc0
 have HB := Aside0.mk (Below.refl w.heap.size w)
 have H : (impl_pointsOk.l0 k l0 (l0.length : Int) 0) = some r := h
 clear h
 have H' := Aside0.mk H
 clear H
 go_enter Try.func151, Try.ntmps151
 go_wp2
 go_loopg [7] k (fun kq v7 w' => ∃ (x7_1 : Int), v7 = .int .i64 x7_1 ∧ Aside0 (impl_pointsOk.l0 kq l0 (l0.length : Int) x7_1 = some r) ∧ Aside0 (kq ≤ k) ∧ Aside0 (Below w.heap.size w w'))
 case atStart => exact ⟨(0), fS, H', ⟨Nat.le_refl _⟩, ⟨bS⟩⟩
 case round =>
  clear H'
  try clear c1
  obtain ⟨x7_1, rfl, HA, HK1, HB⟩ := hrel
  cases gk with
  | zero => exact absurd HA.out (by simp [impl_pointsOk.l0])
  | succ k1 =>
   have H := HA.out
   clear HA
   simp only [impl_pointsOk.l0] at H
   rcases iD H with ⟨c2b0, H⟩ | ⟨c2b0, H⟩
   ·obtain ⟨c3b0, H⟩ := iT H
    obtain ⟨c4b0, H⟩ := iT H
    replace H := bN H
    obtain ⟨t120, A5, H⟩ := H
    by_cases c6 : t120 = true
    ·subst c6
     rw [if_pos rfl] at H
     have H' := Aside0.mk H
     clear H
     have p118 : 0 ≤ (x7_1 : Int) := dA
     have q118 : x7_1 < (l0.length : Int) := dA
     obtain ⟨ad118, e118, hx118_0, hx118_1⟩ := at_T171 HR0.out x7_1 p118 q118
     cases e118
     replace hx118_0 := cB HB hx118_0
     replace hx118_1 := cB HB hx118_1
     replace p118 := eq_true p118
     replace q118 := eq_true q118
     go_wp2_with (first | ((with_reducible refine gD 4 ?_); refine bxE #[.int .i64 0, .int .i64 0] 171 ?_; intro gb119 hg w7 BK119 hb; have GW119 := gE hg; have GE119 := gE hg; replace HB := hB hb; clear hb hg; have hz8 := cz2 BK119) | ((with_reducible refine gC 188 ?_); refine cL (some 12) Try.func188 #[.agg #[.int .i64 ((rd_T171 l0 x7_1).f0), .int .i64 ((rd_T171 l0 x7_1).f1)]] ?_; (with_reducible refine (impl_PointOk.calls ((rd_T171 l0 x7_1).f0) ((rd_T171 l0 x7_1).f1) _ _ A5.out).mono ?_); rintro e w9 ⟨rfl, hb⟩; refine ⟨_, rfl, ?_⟩; replace BK119 := Aside0.mk (blk_below (g := gb119) (o := .cells #[.int .i64 ((rd_T171 l0 x7_1).f0), .int .i64 ((rd_T171 l0 x7_1).f1)] 171 (0, 0)) kS hb); replace HB := hB hb; (try clear hb); (try clear hb2); (try clear hk); (try clear hi)))
     go_roundg k1
     case measure => have := HK1.out; omega
     case rel => exact ⟨(wrap64 (x7_1 + 1)), fS, H', ⟨by have := HK1.out; omega⟩, ⟨bS⟩⟩
    ·obtain rfl := Bool.eq_false_iff.mpr c6
     rw [if_neg nF] at H
     obtain rfl := Option.some.inj H
     have p118 : 0 ≤ (x7_1 : Int) := dA
     have q118 : x7_1 < (l0.length : Int) := dA
     obtain ⟨ad118, e118, hx118_0, hx118_1⟩ := at_T171 HR0.out x7_1 p118 q118
     cases e118
     replace hx118_0 := cB HB hx118_0
     replace hx118_1 := cB HB hx118_1
     replace p118 := eq_true p118
     replace q118 := eq_true q118
     go_wp2_with (first | ((with_reducible refine gD 4 ?_); refine bxE #[.int .i64 0, .int .i64 0] 171 ?_; intro gb119 hg w10 BK119 hb; have GW119 := gE hg; have GE119 := gE hg; replace HB := hB hb; clear hb hg; have hz11 := cz2 BK119) | ((with_reducible refine gC 188 ?_); refine cL (some 12) Try.func188 #[.agg #[.int .i64 ((rd_T171 l0 x7_1).f0), .int .i64 ((rd_T171 l0 x7_1).f1)]] ?_; (with_reducible refine (impl_PointOk.calls ((rd_T171 l0 x7_1).f0) ((rd_T171 l0 x7_1).f1) _ _ A5.out).mono ?_); rintro e w12 ⟨rfl, hb⟩; refine ⟨_, rfl, ?_⟩; replace BK119 := Aside0.mk (blk_below (g := gb119) (o := .cells #[.int .i64 ((rd_T171 l0 x7_1).f0), .int .i64 ((rd_T171 l0 x7_1).f1)] 171 (0, 0)) kS hb); replace HB := hB hb; (try clear hb); (try clear hb2); (try clear hk); (try clear hi)))
     go_ret
     exact ⟨eS, bS⟩
   ·obtain rfl := Option.some.inj H
    go_wp2
    go_ret
    exact ⟨eS, bS⟩

/-! ### impl_BoxOk: function 152 -/
def impl_BoxOk.f (a0_0 : Int) (a0_1 : Int) (a0_2 : Int) (a0_3 : Int) : Option (Bool) := (impl_coordOk.f a0_0).bind fun t122 => (if t122 = true then ((impl_coordOk.f a0_1).bind fun t123 => (if t123 = true then ((impl_coordOk.f a0_2).bind fun t124 => (if t124 = true then ((impl_coordOk.f a0_3).bind fun t125 => (if t125 = true then (if a0_0 ≤ a0_2 then (some (decide (a0_1 ≤ a0_3))) else (some false)) else (some false))) else (some false))) else (some false))) else (some false))
theorem impl_BoxOk.lf0 {p : Prop} (h : p := by
 go_enter Try.func152, Try.ntmps152
 go_wp2_with (first | ((with_reducible refine gD 1 ?_); refine bxE #[.int .i64 a0_0, .int .i64 a0_1, .int .i64 a0_2, .int .i64 a0_3] 43 ?_; intro gb121 hg w11 BK121 hb; have GW121 := gE hg; have GE121 := gE hg; replace HB := hB hb; clear hb hg; have hz12 := cz4 BK121) | ((with_reducible refine gC 157 ?_); refine cL (some 5) Try.func157 #[.int .i64 a0_0] ?_; (with_reducible refine (impl_coordOk.calls a0_0 _ _ A2.out).mono ?_); rintro e w' ⟨rfl, ⟨nd, rfl⟩⟩; refine ⟨_, rfl, ?_⟩) | (go_at_call 157; (with_reducible refine (impl_coordOk.calls a0_1 _ _ A4.out).mono ?_); rintro e w' ⟨rfl, ⟨nd, rfl⟩⟩) | (go_at_call 157; (with_reducible refine (impl_coordOk.calls a0_2 _ _ A6.out).mono ?_); rintro e w' ⟨rfl, ⟨nd, rfl⟩⟩) | (go_at_call 157; (with_reducible refine (impl_coordOk.calls a0_3 _ _ A8.out).mono ?_); rintro e w' ⟨rfl, ⟨nd, rfl⟩⟩))
 go_ret
 exact ⟨eS, bS⟩) : p := h
theorem impl_BoxOk.calls (a0_0 : Int) (a0_1 : Int) (a0_2 : Int) (a0_3 : Int) (r : Bool) (w : World) (h : impl_BoxOk.f a0_0 a0_1 a0_2 a0_3 = some r) :
  Calls Try.prog 152 #[.agg #[.int .i64 a0_0, .int .i64 a0_1, .int .i64 a0_2, .int .i64 a0_3]] w fun e w' => e = .returned (.bool r) ∧ Below w.heap.size w w' := by
 have hu43 := Try.underlying43
 have HB := Aside0.mk (Below.refl w.heap.size w)
 have H : ((impl_coordOk.f a0_0).bind fun t122 => (if t122 = true then ((impl_coordOk.f a0_1).bind fun t123 => (if t123 = true then ((impl_coordOk.f a0_2).bind fun t124 => (if t124 = true then ((impl_coordOk.f a0_3).bind fun t125 => (if t125 = true then (if a0_0 ≤ a0_2 then (some (decide (a0_1 ≤ a0_3))) else (some false)) else (some false))) else (some false))) else (some false))) else (some false))) = some r := h
 clear h
 replace H := bN H
 obtain ⟨t122, A2, H⟩ := H
 by_cases c3 : t122 = true
 ·subst c3
  rw [if_pos rfl] at H
  replace H := bN H
  obtain ⟨t123, A4, H⟩ := H
  by_cases c5 : t123 = true
  ·subst c5
   rw [if_pos rfl] at H
   replace H := bN H
   obtain ⟨t124, A6, H⟩ := H
   by_cases c7 : t124 = true
   ·subst c7
    rw [if_pos rfl] at H
    replace H := bN H
    obtain ⟨t125, A8, H⟩ := H
    by_cases c9 : t125 = true
    ·subst c9
     rw [if_pos rfl] at H
     rcases iD H with ⟨c10b0, H⟩ | ⟨c10b0, H⟩
     ·obtain rfl := Option.some.inj H
      exact impl_BoxOk.lf0
     ·obtain rfl := Option.some.inj H
      exact impl_BoxOk.lf0
    ·obtain rfl := Bool.eq_false_iff.mpr c9
     rw [if_neg nF] at H
     obtain rfl := Option.some.inj H
     exact impl_BoxOk.lf0
   ·obtain rfl := Bool.eq_false_iff.mpr c7
    rw [if_neg nF] at H
    obtain rfl := Option.some.inj H
    exact impl_BoxOk.lf0
  ·obtain rfl := Bool.eq_false_iff.mpr c5
   rw [if_neg nF] at H
   obtain rfl := Option.some.inj H
   exact impl_BoxOk.lf0
 ·obtain rfl := Bool.eq_false_iff.mpr c3
  rw [if_neg nF] at H
  obtain rfl := Option.some.inj H
  exact impl_BoxOk.lf0

/-! ### impl_ObjectOk: function 87 -/
def impl_ObjectOk.f (k : Nat) (l0_0 : List (S171)) (a0_1 : Int) (a0_2 : Int) (a0_3 : Int) (a0_4 : Int) (a0_5 : Int) : Option (Bool) := (impl_within.f (l0_0.length : Int) 3 8).bind fun t127 => (if t127 = true then ((impl_pointsOk.f k l0_0).bind fun t128 => (if t128 = true then ((impl_within.f a0_1 0 255).bind fun t129 => (if t129 = true then ((impl_BoxOk.f a0_2 a0_3 a0_4 a0_5).bind fun t130 => (some t130)) else (some false))) else (some false))) else (some false))
theorem impl_ObjectOk.lf0 {p : Prop} (h : p := by
 go_enter Try.func87, Try.ntmps87
 go_wp2_with (first | ((with_reducible refine gD 1 ?_); refine bxE #[.slice A0_0 l0_0.length c0_0, .int .i64 a0_1, .int .i64 a0_2, .int .i64 a0_3, .int .i64 a0_4, .int .i64 a0_5] 45 ?_; intro gb126 hg w9 BK126 hb; have GW126 := gE hg; have GE126 := gE hg; replace HB := hB hb; clear hb hg; have hz10 := cz6 BK126) | ((with_reducible refine gC 126 ?_); refine cL (some 6) Try.func126 #[.int .i64 (l0_0.length : Int), .int .i64 3, .int .i64 8] ?_; (with_reducible refine (impl_within.calls (l0_0.length : Int) 3 8 _ _ A2.out).mono ?_); rintro e w' ⟨rfl, ⟨nd, rfl⟩⟩; refine ⟨_, rfl, ?_⟩) | (go_at_call 151; (with_reducible refine (impl_pointsOk.calls k _ _ l0_0 _ _ (cS (Kd.C_below HR0_0.out bS)) HC0_0.out A4.out).mono ?_); rintro e w11 ⟨rfl, hb⟩; replace BK126 := kB (g := gb126) hb; replace HB := hB hb; (try clear hb); (try clear hb2); (try clear hk); (try clear hi); have hz12 := cz6 BK126) | (go_at_call 126; (with_reducible refine (impl_within.calls a0_1 0 255 _ _ A6.out).mono ?_); rintro e w' ⟨rfl, ⟨nd, rfl⟩⟩) | (go_at_call 152; (with_reducible refine (impl_BoxOk.calls a0_2 a0_3 a0_4 a0_5 t130 _ A8.out).mono ?_); rintro e w13 ⟨rfl, hb⟩; replace BK126 := kB (g := gb126) hb; replace HB := hB hb; (try clear hb); (try clear hb2); (try clear hk); (try clear hi)))
 go_ret
 exact ⟨eS, bS⟩) : p := h
theorem impl_ObjectOk.calls (k : Nat) (A0_0 : Option Addr) (c0_0 : Nat) (l0_0 : List (S171)) (a0_1 : Int) (a0_2 : Int) (a0_3 : Int) (a0_4 : Int) (a0_5 : Int) (r : Bool) (w : World) (hr0_0 : Kd.C k171 w A0_0 l0_0.length l0_0) (hc0_0 : l0_0.length ≤ c0_0) (h : impl_ObjectOk.f k l0_0 a0_1 a0_2 a0_3 a0_4 a0_5 = some r) :
  Calls Try.prog 87 #[.agg #[.slice A0_0 l0_0.length c0_0, .int .i64 a0_1, .int .i64 a0_2, .int .i64 a0_3, .int .i64 a0_4, .int .i64 a0_5]] w fun e w' => e = .returned (.bool r) ∧ Below w.heap.size w w' := by
 have hu45 := Try.underlying45
 have hu43 := Try.underlying43
 have HR0_0 := Aside0.mk hr0_0
 have HC0_0 := Aside0.mk hc0_0
 clear hr0_0 hc0_0
 have HB := Aside0.mk (Below.refl w.heap.size w)
 have H : ((impl_within.f (l0_0.length : Int) 3 8).bind fun t127 => (if t127 = true then ((impl_pointsOk.f k l0_0).bind fun t128 => (if t128 = true then ((impl_within.f a0_1 0 255).bind fun t129 => (if t129 = true then ((impl_BoxOk.f a0_2 a0_3 a0_4 a0_5).bind fun t130 => (some t130)) else (some false))) else (some false))) else (some false))) = some r := h
 clear h
 replace H := bN H
 obtain ⟨t127, A2, H⟩ := H
 by_cases c3 : t127 = true
 ·subst c3
  rw [if_pos rfl] at H
  replace H := bN H
  obtain ⟨t128, A4, H⟩ := H
  by_cases c5 : t128 = true
  ·subst c5
   rw [if_pos rfl] at H
   replace H := bN H
   obtain ⟨t129, A6, H⟩ := H
   by_cases c7 : t129 = true
   ·subst c7
    rw [if_pos rfl] at H
    replace H := bN H
    obtain ⟨t130, A8, H⟩ := H
    obtain rfl := Option.some.inj H
    exact impl_ObjectOk.lf0
   ·obtain rfl := Bool.eq_false_iff.mpr c7
    rw [if_neg nF] at H
    obtain rfl := Option.some.inj H
    exact impl_ObjectOk.lf0
  ·obtain rfl := Bool.eq_false_iff.mpr c5
   rw [if_neg nF] at H
   obtain rfl := Option.some.inj H
   go_enter Try.func87, Try.ntmps87
   go_wp2_with (first | ((with_reducible refine gD 1 ?_); refine bxE #[.slice A0_0 l0_0.length c0_0, .int .i64 a0_1, .int .i64 a0_2, .int .i64 a0_3, .int .i64 a0_4, .int .i64 a0_5] 45 ?_; intro gb126 hg w18 BK126 hb; have GW126 := gE hg; have GE126 := gE hg; replace HB := hB hb; clear hb hg; have hz19 := cz6 BK126) | ((with_reducible refine gC 126 ?_); refine cL (some 6) Try.func126 #[.int .i64 (l0_0.length : Int), .int .i64 3, .int .i64 8] ?_; (with_reducible refine (impl_within.calls (l0_0.length : Int) 3 8 _ _ A2.out).mono ?_); rintro e w' ⟨rfl, ⟨nd, rfl⟩⟩; refine ⟨_, rfl, ?_⟩) | (go_at_call 151; (with_reducible refine (impl_pointsOk.calls k _ _ l0_0 _ _ (cS (Kd.C_below HR0_0.out bS)) HC0_0.out A4.out).mono ?_); rintro e w20 ⟨rfl, hb⟩; replace BK126 := kB (g := gb126) hb; replace HB := hB hb; (try clear hb); (try clear hb2); (try clear hk); (try clear hi)))
   go_ret
   exact ⟨eS, bS⟩
 ·obtain rfl := Bool.eq_false_iff.mpr c3
  rw [if_neg nF] at H
  obtain rfl := Option.some.inj H
  exact impl_ObjectOk.lf0

/-! ### impl_pageBox: function 111 -/
def impl_pageBox.f  : Option (Int × Int × Int × Int) := some (0, 0, 32, 32)
theorem impl_pageBox.calls  (r1 : Int) (r2 : Int) (r3 : Int) (r4 : Int) (w : World) (h : impl_pageBox.f  = some (r1, r2, r3, r4)) :
  Calls Try.prog 111 #[] w fun e w' => e = .returned (.agg #[.int .i64 r1, .int .i64 r2, .int .i64 r3, .int .i64 r4]) ∧ Below w.heap.size w w' := by
 have hu43 := Try.underlying43
 have HB := Aside0.mk (Below.refl w.heap.size w)
 have H : (some (0, 0, 32, 32)) = some (r1, r2, r3, r4) := h
 clear h
 obtain ⟨rfl, rfl, rfl, rfl⟩ := sI4 H
 go_enter Try.func111, Try.ntmps111
 go_wp2_with (first | ((with_reducible refine gD 0 ?_); refine bxE #[.int .i64 0, .int .i64 0, .int .i64 0, .int .i64 0] 43 ?_; intro gb131 hg w1 BK131 hb; have GW131 := gE hg; have GE131 := gE hg; replace HB := hB hb; clear hb hg; have hz2 := cz4 BK131))
 refine bodyPost_ret (results_cell_row rfl _ _ gb131 43 #[.int .i64 0, .int .i64 0, .int .i64 32, .int .i64 32] (0, 0) _ rfl kS Try.underlying43 rfl (by kernel_rfl)) rfl ?_
 exact ⟨eS, bS⟩

end Go.Proofs.Ytigodjcnkgebaaa.QFnExactRenderBands
