-- Made out of the translation by a program of this session (a changed copy of the print). Not trusted: Lean checks it.
import Derived.Test.YtimpejidlnjhlaaQFnTouchesx0
import Derived.Test.YtimpejidlnjhlaaQFnTouchesx2
import Derived.Test.YtimpejidlnjhlaaQFnTouchesx4
namespace Go.Proofs.Ytimpejidlnjhlaa.QFnTouches
open Go.RowKit Go.Proofs.YtimpejidlnjhlaaW.PrintWords Go.Proofs.YtimpejidlnjhlaaW.PrintLast Go.Proofs.YtimpejidlnjhlaaW.PrintMore
attribute [local go_sem] max2_int min2_int max_two min_two max_three min_three max_four min_four   -- for this text's walks alone
set_option linter.unusedVariables false
set_option linter.unusedSimpArgs false
set_option maxHeartbeats 8000000
set_option maxRecDepth 100000

/-! ### slices_Repeat_int_int: function 116 -/
def slices_Repeat_int_int.f (l0 : List Int) (a1 : Int) : Option (List Int) := if l0 = [255] ∧ a1 = 32 then some (List.replicate 32 255) else none
def repC (n : Nat) : List Value := List.replicate n (Value.int .i64 255) ++ List.replicate (32 - n) (Value.int .i64 0)
theorem src_ {W : World} {g n : Nat} (h : W.heap[g]? = some (.cells (repC n).toArray 3 (0, 0))) (m : Nat) (hm : m ≤ n) : ∀ (j : Nat) (v : Value), (List.replicate m (Value.int .i64 255))[j]? = some v → W.cell? ((⟨g, 0, none⟩ : Addr).add j) = some v := by
 intro j v hj
 rw [add_plain, blk_cell h]
 obtain ⟨hl, rfl⟩ := List.getElem?_eq_some_iff.1 hj
 rw [List.length_replicate] at hl
 rw [List.getElem?_toArray, repC, List.getElem?_append_left (by rw [List.length_replicate]; omega), List.getElem?_replicate, if_pos (by omega), List.getElem_replicate]
theorem slices_Repeat_int_int.calls (A0 : Option Addr) (c0 : Nat) (l0 : List Int) (a1 : Int) (r : List Int) (w : World) (hr0 : Kd.C (Kd.int .i64) w A0 l0.length l0) (hc0 : l0.length ≤ c0) (h : slices_Repeat_int_int.f l0 a1 = some r) :
  Calls Try.prog 116 #[.slice A0 l0.length c0, .int .i64 a1] w fun e w' => ∃ v0_ : Value, e = .returned (v0_) ∧ Kd.R (Kd.int .i64) 3 w' w.heap.size (fun _ => True) v0_ r ∧ Below w.heap.size w w' := by
 unfold slices_Repeat_int_int.f at h
 split at h
 case isFalse => simp at h
 rename_i hc
 obtain ⟨rfl, rfl⟩ := hc
 injection h with h
 subst h
 obtain ⟨ad, rfl, hx⟩ := Kd.at_int hr0 0 (by decide) (by decide)
 have hmul : bits_Mul.f 1 32 = some (0, 32) := by decide
 have hcap : 1 ≤ c0 := hc0
 have hmk : ∀ W : World, (Instr.makeSlice 22 (.int .i64 32) (.int .i64 32)).run Try.prog W = .ok (.slice (some ⟨W.heap.size, 0, none⟩) 32 32) (W.alloc (.cells (madeCells #[.int .i64 0] 32) 3)) := print_make (P := Try.prog) 22 3 .i64 8 Try.underlying22 info3 (by decide) 32 (by decide)
 have hsrc : ∀ nd (j : Nat) (v : Value), [Value.int .i64 255][j]? = some v → ((w.drewN nd).alloc (.cells (madeCells #[.int .i64 0] 32) 3)).cell? (ad.add j) = some v := by
  intro nd j v hj
  match j, hj with
  | 0, hj =>
   injection hj with hj
   subst hj
   exact ((below_alloc (pw_below_drewN (Below.refl _ _) nd) _).cell (World.block_lt_of_cell? w _ hx)).trans hx
  | j + 1, hj => simp at hj
 have hrow : ∀ nd, ((w.drewN nd).alloc (.cells (madeCells #[.int .i64 0] 32) 3)).heap[w.heap.size]? = some (.cells (repC 0).toArray 3 (0, 0)) := by
  intro nd
  have h := blk_new (w.drewN nd) (.cells (madeCells #[.int .i64 0] 32) 3)
  have e : madeCells #[Value.int .i64 0] 32 = (repC 0).toArray := by
   have hl : (madeCells #[Value.int .i64 0] 32).toList = List.replicate 32 (Value.int .i64 0) := by
    apply List.ext_getElem
    ·simp [madeCells]
    ·intro i h1 h2
     rw [List.getElem_replicate]
     simp [madeCells, Nat.mod_one]
   exact Array.toList_inj.1 hl
  rw [e] at h ⊢
  exact h
 go_enter Try.func116, Try.ntmps116
 go_wp2_with (first | (go_at_call 160; (with_reducible refine (bits_Mul.calls 1 32 0 32 _ hmul).mono ?_); rintro e w' ⟨rfl, ⟨nd, rfl⟩⟩) | ((with_reducible refine gate_dst (N := 33) rfl ?_); refine wpList_copy_splice rfl (.tmp 31) (.tmp 32) 22 22 rfl 3 Try.underlying22 (by rfl) (some ⟨w.heap.size, 0, none⟩) (some ad) 32 32 1 c0 rfl rfl w.heap.size 0 (repC 0) 3 (hrow nd) [.int .i64 255] (by rfl) (fun _ => ⟨rfl, ad, rfl, hsrc nd⟩) (by decide) (by simp [Value.oneCell']) w.heap.size w (below_alloc (pw_below_drewN (Below.refl _ _) nd) _) (Nat.le_refl _) ?_; intro w2 HG2 hB2))
 have HG := Aside0.mk HG2.out
 have HB := Aside0.mk hB2
 clear HG2 hB2
 clear hsrc hrow hmk hmul
 have hg := Aside0.mk (Nat.le_refl w.heap.size)
 generalize hg0 : w.heap.size = g0 at HG hg
 have hg1 := Aside0.mk hg0
 clear hg0
 go_loopg [8] 32 (fun kq v8 w' => ∃ (m : Nat) (n : Int), v8 = .int .i64 n ∧ Aside0 (m = 1 ∧ n = 1 ∧ 6 ≤ kq ∨ m = 2 ∧ n = 2 ∧ 5 ≤ kq ∨ m = 4 ∧ n = 4 ∧ 4 ≤ kq ∨ m = 8 ∧ n = 8 ∧ 3 ≤ kq ∨ m = 16 ∧ n = 16 ∧ 2 ≤ kq ∨ m = 32 ∧ n = 32 ∧ 1 ≤ kq) ∧ Aside0 (w'.heap[g0]? = some (.cells (repC m).toArray 3 (0, 0))) ∧ Aside0 (Below w.heap.size w w'))
 case atStart => exact ⟨1, 1, rfl, ⟨by decide⟩, HG, HB⟩
 case round =>
  clear HG HB
  obtain ⟨m, n, rfl, hn, HG, HB⟩ := hrel
  rcases hn.out with ⟨rfl, rfl, n1⟩ | ⟨rfl, rfl, n1⟩ | ⟨rfl, rfl, n1⟩ | ⟨rfl, rfl, n1⟩ | ⟨rfl, rfl, n1⟩ | ⟨rfl, rfl, n1⟩
  ·clear hn
   obtain ⟨k1, rfl⟩ : ∃ k1, gk = k1 + 1 := ⟨gk - 1, by omega⟩
   have N1 := Aside0.mk n1
   clear n1
   have S := Aside0.mk (src_ HG.out 1 (by decide))
   go_wp2
   go_region_law (refine step_copy_splice rfl (.tmp 41) (.tmp 44) 22 22 rfl 3 Try.underlying22 (by rfl) (some ⟨g0, 1, none⟩) (some ⟨g0, 0, none⟩) 31 31 1 32 (by simp [Act.eval, Act.put]) (by simp [Act.eval, Act.put]) g0 1 (repC 1) 3 HG.out (List.replicate 1 (Value.int .i64 255)) (by rfl) (fun _ => ⟨rfl, _, rfl, S.out⟩) (by decide) (by simp [Value.oneCell']) w.heap.size w (below_drew1 HB.out) (by rw [hg1.out]; exact Nat.le_refl _) ?_; intro w4 hg4 hb4; clear HB HG S; have HG := Aside0.mk hg4.out; have HB := Aside0.mk hb4; clear hg4 hb4)
   go_wp2
   go_roundg k1
   case measure => have := N1.out; omega
   case rel => exact ⟨2, 2, (by first | rfl | (simp [goInt]; done)), ⟨by have := N1.out; omega⟩, HG, HB⟩
  ·clear hn
   obtain ⟨k1, rfl⟩ : ∃ k1, gk = k1 + 1 := ⟨gk - 1, by omega⟩
   have N1 := Aside0.mk n1
   clear n1
   have S := Aside0.mk (src_ HG.out 2 (by decide))
   go_wp2
   go_region_law (refine step_copy_splice rfl (.tmp 41) (.tmp 44) 22 22 rfl 3 Try.underlying22 (by rfl) (some ⟨g0, 2, none⟩) (some ⟨g0, 0, none⟩) 30 30 2 32 (by simp [Act.eval, Act.put]) (by simp [Act.eval, Act.put]) g0 2 (repC 2) 3 HG.out (List.replicate 2 (Value.int .i64 255)) (by rfl) (fun _ => ⟨rfl, _, rfl, S.out⟩) (by decide) (by simp [Value.oneCell']) w.heap.size w (below_drew1 HB.out) (by rw [hg1.out]; exact Nat.le_refl _) ?_; intro w4 hg4 hb4; clear HB HG S; have HG := Aside0.mk hg4.out; have HB := Aside0.mk hb4; clear hg4 hb4)
   go_wp2
   go_roundg k1
   case measure => have := N1.out; omega
   case rel => exact ⟨4, 4, (by first | rfl | (simp [goInt]; done)), ⟨by have := N1.out; omega⟩, HG, HB⟩
  ·clear hn
   obtain ⟨k1, rfl⟩ : ∃ k1, gk = k1 + 1 := ⟨gk - 1, by omega⟩
   have N1 := Aside0.mk n1
   clear n1
   have S := Aside0.mk (src_ HG.out 4 (by decide))
   go_wp2
   go_region_law (refine step_copy_splice rfl (.tmp 41) (.tmp 44) 22 22 rfl 3 Try.underlying22 (by rfl) (some ⟨g0, 4, none⟩) (some ⟨g0, 0, none⟩) 28 28 4 32 (by simp [Act.eval, Act.put]) (by simp [Act.eval, Act.put]) g0 4 (repC 4) 3 HG.out (List.replicate 4 (Value.int .i64 255)) (by rfl) (fun _ => ⟨rfl, _, rfl, S.out⟩) (by decide) (by simp [Value.oneCell']) w.heap.size w (below_drew1 HB.out) (by rw [hg1.out]; exact Nat.le_refl _) ?_; intro w4 hg4 hb4; clear HB HG S; have HG := Aside0.mk hg4.out; have HB := Aside0.mk hb4; clear hg4 hb4)
   go_wp2
   go_roundg k1
   case measure => have := N1.out; omega
   case rel => exact ⟨8, 8, (by first | rfl | (simp [goInt]; done)), ⟨by have := N1.out; omega⟩, HG, HB⟩
  ·clear hn
   obtain ⟨k1, rfl⟩ : ∃ k1, gk = k1 + 1 := ⟨gk - 1, by omega⟩
   have N1 := Aside0.mk n1
   clear n1
   have S := Aside0.mk (src_ HG.out 8 (by decide))
   go_wp2
   go_region_law (refine step_copy_splice rfl (.tmp 41) (.tmp 44) 22 22 rfl 3 Try.underlying22 (by rfl) (some ⟨g0, 8, none⟩) (some ⟨g0, 0, none⟩) 24 24 8 32 (by simp [Act.eval, Act.put]) (by simp [Act.eval, Act.put]) g0 8 (repC 8) 3 HG.out (List.replicate 8 (Value.int .i64 255)) (by rfl) (fun _ => ⟨rfl, _, rfl, S.out⟩) (by decide) (by simp [Value.oneCell']) w.heap.size w (below_drew1 HB.out) (by rw [hg1.out]; exact Nat.le_refl _) ?_; intro w4 hg4 hb4; clear HB HG S; have HG := Aside0.mk hg4.out; have HB := Aside0.mk hb4; clear hg4 hb4)
   go_wp2
   go_roundg k1
   case measure => have := N1.out; omega
   case rel => exact ⟨16, 16, (by first | rfl | (simp [goInt]; done)), ⟨by have := N1.out; omega⟩, HG, HB⟩
  ·clear hn
   obtain ⟨k1, rfl⟩ : ∃ k1, gk = k1 + 1 := ⟨gk - 1, by omega⟩
   have N1 := Aside0.mk n1
   clear n1
   have S := Aside0.mk (src_ HG.out 16 (by decide))
   go_wp2
   go_region_law (refine step_copy_splice rfl (.tmp 41) (.tmp 44) 22 22 rfl 3 Try.underlying22 (by rfl) (some ⟨g0, 16, none⟩) (some ⟨g0, 0, none⟩) 16 16 16 32 (by simp [Act.eval, Act.put]) (by simp [Act.eval, Act.put]) g0 16 (repC 16) 3 HG.out (List.replicate 16 (Value.int .i64 255)) (by rfl) (fun _ => ⟨rfl, _, rfl, S.out⟩) (by decide) (by simp [Value.oneCell']) w.heap.size w (below_drew1 HB.out) (by rw [hg1.out]; exact Nat.le_refl _) ?_; intro w4 hg4 hb4; clear HB HG S; have HG := Aside0.mk hg4.out; have HB := Aside0.mk hb4; clear hg4 hb4)
   go_wp2
   go_roundg k1
   case measure => have := N1.out; omega
   case rel => exact ⟨32, 32, (by first | rfl | (simp [goInt]; done)), ⟨by have := N1.out; omega⟩, HG, HB⟩
  ·clear hn
   go_wp2
   go_ret
   exact ⟨_, rfl, Kd.R_of_own ⟨by decide, .inr ⟨g0, 32, (repC 32).toArray, rfl, Nat.le_of_eq hg1.out, HG.out, Nat.le_refl _, by decide, by rfl, by rfl⟩⟩ (fun _ _ => trivial), HB.out⟩


/-! ### impl_WhiteRows: function 53 -/
def impl_WhiteRows.l0 : Nat → Int → List (List Int) → Option ((List (List Int)))
 | 0, _, _ => none
 | k + 1, x0, x3 => if x0 > 0 then ((slices_Repeat_int_int.f (([255] : List Int)) 32).bind fun t327 => (if x3.length < 5864062014805 then (impl_WhiteRows.l0 k (wrap64 (x0 - 1)) (x3 ++ [t327])) else (none))) else (some x3)
def impl_WhiteRows.f (k : Nat) (a0 : Int) : Option ((List (List Int))) := (impl_within.f a0 0 32).bind fun t323 => (if t323 = true then (impl_WhiteRows.l0 k a0 ([] : List (List Int))) else (some ([] : List (List Int))))
theorem impl_WhiteRows.calls (k : Nat) (a0 : Int) (r : List (List Int)) (w : World) (h : impl_WhiteRows.f k a0 = some r) :
  Calls Try.prog 53 #[.int .i64 a0] w fun e w' => ∃ v0_ : Value, e = .returned (v0_) ∧ Kd.S (Kd.slice 3 (Kd.int .i64)) 22 w' w.heap.size (fun _ => True) v0_ r ∧ Below w.heap.size w w' := by
 have HB := Aside0.mk (Below.refl w.heap.size w)
 have H : ((impl_within.f a0 0 32).bind fun t323 => (if t323 = true then (impl_WhiteRows.l0 k a0 ([] : List (List Int))) else (some ([] : List (List Int))))) = some r := h
 clear h
 replace H := bN H
 obtain ⟨t323, A2, H⟩ := H
 by_cases c3 : t323 = true
 ·subst c3
  rw [if_pos rfl] at H
  have H' := Aside0.mk H
  clear H
  go_enter Try.func53, Try.ntmps53
  go_wp2_with (first | ((with_reducible refine gC 101 ?_); refine cL (some 5) Try.func101 #[.int .i64 a0, .int .i64 0, .int .i64 32] ?_; (with_reducible refine (impl_within.calls a0 0 32 _ _ A2.out).mono ?_); rintro e w' ⟨rfl, ⟨nd, rfl⟩⟩; refine ⟨_, rfl, ?_⟩))
  go_loopg [0, 3] k (fun kq v0 v3 w' => ∃ (x0_1 : Int) (x3_1 : List (List Int)), v0 = .int .i64 x0_1 ∧ Aside0 (impl_WhiteRows.l0 kq x0_1 x3_1 = some r) ∧ Aside0 (kq ≤ k) ∧ Aside0 (Kd.S (Kd.slice 3 (Kd.int .i64)) 22 w' w.heap.size (fun _ => True) v3 x3_1) ∧ Aside0 (Below w.heap.size w w'))
  case atStart => exact ⟨(a0), (([] : List (List Int))), fS, H', ⟨Nat.le_refl _⟩, ⟨by first | exact Kd.S_nil _ _ _ _ _ | exact Kd.N_nil _ _ _ _ _ | exact Kd.V_nil _ _ _ _ _ | exact Kd.Q_nil _ _ _ _ _ | exact Kd.R_nil _ _ _ _ _⟩, ⟨bS⟩⟩
  case round =>
   clear H'
   try clear c1
   try clear p2
   try clear c3
   obtain ⟨x0_1, x3_1, rfl, HA, HK1, HO_3, HB⟩ := hrel
   cases gk with
   | zero => exact absurd HA.out (by simp [impl_WhiteRows.l0])
   | succ k1 =>
    have H := HA.out
    clear HA
    simp only [impl_WhiteRows.l0] at H
    by_cases c4 : x0_1 > 0
    ·rw [if_pos c4] at H
     have c4b0 : decide (0 < x0_1) = true := decide_eq_true c4
     clear c4
     obtain ⟨y324, hy324⟩ : ∃ y_ : List Int, y_ = (([255] : List Int)) := ⟨_, rfl⟩
     replace H : ((slices_Repeat_int_int.f y324 32).bind fun t327 => (if x3_1.length < 5864062014805 then (impl_WhiteRows.l0 k1 (wrap64 (x0_1 - 1)) (x3_1 ++ [t327])) else (none))) = some r := by first | (rw [hy324]; with_reducible exact H) | (have H2_ := (Option.bind_some _ _).symm.trans H; rw [hy324]; with_reducible exact H2_) | (have H2_ := (Option.bind_some _ _).symm.trans H; with_reducible exact H2_) | with_reducible exact H | (rw [hy324]; exact H) | exact H
     have Ny324 := Aside0.mk hy324
     clear hy324
     replace H := bN H
     obtain ⟨t327, A5, H⟩ := H
     obtain ⟨LMc6, H⟩ := iL H
     obtain ⟨y330, hy330⟩ : ∃ y_ : List (List Int), y_ = (x3_1 ++ [t327]) := ⟨_, rfl⟩
     replace H : (impl_WhiteRows.l0 k1 (wrap64 (x0_1 - 1)) y330) = some r := by first | (rw [hy330]; with_reducible exact H) | (have H2_ := (Option.bind_some _ _).symm.trans H; rw [hy330]; with_reducible exact H2_) | (have H2_ := (Option.bind_some _ _).symm.trans H; with_reducible exact H2_) | with_reducible exact H | (rw [hy330]; exact H) | exact H
     have Ny330 := Aside0.mk hy330
     clear hy330
     have H' := Aside0.mk H
     clear H
     go_wp2_with (first | ((with_reducible refine gate_dst (N := 12) rfl ?_); refine Kd.R_lit (Kd.int .i64) _ 3 ?hg (N := 12) ?hd (xs := ([255] : List Int)) (inner := [.int .i64 255]) (ok := fun _ => True) (okp := fun _ => True) ?hr ?hp (fun _ hk => hk) trivial (Below.refl _ _) (Nat.le_refl _) (by simp) ?_; (case hd => rfl); (case hg => rfl); (case hr => first | (go_simp; done) | (go_simp; rfl)); (case hp => exact (Reps.one (show Kd.M (Kd.int .i64) _ _ _ 255 [.int .i64 255] from rfl) (Reps.none _ _))); intro v325 w7 ho8 hb hg_ hnew_; clear hg_ hnew_; (first | rw [← Ny324.out] at ho8 | (simp only [Int.reduceToNat] at ho8; rw [← Ny324.out] at ho8)); have HO326 := Aside0.mk (Kd.R_lower ho8 (below_size bS)); replace HO_3 := Aside0.mk (Kd.S_elder' (sS HO_3) (Kd.R_base ho8) hb); replace HB := hB hb; clear hb ho8; obtain ⟨Ao9, co9, eo9⟩ := Kd.R_slice HO326.out; subst eo9) | ((with_reducible refine gC 116 ?_); refine cL (some 13) Try.func116 #[.slice Ao9 y324.length co9, .int .i64 32] ?_; (with_reducible refine (slices_Repeat_int_int.calls _ _ y324 32 t327 _ (cS (Kd.R_reads' HO326.out).2.2) ((Kd.R_reads' HO326.out).2.1) A5.out).mono ?_); rintro e w10 ⟨v328, rfl, ho0, hb⟩; refine ⟨_, rfl, ?_⟩; have HO329 := Aside0.mk (Kd.R_lower (Kd.R_new' ho0 (Kd.R_lt (rS HO326))) (below_size bS)); replace HO_3 := Aside0.mk (Kd.S_elder' (sS HO_3) (Kd.R_base ho0) hb); replace HO326 := Aside0.mk (Kd.R_elder' (rS HO326) (Kd.R_base ho0) hb); replace HB := hB hb; (try clear hb); (try clear hb2); (try clear hk); (try clear hi); (try clear ho0); obtain ⟨Ao12, co12, eo12⟩ := Kd.R_slice HO329.out; subst eo12) | ((with_reducible refine gate_builtin (b := .append) (xs := #[.tmp 11, .tmp 14]) rfl ?_); at_builtin; refine Kd.S_append (Kd.slice 3 (Kd.int .i64)) (w0 := w) w.heap.size rfl (.tmp 11) (.tmp 14) 56 22 (.slice none 0 0) 24 rfl Try.underlying56 info22 rfl (by decide) (by omega) u3 x3_1 t327 [.slice Ao12 t327.length co12] (fun k_ => some k_ ≠ (.slice Ao9 y324.length co9 : Value).ownBlock) (fun k_ => some k_ = (.slice Ao12 t327.length co12 : Value).ownBlock) rfl rfl ?aP (fun k_ hk_ => ((Kd.R_mono (ok' := fun k_ => ((fun k_ => some k_ ≠ (.slice Ao9 y324.length co9 : Value).ownBlock)) k_ ∧ some k_ ≠ (u3 : Value).ownBlock) (Kd.R_apart' (HO329.out) (Kd.S_typed HO_3.out) (by decide)) (fun k_ hk => ⟨hk.1.2, hk.2⟩))).1 k_ hk_.symm) ?aF ?aO ?aB ?aS ?aL ?_; (case aP => exact Kd.M_row (Kd.R_mono (Kd.R_tight rfl (Kd.R_mono (ok' := fun k_ => ((fun k_ => some k_ ≠ (.slice Ao9 y324.length co9 : Value).ownBlock)) k_ ∧ some k_ ≠ (u3 : Value).ownBlock) (Kd.R_apart' (HO329.out) (Kd.S_typed HO_3.out) (by decide)) (fun k_ hk => ⟨hk.1.2, hk.2⟩))) (fun _ h_ => h_))); (case aB => exact bS); (case aF => exact (fun k_ hk => Kd.fresh' (Kd.R_lt (rS HO326)) k_ hk)); (case aO => exact (by exact sT (Kd.S_mono HO_3.out (fun k_ hk => ⟨hk.1.2, fun e_ => hk.2 e_⟩)))); (case aS => exact (below_size bS)); (case aL => have := LMc6.out; omega); intro v331 w11 ho hb hg hat; rw [← Ny330.out] at ho; have HO332 := Aside0.mk (ho); replace HO326 := Aside0.mk (Kd.R_over' (rS HO326) (Kd.S_typed (sS HO_3)) (by decide) hg); replace HB := Aside0.mk (hb); clear HO_3 HO329; clear ho hb hg hat))
     go_roundg k1
     case measure => have := HK1.out; omega
     case rel => exact ⟨(wrap64 (x0_1 - 1)), (y330), fS, H', ⟨by have := HK1.out; omega⟩, ⟨by exact sT (Kd.S_mono HO332.out (fun _ hk => trivial))⟩, ⟨bS⟩⟩
    ·rw [if_neg c4] at H
     have c4b0 : decide (0 < x0_1) = false := decide_eq_false c4
     clear c4
     obtain rfl := Option.some.inj H
     go_wp2
     go_ret
     exact ⟨_, eS, sS HO_3, bS⟩
 ·obtain rfl := Bool.eq_false_iff.mpr c3
  rw [if_neg nF] at H
  obtain rfl := Option.some.inj H
  go_enter Try.func53, Try.ntmps53
  go_wp2_with (first | ((with_reducible refine gC 101 ?_); refine cL (some 5) Try.func101 #[.int .i64 a0, .int .i64 0, .int .i64 32] ?_; (with_reducible refine (impl_within.calls a0 0 32 _ _ A2.out).mono ?_); rintro e w' ⟨rfl, ⟨nd, rfl⟩⟩; refine ⟨_, rfl, ?_⟩))
  go_ret
  exact ⟨_, eS, by first | exact Kd.S_nil _ _ _ _ _ | exact Kd.N_nil _ _ _ _ _ | exact Kd.V_nil _ _ _ _ _ | exact Kd.Q_nil _ _ _ _ _ | exact Kd.R_nil _ _ _ _ _, bS⟩

/-! ### impl_SpansOk: function 149 -/
def impl_SpansOk.l0 : Nat → List (S140) → List (S140) → Int → Int → Option (Bool)
 | 0, _, _, _, _ => none
 | k + 1, x0, x8, x9, x10 => if x10 < x9 then (if 0 ≤ x10 then (if x10 < (x8.length : Int) then (if ((rd_T140 x8 x10).f0) ≥ ((rd_T140 x8 x10).f1) then (some false) else (if x10 > 0 then (if 0 ≤ (wrap64 (x10 - 1)) then (if (wrap64 (x10 - 1)) < (x0.length : Int) then (if ((rd_T140 x0 (wrap64 (x10 - 1))).f1) ≥ ((rd_T140 x8 x10).f0) then (some false) else (impl_SpansOk.l0 k x0 x8 x9 (wrap64 (x10 + 1)))) else (none)) else (none)) else (impl_SpansOk.l0 k x0 x8 x9 (wrap64 (x10 + 1))))) else (none)) else (none)) else (some true)
def impl_SpansOk.f (k : Nat) (l0 : List (S140)) : Option (Bool) := if (l0.length : Int) > 8 then (some false) else (impl_SpansOk.l0 k l0 l0 (l0.length : Int) 0)
theorem impl_SpansOk.calls (k : Nat) (A0 : Option Addr) (c0 : Nat) (l0 : List (S140)) (r : Bool) (w : World) (hr0 : Kd.C k140 w A0 l0.length l0) (hc0 : l0.length ≤ c0) (h : impl_SpansOk.f k l0 = some r) :
  Calls Try.prog 149 #[.slice A0 l0.length c0] w fun e w' => e = .returned (.bool r) ∧ Below w.heap.size w w' := by
 have hu140 := Try.underlying140
 have HR0 := Aside0.mk hr0
 have HC0 := Aside0.mk hc0
 clear hr0 hc0
 have HB := Aside0.mk (Below.refl w.heap.size w)
 have H : (if (l0.length : Int) > 8 then (some false) else (impl_SpansOk.l0 k l0 l0 (l0.length : Int) 0)) = some r := h
 clear h
 by_cases c2 : (l0.length : Int) > 8
 ·rw [if_pos c2] at H
  have c2b0 : decide (8 < (l0.length : Int)) = true := decide_eq_true c2
  have c2b1 : decide (8 < l0.length) = true := decide_eq_true (by omega)
  clear c2
  obtain rfl := Option.some.inj H
  go_enter Try.func149, Try.ntmps149
  go_wp2
  repeat (go_quiet (fail); try go_wp2)
  go_ret
  exact ⟨eS, bS⟩
 ·rw [if_neg c2] at H
  have c2b0 : decide (8 < (l0.length : Int)) = false := decide_eq_false c2
  have c2b1 : decide (8 < l0.length) = false := decide_eq_false (by omega)
  clear c2
  have H' := Aside0.mk H
  clear H
  go_enter Try.func149, Try.ntmps149
  go_wp2
  repeat (go_quiet (fail); try go_wp2)
  go_loopg [10] k (fun kq v10 w' => ∃ (x10_1 : Int), v10 = .int .i64 x10_1 ∧ Aside0 (impl_SpansOk.l0 kq l0 l0 (l0.length : Int) x10_1 = some r) ∧ Aside0 (kq ≤ k) ∧ Aside0 (Below w.heap.size w w'))
  case atStart => exact ⟨(0), fS, H', ⟨Nat.le_refl _⟩, ⟨bS⟩⟩
  case round =>
   clear H'
   try clear c1
   try clear c2
   try clear c2b0
   try clear c2b1
   try clear p2
   obtain ⟨x10_1, rfl, HA, HK1, HB⟩ := hrel
   cases gk with
   | zero => exact absurd HA.out (by simp [impl_SpansOk.l0])
   | succ k1 =>
    have H := HA.out
    clear HA
    simp only [impl_SpansOk.l0] at H
    rcases iD H with ⟨c3b0, H⟩ | ⟨c3b0, H⟩
    ·obtain ⟨c4b0, H⟩ := iT H
     obtain ⟨c5b0, H⟩ := iT H
     by_cases c6 : ((rd_T140 l0 x10_1).f0) ≥ ((rd_T140 l0 x10_1).f1)
     ·rw [if_pos c6] at H
      have c6b0 : decide (((rd_T140 l0 x10_1).f1) ≤ ((rd_T140 l0 x10_1).f0)) = true := decide_eq_true c6
      clear c6
      obtain rfl := Option.some.inj H
      have p333 : 0 ≤ (x10_1 : Int) := dA
      have q333 : x10_1 < (l0.length : Int) := dA
      obtain ⟨ad333, e333, hx333_0, hx333_1⟩ := at_T140 HR0.out x10_1 p333 q333
      cases e333
      replace hx333_0 := cB HB hx333_0
      replace hx333_1 := cB HB hx333_1
      replace p333 := eq_true p333
      replace q333 := eq_true q333
      go_wp2_with (first | ((with_reducible refine gD 4 ?_); refine bxE #[.int .i64 0, .int .i64 0] 140 ?_; intro gb334 hg w7 BK334 hb; have GW334 := gE hg; have GE334 := gE hg; replace HB := hB hb; clear hb hg; have hz8 := cz2 BK334))
      repeat (go_quiet (first | ((with_reducible refine gD 4 ?_); refine bxE #[.int .i64 0, .int .i64 0] 140 ?_; intro gb334 hg w7 BK334 hb; have GW334 := gE hg; have GE334 := gE hg; replace HB := hB hb; clear hb hg; have hz8 := cz2 BK334)); try go_wp2_with (first | ((with_reducible refine gD 4 ?_); refine bxE #[.int .i64 0, .int .i64 0] 140 ?_; intro gb334 hg w7 BK334 hb; have GW334 := gE hg; have GE334 := gE hg; replace HB := hB hb; clear hb hg; have hz8 := cz2 BK334)))
      go_ret
      exact ⟨eS, bS⟩
     ·rw [if_neg c6] at H
      have c6b0 : decide (((rd_T140 l0 x10_1).f1) ≤ ((rd_T140 l0 x10_1).f0)) = false := decide_eq_false c6
      clear c6
      by_cases c9 : x10_1 > 0
      ·rw [if_pos c9] at H
       have c9b0 : decide (0 < x10_1) = true := decide_eq_true c9
       clear c9
       obtain ⟨ji10, hji10⟩ : ∃ j_ : Int, (wrap64 (x10_1 - 1)) = j_ := ⟨_, rfl⟩
       replace H : (if 0 ≤ (ji10) then (if (ji10) < (l0.length : Int) then (if ((rd_T140 l0 (ji10)).f1) ≥ ((rd_T140 l0 x10_1).f0) then (some false) else (impl_SpansOk.l0 k1 l0 l0 (l0.length : Int) (wrap64 (x10_1 + 1)))) else (none)) else (none)) = some r := by first | (rw [hji10] at H; exact H) | (simp only [hji10] at H ⊢; exact H)
       have hji10w : (IntKind.i64.wrap (x10_1 - 1)) = ji10 := (i64_w _).trans hji10
       obtain ⟨c11b0, H⟩ := iT H
       obtain ⟨c12b0, H⟩ := iT H
       by_cases c13 : ((rd_T140 l0 (ji10)).f1) ≥ ((rd_T140 l0 x10_1).f0)
       ·rw [if_pos c13] at H
        have c13b0 : decide (((rd_T140 l0 x10_1).f0) ≤ ((rd_T140 l0 (ji10)).f1)) = true := decide_eq_true c13
        clear c13
        obtain rfl := Option.some.inj H
        have p333 : 0 ≤ (x10_1 : Int) := dA
        have q333 : x10_1 < (l0.length : Int) := dA
        obtain ⟨ad333, e333, hx333_0, hx333_1⟩ := at_T140 HR0.out x10_1 p333 q333
        cases e333
        replace hx333_0 := cB HB hx333_0
        replace hx333_1 := cB HB hx333_1
        replace p333 := eq_true p333
        replace q333 := eq_true q333
        go_wp2_with (first | ((with_reducible refine gD 4 ?_); refine bxE #[.int .i64 0, .int .i64 0] 140 ?_; intro gb334 hg w14 BK334 hb; have GW334 := gE hg; have GE334 := gE hg; replace HB := hB hb; clear hb hg; have hz15 := cz2 BK334; have p335 : 0 ≤ ((ji10) : Int) := dA; have q335 : (ji10) < (l0.length : Int) := dA; obtain ⟨ad335, e335, hx335_0, hx335_1⟩ := at_T140 HR0.out (ji10) p335 q335; obtain rfl : ad333 = ad335 := (by injection e335); have hn335_0 : ad333.block ≠ gb334 := nA hx335_0 GW334; have hn335_1 : ad333.block ≠ gb334 := nA hx335_0 GW334; replace hx335_0 := cB HB hx335_0; replace hx335_1 := cB HB hx335_1; replace hx335_0 := (cell_far (p := ⟨gb334, 0, none⟩) (by first | (rw [add_block]; exact hn335_0) | (show (Addr.add _ _).block ≠ _; rw [add_block]; exact hn335_0) | exact hn335_0) (.int .i64 ((rd_T140 l0 x10_1).f0))).trans hx335_0; replace hx335_1 := (cell_far (p := ⟨gb334, 0, none⟩) (by first | (rw [add_block]; exact hn335_0) | (show (Addr.add _ _).block ≠ _; rw [add_block]; exact hn335_0) | exact hn335_0) (.int .i64 ((rd_T140 l0 x10_1).f0))).trans hx335_1; replace hx335_0 := (cell_far (p := ⟨gb334, 1, none⟩) (by first | (rw [add_block]; exact hn335_1) | (show (Addr.add _ _).block ≠ _; rw [add_block]; exact hn335_1) | exact hn335_1) (.int .i64 ((rd_T140 l0 x10_1).f1))).trans hx335_0; replace hx335_1 := (cell_far (p := ⟨gb334, 1, none⟩) (by first | (rw [add_block]; exact hn335_1) | (show (Addr.add _ _).block ≠ _; rw [add_block]; exact hn335_1) | exact hn335_1) (.int .i64 ((rd_T140 l0 x10_1).f1))).trans hx335_1; (try have hy335_0 := fun (n_ : Nat) => (show ((((w14.drewN n_).setCell ⟨gb334, 0, none⟩ (.int .i64 ((rd_T140 l0 x10_1).f0))).setCell ⟨gb334, 1, none⟩ (.int .i64 ((rd_T140 l0 x10_1).f1)))).cell? _ = some _ from hx335_0)); (try have hy335_1 := fun (n_ : Nat) => (show ((((w14.drewN n_).setCell ⟨gb334, 0, none⟩ (.int .i64 ((rd_T140 l0 x10_1).f0))).setCell ⟨gb334, 1, none⟩ (.int .i64 ((rd_T140 l0 x10_1).f1)))).cell? _ = some _ from hx335_1)); clear hn335_0; clear hn335_1; replace p335 := eq_true p335; replace q335 := eq_true q335))
        repeat (go_quiet (first | ((with_reducible refine gD 4 ?_); refine bxE #[.int .i64 0, .int .i64 0] 140 ?_; intro gb334 hg w14 BK334 hb; have GW334 := gE hg; have GE334 := gE hg; replace HB := hB hb; clear hb hg; have hz15 := cz2 BK334; have p335 : 0 ≤ ((ji10) : Int) := dA; have q335 : (ji10) < (l0.length : Int) := dA; obtain ⟨ad335, e335, hx335_0, hx335_1⟩ := at_T140 HR0.out (ji10) p335 q335; obtain rfl : ad333 = ad335 := (by injection e335); have hn335_0 : ad333.block ≠ gb334 := nA hx335_0 GW334; have hn335_1 : ad333.block ≠ gb334 := nA hx335_0 GW334; replace hx335_0 := cB HB hx335_0; replace hx335_1 := cB HB hx335_1; replace hx335_0 := (cell_far (p := ⟨gb334, 0, none⟩) (by first | (rw [add_block]; exact hn335_0) | (show (Addr.add _ _).block ≠ _; rw [add_block]; exact hn335_0) | exact hn335_0) (.int .i64 ((rd_T140 l0 x10_1).f0))).trans hx335_0; replace hx335_1 := (cell_far (p := ⟨gb334, 0, none⟩) (by first | (rw [add_block]; exact hn335_0) | (show (Addr.add _ _).block ≠ _; rw [add_block]; exact hn335_0) | exact hn335_0) (.int .i64 ((rd_T140 l0 x10_1).f0))).trans hx335_1; replace hx335_0 := (cell_far (p := ⟨gb334, 1, none⟩) (by first | (rw [add_block]; exact hn335_1) | (show (Addr.add _ _).block ≠ _; rw [add_block]; exact hn335_1) | exact hn335_1) (.int .i64 ((rd_T140 l0 x10_1).f1))).trans hx335_0; replace hx335_1 := (cell_far (p := ⟨gb334, 1, none⟩) (by first | (rw [add_block]; exact hn335_1) | (show (Addr.add _ _).block ≠ _; rw [add_block]; exact hn335_1) | exact hn335_1) (.int .i64 ((rd_T140 l0 x10_1).f1))).trans hx335_1; (try have hy335_0 := fun (n_ : Nat) => (show ((((w14.drewN n_).setCell ⟨gb334, 0, none⟩ (.int .i64 ((rd_T140 l0 x10_1).f0))).setCell ⟨gb334, 1, none⟩ (.int .i64 ((rd_T140 l0 x10_1).f1)))).cell? _ = some _ from hx335_0)); (try have hy335_1 := fun (n_ : Nat) => (show ((((w14.drewN n_).setCell ⟨gb334, 0, none⟩ (.int .i64 ((rd_T140 l0 x10_1).f0))).setCell ⟨gb334, 1, none⟩ (.int .i64 ((rd_T140 l0 x10_1).f1)))).cell? _ = some _ from hx335_1)); clear hn335_0; clear hn335_1; replace p335 := eq_true p335; replace q335 := eq_true q335)); try go_wp2_with (first | ((with_reducible refine gD 4 ?_); refine bxE #[.int .i64 0, .int .i64 0] 140 ?_; intro gb334 hg w14 BK334 hb; have GW334 := gE hg; have GE334 := gE hg; replace HB := hB hb; clear hb hg; have hz15 := cz2 BK334; have p335 : 0 ≤ ((ji10) : Int) := dA; have q335 : (ji10) < (l0.length : Int) := dA; obtain ⟨ad335, e335, hx335_0, hx335_1⟩ := at_T140 HR0.out (ji10) p335 q335; obtain rfl : ad333 = ad335 := (by injection e335); have hn335_0 : ad333.block ≠ gb334 := nA hx335_0 GW334; have hn335_1 : ad333.block ≠ gb334 := nA hx335_0 GW334; replace hx335_0 := cB HB hx335_0; replace hx335_1 := cB HB hx335_1; replace hx335_0 := (cell_far (p := ⟨gb334, 0, none⟩) (by first | (rw [add_block]; exact hn335_0) | (show (Addr.add _ _).block ≠ _; rw [add_block]; exact hn335_0) | exact hn335_0) (.int .i64 ((rd_T140 l0 x10_1).f0))).trans hx335_0; replace hx335_1 := (cell_far (p := ⟨gb334, 0, none⟩) (by first | (rw [add_block]; exact hn335_0) | (show (Addr.add _ _).block ≠ _; rw [add_block]; exact hn335_0) | exact hn335_0) (.int .i64 ((rd_T140 l0 x10_1).f0))).trans hx335_1; replace hx335_0 := (cell_far (p := ⟨gb334, 1, none⟩) (by first | (rw [add_block]; exact hn335_1) | (show (Addr.add _ _).block ≠ _; rw [add_block]; exact hn335_1) | exact hn335_1) (.int .i64 ((rd_T140 l0 x10_1).f1))).trans hx335_0; replace hx335_1 := (cell_far (p := ⟨gb334, 1, none⟩) (by first | (rw [add_block]; exact hn335_1) | (show (Addr.add _ _).block ≠ _; rw [add_block]; exact hn335_1) | exact hn335_1) (.int .i64 ((rd_T140 l0 x10_1).f1))).trans hx335_1; (try have hy335_0 := fun (n_ : Nat) => (show ((((w14.drewN n_).setCell ⟨gb334, 0, none⟩ (.int .i64 ((rd_T140 l0 x10_1).f0))).setCell ⟨gb334, 1, none⟩ (.int .i64 ((rd_T140 l0 x10_1).f1)))).cell? _ = some _ from hx335_0)); (try have hy335_1 := fun (n_ : Nat) => (show ((((w14.drewN n_).setCell ⟨gb334, 0, none⟩ (.int .i64 ((rd_T140 l0 x10_1).f0))).setCell ⟨gb334, 1, none⟩ (.int .i64 ((rd_T140 l0 x10_1).f1)))).cell? _ = some _ from hx335_1)); clear hn335_0; clear hn335_1; replace p335 := eq_true p335; replace q335 := eq_true q335)))
        go_ret
        exact ⟨by first | rfl | (simp [errW_none, errW_some] <;> rfl) | (simp only [← hji10]; first | rfl | (simp [errW_none, errW_some] <;> rfl)) | (simp [*, errW_none, errW_some] <;> rfl), bS⟩
       ·rw [if_neg c13] at H
        have c13b0 : decide (((rd_T140 l0 x10_1).f0) ≤ ((rd_T140 l0 (ji10)).f1)) = false := decide_eq_false c13
        clear c13
        have H' := Aside0.mk H
        clear H
        have p333 : 0 ≤ (x10_1 : Int) := dA
        have q333 : x10_1 < (l0.length : Int) := dA
        obtain ⟨ad333, e333, hx333_0, hx333_1⟩ := at_T140 HR0.out x10_1 p333 q333
        cases e333
        replace hx333_0 := cB HB hx333_0
        replace hx333_1 := cB HB hx333_1
        replace p333 := eq_true p333
        replace q333 := eq_true q333
        go_wp2_with (first | ((with_reducible refine gD 4 ?_); refine bxE #[.int .i64 0, .int .i64 0] 140 ?_; intro gb334 hg w16 BK334 hb; have GW334 := gE hg; have GE334 := gE hg; replace HB := hB hb; clear hb hg; have hz17 := cz2 BK334; have p335 : 0 ≤ ((ji10) : Int) := dA; have q335 : (ji10) < (l0.length : Int) := dA; obtain ⟨ad335, e335, hx335_0, hx335_1⟩ := at_T140 HR0.out (ji10) p335 q335; obtain rfl : ad333 = ad335 := (by injection e335); have hn335_0 : ad333.block ≠ gb334 := nA hx335_0 GW334; have hn335_1 : ad333.block ≠ gb334 := nA hx335_0 GW334; replace hx335_0 := cB HB hx335_0; replace hx335_1 := cB HB hx335_1; replace hx335_0 := (cell_far (p := ⟨gb334, 0, none⟩) (by first | (rw [add_block]; exact hn335_0) | (show (Addr.add _ _).block ≠ _; rw [add_block]; exact hn335_0) | exact hn335_0) (.int .i64 ((rd_T140 l0 x10_1).f0))).trans hx335_0; replace hx335_1 := (cell_far (p := ⟨gb334, 0, none⟩) (by first | (rw [add_block]; exact hn335_0) | (show (Addr.add _ _).block ≠ _; rw [add_block]; exact hn335_0) | exact hn335_0) (.int .i64 ((rd_T140 l0 x10_1).f0))).trans hx335_1; replace hx335_0 := (cell_far (p := ⟨gb334, 1, none⟩) (by first | (rw [add_block]; exact hn335_1) | (show (Addr.add _ _).block ≠ _; rw [add_block]; exact hn335_1) | exact hn335_1) (.int .i64 ((rd_T140 l0 x10_1).f1))).trans hx335_0; replace hx335_1 := (cell_far (p := ⟨gb334, 1, none⟩) (by first | (rw [add_block]; exact hn335_1) | (show (Addr.add _ _).block ≠ _; rw [add_block]; exact hn335_1) | exact hn335_1) (.int .i64 ((rd_T140 l0 x10_1).f1))).trans hx335_1; (try have hy335_0 := fun (n_ : Nat) => (show ((((w16.drewN n_).setCell ⟨gb334, 0, none⟩ (.int .i64 ((rd_T140 l0 x10_1).f0))).setCell ⟨gb334, 1, none⟩ (.int .i64 ((rd_T140 l0 x10_1).f1)))).cell? _ = some _ from hx335_0)); (try have hy335_1 := fun (n_ : Nat) => (show ((((w16.drewN n_).setCell ⟨gb334, 0, none⟩ (.int .i64 ((rd_T140 l0 x10_1).f0))).setCell ⟨gb334, 1, none⟩ (.int .i64 ((rd_T140 l0 x10_1).f1)))).cell? _ = some _ from hx335_1)); clear hn335_0; clear hn335_1; replace p335 := eq_true p335; replace q335 := eq_true q335))
        repeat (go_quiet (first | ((with_reducible refine gD 4 ?_); refine bxE #[.int .i64 0, .int .i64 0] 140 ?_; intro gb334 hg w16 BK334 hb; have GW334 := gE hg; have GE334 := gE hg; replace HB := hB hb; clear hb hg; have hz17 := cz2 BK334; have p335 : 0 ≤ ((ji10) : Int) := dA; have q335 : (ji10) < (l0.length : Int) := dA; obtain ⟨ad335, e335, hx335_0, hx335_1⟩ := at_T140 HR0.out (ji10) p335 q335; obtain rfl : ad333 = ad335 := (by injection e335); have hn335_0 : ad333.block ≠ gb334 := nA hx335_0 GW334; have hn335_1 : ad333.block ≠ gb334 := nA hx335_0 GW334; replace hx335_0 := cB HB hx335_0; replace hx335_1 := cB HB hx335_1; replace hx335_0 := (cell_far (p := ⟨gb334, 0, none⟩) (by first | (rw [add_block]; exact hn335_0) | (show (Addr.add _ _).block ≠ _; rw [add_block]; exact hn335_0) | exact hn335_0) (.int .i64 ((rd_T140 l0 x10_1).f0))).trans hx335_0; replace hx335_1 := (cell_far (p := ⟨gb334, 0, none⟩) (by first | (rw [add_block]; exact hn335_0) | (show (Addr.add _ _).block ≠ _; rw [add_block]; exact hn335_0) | exact hn335_0) (.int .i64 ((rd_T140 l0 x10_1).f0))).trans hx335_1; replace hx335_0 := (cell_far (p := ⟨gb334, 1, none⟩) (by first | (rw [add_block]; exact hn335_1) | (show (Addr.add _ _).block ≠ _; rw [add_block]; exact hn335_1) | exact hn335_1) (.int .i64 ((rd_T140 l0 x10_1).f1))).trans hx335_0; replace hx335_1 := (cell_far (p := ⟨gb334, 1, none⟩) (by first | (rw [add_block]; exact hn335_1) | (show (Addr.add _ _).block ≠ _; rw [add_block]; exact hn335_1) | exact hn335_1) (.int .i64 ((rd_T140 l0 x10_1).f1))).trans hx335_1; (try have hy335_0 := fun (n_ : Nat) => (show ((((w16.drewN n_).setCell ⟨gb334, 0, none⟩ (.int .i64 ((rd_T140 l0 x10_1).f0))).setCell ⟨gb334, 1, none⟩ (.int .i64 ((rd_T140 l0 x10_1).f1)))).cell? _ = some _ from hx335_0)); (try have hy335_1 := fun (n_ : Nat) => (show ((((w16.drewN n_).setCell ⟨gb334, 0, none⟩ (.int .i64 ((rd_T140 l0 x10_1).f0))).setCell ⟨gb334, 1, none⟩ (.int .i64 ((rd_T140 l0 x10_1).f1)))).cell? _ = some _ from hx335_1)); clear hn335_0; clear hn335_1; replace p335 := eq_true p335; replace q335 := eq_true q335)); try go_wp2_with (first | ((with_reducible refine gD 4 ?_); refine bxE #[.int .i64 0, .int .i64 0] 140 ?_; intro gb334 hg w16 BK334 hb; have GW334 := gE hg; have GE334 := gE hg; replace HB := hB hb; clear hb hg; have hz17 := cz2 BK334; have p335 : 0 ≤ ((ji10) : Int) := dA; have q335 : (ji10) < (l0.length : Int) := dA; obtain ⟨ad335, e335, hx335_0, hx335_1⟩ := at_T140 HR0.out (ji10) p335 q335; obtain rfl : ad333 = ad335 := (by injection e335); have hn335_0 : ad333.block ≠ gb334 := nA hx335_0 GW334; have hn335_1 : ad333.block ≠ gb334 := nA hx335_0 GW334; replace hx335_0 := cB HB hx335_0; replace hx335_1 := cB HB hx335_1; replace hx335_0 := (cell_far (p := ⟨gb334, 0, none⟩) (by first | (rw [add_block]; exact hn335_0) | (show (Addr.add _ _).block ≠ _; rw [add_block]; exact hn335_0) | exact hn335_0) (.int .i64 ((rd_T140 l0 x10_1).f0))).trans hx335_0; replace hx335_1 := (cell_far (p := ⟨gb334, 0, none⟩) (by first | (rw [add_block]; exact hn335_0) | (show (Addr.add _ _).block ≠ _; rw [add_block]; exact hn335_0) | exact hn335_0) (.int .i64 ((rd_T140 l0 x10_1).f0))).trans hx335_1; replace hx335_0 := (cell_far (p := ⟨gb334, 1, none⟩) (by first | (rw [add_block]; exact hn335_1) | (show (Addr.add _ _).block ≠ _; rw [add_block]; exact hn335_1) | exact hn335_1) (.int .i64 ((rd_T140 l0 x10_1).f1))).trans hx335_0; replace hx335_1 := (cell_far (p := ⟨gb334, 1, none⟩) (by first | (rw [add_block]; exact hn335_1) | (show (Addr.add _ _).block ≠ _; rw [add_block]; exact hn335_1) | exact hn335_1) (.int .i64 ((rd_T140 l0 x10_1).f1))).trans hx335_1; (try have hy335_0 := fun (n_ : Nat) => (show ((((w16.drewN n_).setCell ⟨gb334, 0, none⟩ (.int .i64 ((rd_T140 l0 x10_1).f0))).setCell ⟨gb334, 1, none⟩ (.int .i64 ((rd_T140 l0 x10_1).f1)))).cell? _ = some _ from hx335_0)); (try have hy335_1 := fun (n_ : Nat) => (show ((((w16.drewN n_).setCell ⟨gb334, 0, none⟩ (.int .i64 ((rd_T140 l0 x10_1).f0))).setCell ⟨gb334, 1, none⟩ (.int .i64 ((rd_T140 l0 x10_1).f1)))).cell? _ = some _ from hx335_1)); clear hn335_0; clear hn335_1; replace p335 := eq_true p335; replace q335 := eq_true q335)))
        go_roundg k1
        case measure => have := HK1.out; omega
        case rel => exact ⟨(wrap64 (x10_1 + 1)), fS, H', ⟨by have := HK1.out; omega⟩, ⟨bS⟩⟩
      ·rw [if_neg c9] at H
       have c9b0 : decide (0 < x10_1) = false := decide_eq_false c9
       clear c9
       have H' := Aside0.mk H
       clear H
       have p333 : 0 ≤ (x10_1 : Int) := dA
       have q333 : x10_1 < (l0.length : Int) := dA
       obtain ⟨ad333, e333, hx333_0, hx333_1⟩ := at_T140 HR0.out x10_1 p333 q333
       cases e333
       replace hx333_0 := cB HB hx333_0
       replace hx333_1 := cB HB hx333_1
       replace p333 := eq_true p333
       replace q333 := eq_true q333
       go_wp2_with (first | ((with_reducible refine gD 4 ?_); refine bxE #[.int .i64 0, .int .i64 0] 140 ?_; intro gb334 hg w18 BK334 hb; have GW334 := gE hg; have GE334 := gE hg; replace HB := hB hb; clear hb hg; have hz19 := cz2 BK334))
       repeat (go_quiet (first | ((with_reducible refine gD 4 ?_); refine bxE #[.int .i64 0, .int .i64 0] 140 ?_; intro gb334 hg w18 BK334 hb; have GW334 := gE hg; have GE334 := gE hg; replace HB := hB hb; clear hb hg; have hz19 := cz2 BK334)); try go_wp2_with (first | ((with_reducible refine gD 4 ?_); refine bxE #[.int .i64 0, .int .i64 0] 140 ?_; intro gb334 hg w18 BK334 hb; have GW334 := gE hg; have GE334 := gE hg; replace HB := hB hb; clear hb hg; have hz19 := cz2 BK334)))
       go_roundg k1
       case measure => have := HK1.out; omega
       case rel => exact ⟨(wrap64 (x10_1 + 1)), fS, H', ⟨by have := HK1.out; omega⟩, ⟨bS⟩⟩
    ·obtain rfl := Option.some.inj H
     go_wp2
     repeat (go_quiet (fail); try go_wp2)
     go_ret
     exact ⟨eS, bS⟩

/-! ### impl_MeetSpans: function 111 -/
def impl_MeetSpans.l0 : Nat → Int → Int → List (S140) → List (S140) → Int → Int → Option ((List (S140)))
 | 0, _, _, _, _, _, _ => none
 | k + 1, x1, x2, x7, x14, x15, x16 => if x16 < x15 then (if 0 ≤ x16 then (if x16 < (x14.length : Int) then (if (mx ((rd_T140 x14 x16).f0) x1) < (mn ((rd_T140 x14 x16).f1) x2) then (if x7.length < 8796093022208 then (impl_MeetSpans.l0 k x1 x2 (x7 ++ [(⟨mx ((rd_T140 x14 x16).f0) x1, mn ((rd_T140 x14 x16).f1) x2⟩ : S140)]) x14 x15 (wrap64 (x16 + 1))) else (none)) else (impl_MeetSpans.l0 k x1 x2 x7 x14 x15 (wrap64 (x16 + 1)))) else (none)) else (none)) else (some x7)
def impl_MeetSpans.f (k : Nat) (l0 : List (S140)) (a1 : Int) (a2 : Int) : Option ((List (S140))) := (impl_SpansOk.f k l0).bind fun t336 => (if t336 = true then (impl_MeetSpans.l0 k a1 a2 ([] : List (S140)) l0 (l0.length : Int) 0) else (some ([] : List (S140))))
theorem impl_MeetSpans.calls (k : Nat) (A0 : Option Addr) (c0 : Nat) (l0 : List (S140)) (a1 : Int) (a2 : Int) (r : List (S140)) (w : World) (hr0 : Kd.C k140 w A0 l0.length l0) (hc0 : l0.length ≤ c0) (h : impl_MeetSpans.f k l0 a1 a2 = some r) :
  Calls Try.prog 111 #[.slice A0 l0.length c0, .int .i64 a1, .int .i64 a2] w fun e w' => ∃ v0_ : Value, e = .returned (v0_) ∧ Kd.R k140 140 w' w.heap.size (fun _ => True) v0_ r ∧ Below w.heap.size w w' := by
 have hu140 := Try.underlying140
 have HR0 := Aside0.mk hr0
 have HC0 := Aside0.mk hc0
 clear hr0 hc0
 have HB := Aside0.mk (Below.refl w.heap.size w)
 have H : ((impl_SpansOk.f k l0).bind fun t336 => (if t336 = true then (impl_MeetSpans.l0 k a1 a2 ([] : List (S140)) l0 (l0.length : Int) 0) else (some ([] : List (S140))))) = some r := h
 clear h
 replace H := bN H
 obtain ⟨t336, A4, H⟩ := H
 by_cases c5 : t336 = true
 ·subst c5
  rw [if_pos rfl] at H
  have H' := Aside0.mk H
  clear H
  go_enter Try.func111, Try.ntmps111
  go_wp2_with (first | ((with_reducible refine gC 149 ?_); refine cL (some 12) Try.func149 #[.slice A0 l0.length c0] ?_; (with_reducible refine (impl_SpansOk.calls k _ _ l0 _ _ ?side1 ?side2 A4.out).mono ?_); (case side1 => repeat (first | exact HR0.out | (with_reducible refine Kd.C_alloc ?_ _) | (with_reducible refine Kd.C_drewN ?_ _) | (with_reducible refine Kd.C_drew ?_))); (case side2 => exact HC0.out); rintro e w6 ⟨rfl, hb⟩; refine ⟨_, rfl, ?_⟩; replace HB := hB hb; (try clear hb); (try clear hb2); (try clear hk); (try clear hi)))
  go_loopg [7, 16] k (fun kq v7 v16 w' => ∃ (x7_1 : List (S140)) (x16_1 : Int), v16 = .int .i64 x16_1 ∧ Aside0 (impl_MeetSpans.l0 kq a1 a2 x7_1 l0 (l0.length : Int) x16_1 = some r) ∧ Aside0 (kq ≤ k) ∧ Aside0 (Kd.R k140 140 w' w.heap.size (fun _ => True) v7 x7_1) ∧ Aside0 (Below w.heap.size w w'))
  case atStart => exact ⟨(([] : List (S140))), (0), fS, H', ⟨Nat.le_refl _⟩, ⟨by first | exact Kd.R_nil _ _ _ _ _ | exact Kd.N_nil _ _ _ _ _ | exact Kd.V_nil _ _ _ _ _ | exact Kd.Q_nil _ _ _ _ _ | exact Kd.S_nil _ _ _ _ _⟩, ⟨bS⟩⟩
  case round =>
   clear H'
   try clear c1
   try clear p2
   try clear c5
   obtain ⟨x7_1, x16_1, rfl, HA, HK1, HO_7, HB⟩ := hrel
   cases gk with
   | zero => exact absurd HA.out (by simp [impl_MeetSpans.l0])
   | succ k1 =>
    have H := HA.out
    clear HA
    simp only [impl_MeetSpans.l0] at H
    rcases iD H with ⟨c7b0, H⟩ | ⟨c7b0, H⟩
    ·obtain ⟨c8b0, H⟩ := iT H
     obtain ⟨c9b0, H⟩ := iT H
     obtain ⟨ji10, hji10⟩ : ∃ j_ : Int, (mx ((rd_T140 l0 x16_1).f0) a1) = j_ := ⟨_, rfl⟩
     replace H : (if (ji10) < (mn ((rd_T140 l0 x16_1).f1) a2) then (if x7_1.length < 8796093022208 then (impl_MeetSpans.l0 k1 a1 a2 (x7_1 ++ [(⟨ji10, mn ((rd_T140 l0 x16_1).f1) a2⟩ : S140)]) l0 (l0.length : Int) (wrap64 (x16_1 + 1))) else (none)) else (impl_MeetSpans.l0 k1 a1 a2 x7_1 l0 (l0.length : Int) (wrap64 (x16_1 + 1)))) = some r := by first | (rw [hji10] at H; exact H) | (simp only [hji10] at H ⊢; exact H)
     have hji10_ : (if ((rd_T140 l0 x16_1).f0) < a1 then a1 else ((rd_T140 l0 x16_1).f0)) = ji10 := hji10
     obtain ⟨ji11, hji11⟩ : ∃ j_ : Int, (mn ((rd_T140 l0 x16_1).f1) a2) = j_ := ⟨_, rfl⟩
     replace H : (if (ji10) < (ji11) then (if x7_1.length < 8796093022208 then (impl_MeetSpans.l0 k1 a1 a2 (x7_1 ++ [(⟨ji10, ji11⟩ : S140)]) l0 (l0.length : Int) (wrap64 (x16_1 + 1))) else (none)) else (impl_MeetSpans.l0 k1 a1 a2 x7_1 l0 (l0.length : Int) (wrap64 (x16_1 + 1)))) = some r := by first | (rw [hji11] at H; exact H) | (simp only [hji11] at H ⊢; exact H)
     have hji11_ : (if a2 < ((rd_T140 l0 x16_1).f1) then a2 else ((rd_T140 l0 x16_1).f1)) = ji11 := hji11
     rcases iD H with ⟨c12b0, H⟩ | ⟨c12b0, H⟩
     ·obtain ⟨LMc13, H⟩ := iL H
      obtain ⟨y340, hy340⟩ : ∃ y_ : List (S140), y_ = (x7_1 ++ [(⟨ji10, ji11⟩ : S140)]) := ⟨_, rfl⟩
      replace H : (impl_MeetSpans.l0 k1 a1 a2 y340 l0 (l0.length : Int) (wrap64 (x16_1 + 1))) = some r := by first | (rw [hy340]; with_reducible exact H) | (have H2_ := (Option.bind_some _ _).symm.trans H; rw [hy340]; with_reducible exact H2_) | (have H2_ := (Option.bind_some _ _).symm.trans H; with_reducible exact H2_) | with_reducible exact H | (rw [hy340]; exact H) | exact H
      have Ny340 := Aside0.mk hy340
      clear hy340
      have H' := Aside0.mk H
      clear H
      have p337 : 0 ≤ (x16_1 : Int) := dA
      have q337 : x16_1 < (l0.length : Int) := dA
      obtain ⟨ad337, e337, hx337_0, hx337_1⟩ := at_T140 HR0.out x16_1 p337 q337
      cases e337
      replace hx337_0 := cB HB hx337_0
      replace hx337_1 := cB HB hx337_1
      replace p337 := eq_true p337
      replace q337 := eq_true q337
      go_wp2_with (first | ((with_reducible refine gD 9 ?_); refine bxE #[.int .i64 0, .int .i64 0] 140 ?_; intro gb338 hg w14 BK338 hb; have GW338 := gE hg; have GE338 := gE hg; replace HO_7 := Aside0.mk (Kd.R_below (Kd.R_elderB (rS HO_7) gb338 (Nat.le_of_eq hg.symm)) hb); replace HB := hB hb; clear hb hg; have hz15 := cz2 BK338) | ((with_reducible refine gD 10 ?_); refine bxE #[.int .i64 0, .int .i64 0] 140 ?_; intro gb339 hg w16 BK339 hb; have GW339 := gE hg; have GE339 := gE hg; have NB338_339 := Aside0.mk ((by rw [hg]; exact Nat.ne_of_lt (blk_lt (g := gb338) (o := .cells #[.int .i64 ((rd_T140 l0 x16_1).f0), .int .i64 ((rd_T140 l0 x16_1).f1)] 140 (0, 0)) kS) : gb338 ≠ gb339)); have NB339_338 := Aside0.mk ((by rw [hg]; exact Nat.ne_of_gt (blk_lt (g := gb338) (o := .cells #[.int .i64 ((rd_T140 l0 x16_1).f0), .int .i64 ((rd_T140 l0 x16_1).f1)] 140 (0, 0)) kS) : gb339 ≠ gb338)); replace HO_7 := Aside0.mk (Kd.R_below (Kd.R_elderB (by exact rT (Kd.R_mono (Kd.R_far (p := ⟨gb338, 1, none⟩) (Kd.R_far (p := ⟨gb338, 0, none⟩) (Kd.R_mono HO_7.out (fun k_ hk => (⟨hk, hk.2⟩ : _ ∧ k_ ≠ gb338))) (fun _ hk => hk.2) (.int .i64 ((rd_T140 l0 x16_1).f0))) (fun _ hk => hk.2) (.int .i64 ((rd_T140 l0 x16_1).f1))) (fun _ h_ => h_.1))) gb339 (Nat.le_of_eq hg.symm)) hb); replace BK338 := Aside0.mk (blk_below (g := gb338) (o := .cells #[.int .i64 ((rd_T140 l0 x16_1).f0), .int .i64 ((rd_T140 l0 x16_1).f1)] 140 (0, 0)) kS hb); replace HB := hB hb; clear hb hg; have hnb17 := NB339_338.out; have hnc17 := NB338_339.out; have hz18 := cz2 BK339) | ((with_reducible refine gate_builtin (b := .append) (xs := #[.tmp 34, .tmp 36]) rfl ?_); at_builtin; refine Kd.R_append k140 (w0 := w) w.heap.size rfl (.tmp 34) (.tmp 36) 63 140 (.agg #[(.int .i64 0), (.int .i64 0)]) 16 rfl Try.underlying63 info140 rfl (by decide) (by omega) u7 x7_1 (⟨ji10, ji11⟩ : S140) [.int .i64 ji10, .int .i64 ji11] (fun k_ => k_ ≠ gb338 ∧ k_ ≠ gb339) (fun _ => False) rfl (by first | (go_simp; done) | (go_simp; rfl)) ?aP (fun _ hk => hk.elim) ?aF ?aO ?aB ?aS ?aL ?_; (case aP => exact k140_mkM _ _ _ (⟨ji10, ji11⟩ : S140)); (case aB => exact bS); (case aF => exact (fun k_ hk => ⟨Kd.freshB (g := gb338) kS k_ hk, Kd.freshB (g := gb339) (o := .cells #[.int .i64 ji10, .int .i64 ji11] 140 (0, 0)) kS k_ hk⟩)); (case aO => exact (by exact rT (Kd.R_mono (Kd.R_far (p := ⟨gb339, 1, none⟩) (Kd.R_far (p := ⟨gb339, 0, none⟩) (Kd.R_mono HO_7.out (fun k_ hk => (⟨hk, hk.2⟩ : _ ∧ k_ ≠ gb339))) (fun _ hk => hk.2) (.int .i64 ji10)) (fun _ hk => hk.2) (.int .i64 ji11)) (fun _ hk => ⟨hk.1.1.2, hk.1.2⟩)))); (case aS => exact (below_size bS)); (case aL => have := LMc13.out; omega); intro v341 w19 ho hb hg hat; rw [← Ny340.out] at ho; have HO342 := Aside0.mk (ho); replace BK338 := Aside0.mk (blk_grown (g := gb338) kS hg (Kd.R_away HO_7.out (fun _ hk => hk.1.2))); replace BK339 := Aside0.mk (blk_grown (g := gb339) (o := .cells #[.int .i64 ji10, .int .i64 ji11] 140 (0, 0)) kS hg (Kd.R_away HO_7.out (fun _ hk => hk.2))); replace HB := Aside0.mk (hb); clear HO_7; clear ho hb hg hat))
      go_roundg k1
      case measure => have := HK1.out; omega
      case rel => exact ⟨(y340), (wrap64 (x16_1 + 1)), fS, H', ⟨by have := HK1.out; omega⟩, ⟨by exact rT (Kd.R_mono HO342.out (fun _ hk => trivial))⟩, ⟨bS⟩⟩
     ·have H' := Aside0.mk H
      clear H
      have p337 : 0 ≤ (x16_1 : Int) := dA
      have q337 : x16_1 < (l0.length : Int) := dA
      obtain ⟨ad337, e337, hx337_0, hx337_1⟩ := at_T140 HR0.out x16_1 p337 q337
      cases e337
      replace hx337_0 := cB HB hx337_0
      replace hx337_1 := cB HB hx337_1
      replace p337 := eq_true p337
      replace q337 := eq_true q337
      go_wp2_with (first | ((with_reducible refine gD 9 ?_); refine bxE #[.int .i64 0, .int .i64 0] 140 ?_; intro gb338 hg w20 BK338 hb; have GW338 := gE hg; have GE338 := gE hg; replace HO_7 := Aside0.mk (Kd.R_below (Kd.R_elderB (rS HO_7) gb338 (Nat.le_of_eq hg.symm)) hb); replace HB := hB hb; clear hb hg; have hz21 := cz2 BK338) | ((with_reducible refine gD 10 ?_); refine bxE #[.int .i64 0, .int .i64 0] 140 ?_; intro gb339 hg w22 BK339 hb; have GW339 := gE hg; have GE339 := gE hg; have NB338_339 := Aside0.mk ((by rw [hg]; exact Nat.ne_of_lt (blk_lt (g := gb338) (o := .cells #[.int .i64 ((rd_T140 l0 x16_1).f0), .int .i64 ((rd_T140 l0 x16_1).f1)] 140 (0, 0)) kS) : gb338 ≠ gb339)); have NB339_338 := Aside0.mk ((by rw [hg]; exact Nat.ne_of_gt (blk_lt (g := gb338) (o := .cells #[.int .i64 ((rd_T140 l0 x16_1).f0), .int .i64 ((rd_T140 l0 x16_1).f1)] 140 (0, 0)) kS) : gb339 ≠ gb338)); replace HO_7 := Aside0.mk (Kd.R_below (Kd.R_elderB (by exact rT (Kd.R_mono (Kd.R_far (p := ⟨gb338, 1, none⟩) (Kd.R_far (p := ⟨gb338, 0, none⟩) (Kd.R_mono HO_7.out (fun k_ hk => (⟨hk, hk.2⟩ : _ ∧ k_ ≠ gb338))) (fun _ hk => hk.2) (.int .i64 ((rd_T140 l0 x16_1).f0))) (fun _ hk => hk.2) (.int .i64 ((rd_T140 l0 x16_1).f1))) (fun _ h_ => h_.1))) gb339 (Nat.le_of_eq hg.symm)) hb); replace BK338 := Aside0.mk (blk_below (g := gb338) (o := .cells #[.int .i64 ((rd_T140 l0 x16_1).f0), .int .i64 ((rd_T140 l0 x16_1).f1)] 140 (0, 0)) kS hb); replace HB := hB hb; clear hb hg; have hnb23 := NB339_338.out; have hnc23 := NB338_339.out; have hz24 := cz2 BK339))
      go_roundg k1
      case measure => have := HK1.out; omega
      case rel => exact ⟨(x7_1), (wrap64 (x16_1 + 1)), fS, H', ⟨by have := HK1.out; omega⟩, ⟨by exact rT (Kd.R_mono (Kd.R_far (p := ⟨gb339, 1, none⟩) (Kd.R_far (p := ⟨gb339, 0, none⟩) (Kd.R_mono HO_7.out (fun k_ hk => (⟨hk, hk.2⟩ : _ ∧ k_ ≠ gb339))) (fun _ hk => hk.2) (.int .i64 ji10)) (fun _ hk => hk.2) (.int .i64 ji11)) (fun _ hk => trivial))⟩, ⟨bS⟩⟩
    ·obtain rfl := Option.some.inj H
     go_wp2
     go_ret
     exact ⟨_, eS, rS HO_7, bS⟩
 ·obtain rfl := Bool.eq_false_iff.mpr c5
  rw [if_neg nF] at H
  obtain rfl := Option.some.inj H
  go_enter Try.func111, Try.ntmps111
  go_wp2_with (first | ((with_reducible refine gC 149 ?_); refine cL (some 12) Try.func149 #[.slice A0 l0.length c0] ?_; (with_reducible refine (impl_SpansOk.calls k _ _ l0 _ _ ?side1 ?side2 A4.out).mono ?_); (case side1 => repeat (first | exact HR0.out | (with_reducible refine Kd.C_alloc ?_ _) | (with_reducible refine Kd.C_drewN ?_ _) | (with_reducible refine Kd.C_drew ?_))); (case side2 => exact HC0.out); rintro e w25 ⟨rfl, hb⟩; refine ⟨_, rfl, ?_⟩; replace HB := hB hb; (try clear hb); (try clear hb2); (try clear hk); (try clear hi)))
  go_ret
  exact ⟨_, eS, by first | exact Kd.R_nil _ _ _ _ _ | exact Kd.N_nil _ _ _ _ _ | exact Kd.V_nil _ _ _ _ _ | exact Kd.Q_nil _ _ _ _ _ | exact Kd.S_nil _ _ _ _ _, bS⟩

/-! ### impl_pathOk: function 157 -/
def impl_pathOk.f (k : Nat) (l0 : List (S166)) : Option (Bool) := if (l0.length : Int) ≤ 8 then ((impl_pointsOk.f k l0).bind fun t343 => (some t343)) else (some false)
theorem impl_pathOk.calls (k : Nat) (A0 : Option Addr) (c0 : Nat) (l0 : List (S166)) (r : Bool) (w : World) (hr0 : Kd.C k166 w A0 l0.length l0) (hc0 : l0.length ≤ c0) (h : impl_pathOk.f k l0 = some r) :
  Calls Try.prog 157 #[.slice A0 l0.length c0] w fun e w' => e = .returned (.bool r) ∧ Below w.heap.size w w' := by
 have HR0 := Aside0.mk hr0
 have HC0 := Aside0.mk hc0
 clear hr0 hc0
 have HB := Aside0.mk (Below.refl w.heap.size w)
 have H : (if (l0.length : Int) ≤ 8 then ((impl_pointsOk.f k l0).bind fun t343 => (some t343)) else (some false)) = some r := h
 clear h
 by_cases c2 : (l0.length : Int) ≤ 8
 ·rw [if_pos c2] at H
  have c2b0 : decide ((l0.length : Int) ≤ 8) = true := decide_eq_true c2
  have c2b1 : decide (l0.length ≤ 8) = true := decide_eq_true (by omega)
  clear c2
  replace H := bN H
  obtain ⟨t343, A3, H⟩ := H
  obtain rfl := Option.some.inj H
  go_enter Try.func157, Try.ntmps157
  go_wp2_with (first | (go_at_call 156; (with_reducible refine (impl_pointsOk.calls k _ _ l0 t343 _ ?side1 ?side2 A3.out).mono ?_); (case side1 => repeat (first | exact HR0.out | (with_reducible refine Kd.C_alloc ?_ _) | (with_reducible refine Kd.C_drewN ?_ _) | (with_reducible refine Kd.C_drew ?_))); (case side2 => exact HC0.out); rintro e w4 ⟨rfl, hb⟩; replace HB := hB hb; (try clear hb); (try clear hb2); (try clear hk); (try clear hi)))
  go_ret
  exact ⟨eS, bS⟩
 ·rw [if_neg c2] at H
  have c2b0 : decide ((l0.length : Int) ≤ 8) = false := decide_eq_false c2
  have c2b1 : decide (l0.length ≤ 8) = false := decide_eq_false (by omega)
  clear c2
  obtain rfl := Option.some.inj H
  go_enter Try.func157, Try.ntmps157
  go_wp2
  go_ret
  exact ⟨eS, bS⟩

/-! ### impl_crosses: function 181 -/
def impl_crosses.f (a0_0 : Int) (a0_1 : Int) (a1_0 : Int) (a1_1 : Int) (a2 : Int) (a3 : Int) : Option (Bool) := if ((decide (a0_1 > a3)) == (decide (a1_1 > a3))) = true then (some false) else (if (wrap64 (a1_1 - a0_1)) < 0 then (some (decide ((wrap64 ((wrap64 ((wrap64 (2 * a0_0)) * (wrap64 (a1_1 - a0_1)))) + (wrap64 ((wrap64 ((wrap64 ((wrap64 (2 * a3)) + 1)) - (wrap64 (2 * a0_1)))) * (wrap64 (a1_0 - a0_0)))))) < (wrap64 ((wrap64 ((wrap64 (2 * a2)) + 1)) * (wrap64 (a1_1 - a0_1))))))) else (some (decide ((wrap64 ((wrap64 ((wrap64 (2 * a0_0)) * (wrap64 (a1_1 - a0_1)))) + (wrap64 ((wrap64 ((wrap64 ((wrap64 (2 * a3)) + 1)) - (wrap64 (2 * a0_1)))) * (wrap64 (a1_0 - a0_0)))))) > (wrap64 ((wrap64 ((wrap64 (2 * a2)) + 1)) * (wrap64 (a1_1 - a0_1))))))))
theorem impl_crosses.lf0 {p : Prop} (h : p := by
 go_enter Try.func181, Try.ntmps181
 go_wp2_with (first | ((with_reducible refine gD 4 ?_); refine bxE #[.int .i64 a0_0, .int .i64 a0_1] 166 ?_; intro gb344 hg w12 BK344 hb; have GW344 := gE hg; have GE344 := gE hg; replace HB := hB hb; clear hb hg) | ((with_reducible refine gD 5 ?_); refine bxE #[.int .i64 a1_0, .int .i64 a1_1] 166 ?_; intro gb345 hg w13 BK345 hb; have GW345 := gE hg; have GE345 := gE hg; have NB344_345 := nL (g := gb344) hg; have NB345_344 := nG (g := gb344) hg; replace BK344 := kB (g := gb344) hb; replace HB := hB hb; clear hb hg; have hnb14 := NB344_345.out; have hnc14 := NB345_344.out; have hz15 := cz2 BK344; have hz16 := cz2 BK345))
 go_ret
 exact ⟨eS, bS⟩) : p := h
theorem impl_crosses.calls (a0_0 : Int) (a0_1 : Int) (a1_0 : Int) (a1_1 : Int) (a2 : Int) (a3 : Int) (r : Bool) (w : World) (h : impl_crosses.f a0_0 a0_1 a1_0 a1_1 a2 a3 = some r) :
  Calls Try.prog 181 #[.agg #[.int .i64 a0_0, .int .i64 a0_1], .agg #[.int .i64 a1_0, .int .i64 a1_1], .int .i64 a2, .int .i64 a3] w fun e w' => e = .returned (.bool r) ∧ Below w.heap.size w w' := by
 have hu166 := Try.underlying166
 have HB := Aside0.mk (Below.refl w.heap.size w)
 have H : (if ((decide (a0_1 > a3)) == (decide (a1_1 > a3))) = true then (some false) else (if (wrap64 (a1_1 - a0_1)) < 0 then (some (decide ((wrap64 ((wrap64 ((wrap64 (2 * a0_0)) * (wrap64 (a1_1 - a0_1)))) + (wrap64 ((wrap64 ((wrap64 ((wrap64 (2 * a3)) + 1)) - (wrap64 (2 * a0_1)))) * (wrap64 (a1_0 - a0_0)))))) < (wrap64 ((wrap64 ((wrap64 (2 * a2)) + 1)) * (wrap64 (a1_1 - a0_1))))))) else (some (decide ((wrap64 ((wrap64 ((wrap64 (2 * a0_0)) * (wrap64 (a1_1 - a0_1)))) + (wrap64 ((wrap64 ((wrap64 ((wrap64 (2 * a3)) + 1)) - (wrap64 (2 * a0_1)))) * (wrap64 (a1_0 - a0_0)))))) > (wrap64 ((wrap64 ((wrap64 (2 * a2)) + 1)) * (wrap64 (a1_1 - a0_1))))))))) = some r := h
 clear h
 by_cases c5 : ((decide (a0_1 > a3)) == (decide (a1_1 > a3))) = true
 ·rw [if_pos c5] at H
  have c5b0 : ((decide (a0_1 > a3)) == (decide (a1_1 > a3))) = true := c5
  (try (have c5b1 : decide ((decide (a0_1 > a3)) = (decide (a1_1 > a3))) = true := by simpa using c5))
  (try (have c5b2 : ((decide (a0_1 > a3)) == (decide (a1_1 > a3))) = true := by simpa using c5))
  clear c5
  obtain rfl := Option.some.inj H
  exact impl_crosses.lf0
 ·rw [if_neg c5] at H
  have c5b0 : ((decide (a0_1 > a3)) == (decide (a1_1 > a3))) = false := by simpa using c5
  (try (have c5b1 : decide ((decide (a0_1 > a3)) = (decide (a1_1 > a3))) = false := by simpa using c5))
  (try (have c5b2 : ((decide (a0_1 > a3)) == (decide (a1_1 > a3))) = false := by simpa using c5))
  (try (have c5b3 : ¬ ((decide (a0_1 > a3)) = (decide (a1_1 > a3))) := by simpa using c5))
  clear c5
  rcases iD H with ⟨c11b0, H⟩ | ⟨c11b0, H⟩
  ·obtain rfl := Option.some.inj H
   exact impl_crosses.lf0
  ·obtain rfl := Option.some.inj H
   exact impl_crosses.lf0

end Go.Proofs.Ytimpejidlnjhlaa.QFnTouches
