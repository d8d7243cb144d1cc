-- Made out of the translation by a program of this session (a changed copy of the print). Not trusted: Lean checks it.
import Derived.Test.YtpickbenfkcpmaaQFnRuns7x0
import Derived.Test.YtpickbenfkcpmaaQFnRuns7x2
import Derived.Test.YtpickbenfkcpmaaQFnRuns7x3
namespace Go.Proofs.Ytpickbenfkcpmaa.QFnRuns7
open Go.RowKit Go.Proofs.YtpickbenfkcpmaaW.PrintWords Go.Proofs.YtpickbenfkcpmaaW.PrintLast Go.Proofs.YtpickbenfkcpmaaW.PrintMore
attribute [local go_sem] max2_int min2_int max_two min_two max_three min_three max_four min_four   -- for this text's walks alone
set_option linter.unusedVariables false
set_option linter.unusedSimpArgs false
set_option maxHeartbeats 8000000
set_option maxRecDepth 100000

/-! ### impl_flat: function 16 -/
mutual
def impl_flat.l0 : Nat → List (S46) → Int → List (S46) → Option ((List (S46)) × Int)
 | 0, _, _, _ => none
 | k + 1, x0, x1, x6 => if x1 < (x0.length : Int) then (if 0 ≤ x1 then (impl_flat.j1 k x0 x1 x6 (((rd_T46 x0 x1).f0).toList != ([101, 110, 100] : List UInt8))) else (none)) else (impl_flat.j1 k x0 x1 x6 false)
def impl_flat.j1 : Nat → List (S46) → Int → List (S46) → Bool → Option ((List (S46)) × Int)
 | 0, _, _, _, _ => none
 | k + 1, x0, x1, x6, a5 => if a5 = true then (if 0 ≤ x1 then (if x1 < (x0.length : Int) then (if ((rd_T46 x0 x1).f0).toList = ([114, 101, 112, 101, 97, 116] : List UInt8) then (if 0 ≤ (wrap64 ((x6.length : Int) - 1)) then (if (wrap64 ((x6.length : Int) - 1)) < (x6.length : Int) then (if (wrap64 ((x6.length : Int) - 1)) ≤ (x6.length : Int) then ((impl_flat.f k x0 (wrap64 (x1 + 1))).bind fun a2 => (impl_flat.l1 k x0 (x6.take ((wrap64 ((x6.length : Int) - 1)) : Int).toNat) ((rd_T46 x6 (wrap64 ((x6.length : Int) - 1))).f1) a2.1 a2.2)) else (none)) else (none)) else (none)) else (if x6.length < 5864062014805 then (impl_flat.l0 k x0 (wrap64 (x1 + 1)) (x6 ++ [(⟨(rd_T46 x0 x1).f0, (rd_T46 x0 x1).f1⟩ : S46)])) else (none))) else (none)) else (none)) else ((impl_Token.f x6).bind fun a3 => (some (a3, x1)))
def impl_flat.l1 : Nat → List (S46) → List (S46) → Int → List (S46) → Int → Option ((List (S46)) × Int)
 | 0, _, _, _, _, _ => none
 | k + 1, x0, x6, x7, x8, x9 => if x7 > 0 then (if x6.length + x8.length < 5864062014805 then (impl_flat.l1 k x0 (x6 ++ x8) (wrap64 (x7 - 1)) x8 x9) else (none)) else (impl_flat.l0 k x0 (wrap64 (x9 + 1)) x6)
def impl_flat.f : Nat → List (S46) → Int → Option ((List (S46)) × Int)
 | 0, _, _ => none
 | k + 1, l0, a1 => impl_flat.l0 k l0 a1 ([] : List (S46))
end
theorem impl_flat.calls (k : Nat) : ∀ (A0 : Option Addr) (c0 : Nat) (l0 : List (S46)) (a1 : Int) (r1 : List (S46)) (r2 : Int) (w : World) (hr0 : Kd.C k46 w A0 l0.length l0) (i4 : l0.length ≤ c0) (h : impl_flat.f k l0 a1 = some (r1, r2)),
  Calls Try.prog 16 #[.slice A0 l0.length c0, .int .i64 a1] w fun e w' => ∃ v0_ : Value, e = .returned (.tuple #[v0_, .int .i64 r2]) ∧ Kd.V k46 46 w' w.heap.size (fun k_ => (w.heap.size ≤ k_)) v0_ r1 ∧ Below w.heap.size w w' := by
 induction k using Nat.strongRecOn with
 | _ k ih =>
 intro A0 c0 l0 a1 r1 r2 w hr0 i4 h
 cases k with
 | zero => exact absurd h (by simp [impl_flat.f])
 | succ k =>
 simp only [impl_flat.f] at h
 have hu46 := Try.underlying46
 have f8 := aM hr0
 have k4 := aM i4
 clear hr0 i4
 have HB := aM (Below.refl w.heap.size w)
 have H : (impl_flat.l0 k l0 a1 ([] : List (S46))) = some (r1, r2) := h
 clear h
 have H' := aM H
 clear H
 go_enter Try.func16, Try.ntmps16
 go_wp2
 go_loopg [1, 6] k (fun kq v1 v6 w' => ∃ (a2 : Int) (a3 : List (S46)), v1 = .int .i64 a2 ∧ Aside0 (impl_flat.l0 kq l0 a2 a3 = some (r1, r2)) ∧ Aside0 (kq ≤ k) ∧ Aside0 (Kd.R k46 46 w' w.heap.size (fun k_ => (w.heap.size ≤ k_)) v6 a3) ∧ Aside0 (Below w.heap.size w w'))
 case atStart => exact ⟨(a1), (([] : List (S46))), fS, H', ⟨Nat.le_refl _⟩, ⟨by first | exact Kd.R_nil _ _ _ _ _ | exact Kd.N_nil _ _ _ _ _ | exact Kd.V_nil _ _ _ _ _ | exact Kd.Q_nil _ _ _ _ _ | exact Kd.S_nil _ _ _ _ _⟩, ⟨bS⟩⟩
 case round =>
  clear H'
  try clear c1
  try clear p2
  obtain ⟨a2, a3, rfl, HA, e1, a5, HB⟩ := hrel
  cases gk with
  | zero => exact absurd HA.out (by simp [impl_flat.l0])
  | succ k1 =>
   have H := HA.out
   clear HA
   simp only [impl_flat.l0] at H
   have i5 := aM H
   clear H
   go_upto_region 2 with (fail)
   go_cut [21] (fun k5 wc => ∃ (kq : Nat) (b8 : Bool), k5 = .bool b8 ∧ Aside0 (impl_flat.j1 kq l0 a2 a3 b8 = some (r1, r2)) ∧ Aside0 (kq ≤ k1) ∧ Aside0 (Kd.R k46 46 wc w.heap.size (fun k_ => (w.heap.size ≤ k_)) u6 a3) ∧ Aside0 (Below w.heap.size w wc))
   case first =>
    have H := i5.out
    clear i5
    rcases iD H with ⟨b7, H⟩ | ⟨b7, H⟩
    ·(first | rw [b7] | (simp only [i64_w, i32_w]; rw [b7]) | skip)
     obtain ⟨f9, H⟩ := iT H
     have H' := aM H
     clear H
     have d4 : 0 ≤ (a2 : Int) := dA
     have d5 : a2 < (l0.length : Int) := dA
     obtain ⟨k2, i6, a8, a9⟩ := at_T46 f8.out a2 d4 d5
     cases i6
     replace a8 := cB HB a8
     replace a9 := cB HB a9
     replace d4 := eq_true d4
     replace d5 := eq_true d5
     go_wp2
     go_meet
     case rel => exact ⟨_, ((((rd_T46 l0 a2).f0).toList != ([101, 110, 100] : List UInt8))), fS, H', ⟨by have := e1.out; first | omega | exact Nat.le_refl _⟩, ⟨rS a5⟩, ⟨bS⟩⟩
    ·(first | rw [b7] | (simp only [i64_w, i32_w]; rw [b7]) | skip)
     have H' := aM H
     clear H
     go_wp2
     go_meet
     case rel => exact ⟨_, (false), fS, H', ⟨by have := e1.out; first | omega | exact Nat.le_refl _⟩, ⟨rS a5⟩, ⟨bS⟩⟩
   case rest =>
    clear i5
    try clear c1
    try clear p2
    try clear p3
    try clear q3
    try clear k6
    try clear c4
    try clear b7
    try clear c5
    try clear f9
    try clear a8
    try clear a9
    try clear p2
    try clear d4
    try clear d5
    obtain ⟨kq, b8, rfl, HA, HJ2, a5, HB⟩ := hcut
    cases kq with
    | zero => exact absurd HA.out (by simp [impl_flat.j1])
    | succ kj2 =>
     have H := HA.out
     clear HA
     simp only [impl_flat.j1] at H
     by_cases c6 : b8 = true
     ·subst c6
      rw [if_pos rfl] at H
      by_cases c7 : 0 ≤ a2
      ·rw [if_pos c7] at H
       have i7 : decide (0 ≤ a2) = true := decide_eq_true c7
       clear c7
       by_cases c8 : a2 < (l0.length : Int)
       ·rw [if_pos c8] at H
        have i8 : decide (a2 < (l0.length : Int)) = true := decide_eq_true c8
        clear c8
        by_cases c9 : ((rd_T46 l0 a2).f0).toList = ([114, 101, 112, 101, 97, 116] : List UInt8)
        ·rw [if_pos c9] at H
         obtain ⟨g0, g1⟩ := eqT c9
         clear c9
         obtain ⟨ji10, hji10⟩ : ∃ j_ : Int, (wrap64 ((a3.length : Int) - 1)) = j_ := ⟨_, rfl⟩
         replace H : (if 0 ≤ (ji10) then (if (ji10) < (a3.length : Int) then (if (ji10) ≤ (a3.length : Int) then ((impl_flat.f kj2 l0 (wrap64 (a2 + 1))).bind fun b0 => (impl_flat.l1 kj2 l0 (a3.take ((ji10) : Int).toNat) ((rd_T46 a3 (ji10)).f1) b0.1 b0.2)) else (none)) else (none)) else (none)) = some (r1, r2) := by first | (rw [hji10] at H; exact H) | (simp only [hji10] at H ⊢; exact H)
         have hji10w : (IntKind.i64.wrap ((a3.length : Int) - 1)) = ji10 := (i64_w _).trans hji10
         by_cases g2 : 0 ≤ (ji10)
         ·rw [if_pos g2] at H
          have g3 : decide (0 ≤ (ji10)) = true := decide_eq_true g2
          clear g2
          by_cases g4 : (ji10) < (a3.length : Int)
          ·rw [if_pos g4] at H
           have g5 : decide ((ji10) < (a3.length : Int)) = true := decide_eq_true g4
           clear g4
           by_cases f6 : (ji10) ≤ (a3.length : Int)
           ·rw [if_pos f6] at H
            have g6 := eq_true f6
            have g7 : decide ((ji10) ≤ (a3.length : Int)) = true := decide_eq_true f6
            clear f6
            obtain ⟨e2, hy_⟩ : ∃ y_ : List (S46), y_ = (a3.take ((ji10) : Int).toNat) := ⟨_, rfl⟩
            replace H : ((impl_flat.f kj2 l0 (wrap64 (a2 + 1))).bind fun b0 => (impl_flat.l1 kj2 l0 e2 ((rd_T46 a3 (ji10)).f1) b0.1 b0.2)) = some (r1, r2) := yS
            have Ny370 := aM hy_
            clear hy_
            replace H := bN H
            obtain ⟨⟨d2, e3⟩, k7, H⟩ := H
            have H' := aM H
            clear H
            have b1 : 0 ≤ (a2 : Int) := dA
            have b2 : a2 < (l0.length : Int) := dA
            obtain ⟨d6, f3, a6, a7⟩ := at_T46 f8.out a2 b1 b2
            cases f3
            replace a6 := cB HB a6
            replace a7 := cB HB a7
            replace b1 := eq_true b1
            replace b2 := eq_true b2
            obtain ⟨k9, g8, i9⟩ := Kd.R_slice a5.out
            subst i9
            have e4 : 0 ≤ ((ji10) : Int) := dA
            have e5 : (ji10) < (a3.length : Int) := dA
            obtain ⟨e9, j5, e6, e7⟩ := at_T46 (Kd.R_reads' a5.out).2.2 (ji10) e4 e5
            cases j5
            replace e4 := eq_true e4
            replace e5 := eq_true e5
            have g9 : ((ji10) : Int) ≤ ((a3.length : Int) : Int) := dA
            obtain ⟨i016, hi016, _, hsz16, _⟩ := info_parts info46
            have hcut16 := cut_to (P := Try.prog) 24 46 .i64 Try.underlying24 hi016 (some e9) a3.length g8 (ji10) (dA) g9 (Kd.R_reads' a5.out).2.1
            have e8 := Kd.R_take (m := ((ji10) : Int).toNat) a5.out (by omega)
            have hy16 : e2.length = ((ji10) : Int).toNat := (by rw [Ny370.out, List.length_take]; omega)
            rw [← Ny370.out] at e8
            rw [← hy16] at e8 hcut16
            clear hy16 hi016 hsz16 a5
            have b9 := aM e8
            clear e8
            replace g9 := eq_true g9
            go_wp2_with (first | ((with_reducible refine gC 16 ?_); refine cL (some 53) Try.func16 #[.slice (some d6) l0.length c0, .int .i64 (wrap64 (a2 + 1))] ?_; (with_reducible refine (ih kj2 (by have := e1.out; have := HJ2.out; omega) _ _ l0 (wrap64 (a2 + 1)) d2 e3 _ ?side1 ?side2 k7.out).mono ?_); (case side1 => exact cS (Kd.C_below f8.out HB.out)); (case side2 => exact k4.out); rintro e l9 ⟨j6, rfl, h0, hb⟩; refine ⟨_, rfl, ?_⟩; have h1 := aM (Kd.V_lower (Kd.V_mono (ok' := fun k_ => (w.heap.size ≤ k_) ∧ some k_ ≠ (.slice (some e9) e2.length g8 : Value).ownBlock) h0 (fun k_ hk_ => ⟨(Nat.le_trans (below_size bS) hk_), (Kd.fresh' (Kd.R_lt (rS b9)) k_ hk_)⟩)) (below_size bS)); replace b9 := rB b9 hb; replace HB := hB hb; (try clear hb h0)))
            go_loopg [6, 7] kj2 (fun kq v6 v7 w' => ∃ (d3 : List (S46)) (b6 : Int), v7 = .int .i64 b6 ∧ Aside0 (impl_flat.l1 kq l0 d3 b6 d2 e3 = some (r1, r2)) ∧ Aside0 (kq ≤ kj2) ∧ Aside0 (Kd.R k46 46 w' w.heap.size (fun k_ => (w.heap.size ≤ k_)) v6 d3) ∧ Aside0 (Kd.V k46 46 w' w.heap.size (fun k_ => (w.heap.size ≤ k_) ∧ some k_ ≠ (v6 : Value).ownBlock) j6 d2) ∧ Aside0 (Below w.heap.size w w'))
            case atStart => exact ⟨(e2), ((rd_T46 a3 (ji10)).f1), (by first | rfl | (simp; done) | (simp only [← hji10] <;> (first | rfl | simp)) | (simp [*]; done)), H', ⟨Nat.le_refl _⟩, ⟨rS b9⟩, ⟨vS [] h1⟩, ⟨bS⟩⟩
            case round =>
             clear H'
             try clear c1
             try clear q1
             try clear p2
             try clear p3
             try clear q3
             try clear k6
             try clear c4
             try clear b7
             try clear c5
             try clear f9
             try clear c6
             try clear p6
             try clear c7
             try clear i7
             try clear c8
             try clear i8
             try clear c9
             try clear g0
             try clear g1
             try clear g2
             try clear g3
             try clear g4
             try clear g5
             try clear f6
             try clear g6
             try clear g7
             try clear m0
             try clear g9
             try clear a8
             try clear a9
             try clear a6
             try clear a7
             try clear e6
             try clear e7
             try clear p2
             try clear p3
             try clear d4
             try clear b1
             try clear e4
             try clear g9
             try clear q3
             try clear d5
             try clear b2
             try clear e5
             obtain ⟨d3, b6, rfl, HA, i3, a5, e0, HB⟩ := hrel
             cases gk with
             | zero => exact absurd HA.out (by simp [impl_flat.l1])
             | succ k3 =>
              have H := HA.out
              clear HA
              simp only [impl_flat.l1] at H
              by_cases f7 : b6 > 0
              ·rw [if_pos f7] at H
               have h2 : decide (0 < b6) = true := decide_eq_true f7
               clear f7
               obtain ⟨LMc19, H⟩ := iL H
               obtain ⟨h3, hy_⟩ : ∃ y_ : List (S46), y_ = (d3 ++ d2) := ⟨_, rfl⟩
               replace H : (impl_flat.l1 k3 l0 h3 (wrap64 (b6 - 1)) d2 e3) = some (r1, r2) := yS
               have Ny377 := aM hy_
               clear hy_
               have H' := aM H
               clear H
               obtain ⟨l3, l4, j7⟩ := Kd.V_slice e0.out
               subst j7
               go_wp2_with (first | ((with_reducible refine gate_builtin (b := .append) (xs := #[.tmp 60, .tmp 61]) rfl ?_); at_builtin; refine Kd.R_append_rows k46 (w0 := w) w.heap.size rfl (.tmp 60) (.tmp 61) 24 46 (.agg #[(.string ⟨#[]⟩), (.int .i64 0)]) 24 rfl Try.underlying24 info46 rfl (by decide) (by omega) u6 d3 d2 _ _ _ (fun k_ => (w.heap.size ≤ k_)) (fun _ => False) rfl rfl ?aO ?aR (fun _ _ h => h) (fun _ h => h.elim) ?aF ?aB ?aS ?aL ?_; (case aR => exact cS (Kd.V_reads' e0.out).2.2); (case aB => exact bS); (case aF => exact (fun k_ hk => (Nat.le_trans (below_size bS) hk))); (case aO => exact (rS a5)); (case aS => exact (below_size bS)); (case aL => have := LMc19.out; (try dsimp only at this); omega); intro l5 m1 ho hb hg hat; rw [← Ny377.out] at ho; have h4 := aM (ho); replace e0 := aM (Kd.V_afterv (ok := (fun k_ => (w.heap.size ≤ k_))) (by (with_reducible repeat (first | apply Kd.V_alloc | apply Kd.V_drewN | apply Kd.V_drew)); exact e0.out) hg hat); replace HB := aM (hb); clear a5; clear ho hb hg hat))
               go_roundg k3
               case measure => have := e1.out; have := HJ2.out; have := i3.out; omega
               case rel => exact ⟨(h3), (wrap64 (b6 - 1)), fS, H', ⟨by have := e1.out; have := HJ2.out; have := i3.out; omega⟩, ⟨rS h4⟩, ⟨vS [] e0⟩, ⟨bS⟩⟩
              ·rw [if_neg f7] at H
               have h2 : decide (0 < b6) = false := decide_eq_false f7
               clear f7
               have H' := aM H
               clear H
               go_wp2
               go_roundg k3
               case measure => have := e1.out; have := HJ2.out; have := i3.out; omega
               case rel => exact ⟨(wrap64 (e3 + 1)), (d3), fS, H', ⟨by have := e1.out; have := HJ2.out; have := i3.out; omega⟩, ⟨rS a5⟩, ⟨bS⟩⟩
           ·rw [if_neg f6] at H
            exact absurd H (by simp)
          ·rw [if_neg g4] at H
           exact absurd H (by simp)
         ·rw [if_neg g2] at H
          exact absurd H (by simp)
        ·rw [if_neg c9] at H
         obtain ⟨g0, g1⟩ := eqF c9
         obtain ⟨LMc22, H⟩ := iL H
         obtain ⟨h5, hy_⟩ : ∃ y_ : List (S46), y_ = (a3 ++ [(⟨(rd_T46 l0 a2).f0, (rd_T46 l0 a2).f1⟩ : S46)]) := ⟨_, rfl⟩
         replace H : (impl_flat.l0 kj2 l0 (wrap64 (a2 + 1)) h5) = some (r1, r2) := yS
         have Ny366 := aM hy_
         clear hy_
         have H' := aM H
         clear H
         have b1 : 0 ≤ (a2 : Int) := dA
         have b2 : a2 < (l0.length : Int) := dA
         obtain ⟨d6, f3, a6, a7⟩ := at_T46 f8.out a2 b1 b2
         cases f3
         replace a6 := cB HB a6
         replace a7 := cB HB a7
         replace b1 := eq_true b1
         replace b2 := eq_true b2
         have f4 : 0 ≤ (a2 : Int) := dA
         have f5 : a2 < (l0.length : Int) := dA
         obtain ⟨h6, j8, d0, d1⟩ := at_T46 f8.out a2 f4 f5
         obtain rfl : d6 = h6 := (by injection j8)
         replace d0 := cB HB d0
         replace d1 := cB HB d1
         replace f4 := eq_true f4
         replace f5 := eq_true f5
         go_wp2_with (first | ((with_reducible refine gate_builtin (b := .append) (xs := #[.tmp 28, .tmp 33]) rfl ?_); at_builtin; refine Kd.R_append k46 (w0 := w) w.heap.size rfl (.tmp 28) (.tmp 33) 24 46 (.agg #[(.string ⟨#[]⟩), (.int .i64 0)]) 24 rfl Try.underlying24 info46 rfl (by decide) (by omega) u6 a3 (⟨(rd_T46 l0 a2).f0, (rd_T46 l0 a2).f1⟩ : S46) [.string ((rd_T46 l0 a2).f0), .int .i64 ((rd_T46 l0 a2).f1)] (fun k_ => (w.heap.size ≤ k_)) (fun _ => False) rfl rfl ?aP (fun _ hk => hk.elim) ?aF ?aO ?aB ?aS ?aL ?_; (case aP => exact k46_mkM _ _ _ (⟨(rd_T46 l0 a2).f0, (rd_T46 l0 a2).f1⟩ : S46)); (case aB => exact bS); (case aF => exact (fun k_ hk => (Nat.le_trans (below_size bS) hk))); (case aO => exact (rS a5)); (case aS => exact (below_size bS)); (case aL => have := LMc22.out; (try dsimp only at this); omega); intro l6 m2 ho hb hg hat; rw [← Ny366.out] at ho; have h7 := aM (ho); replace HB := aM (hb); clear a5; clear ho hb hg hat))
         go_roundg kj2
         case measure => have := e1.out; have := HJ2.out; omega
         case rel => exact ⟨(wrap64 (a2 + 1)), (h5), fS, H', ⟨by have := e1.out; have := HJ2.out; omega⟩, ⟨rS h7⟩, ⟨bS⟩⟩
       ·rw [if_neg c8] at H
        exact absurd H (by simp)
      ·rw [if_neg c7] at H
       exact absurd H (by simp)
     ·obtain rfl := Bool.eq_false_iff.mpr c6
      rw [if_neg nF] at H
      replace H := bN H
      obtain ⟨j9, l7, H⟩ := H
      obtain ⟨rfl, rfl⟩ := sI2 H
      obtain ⟨h8, h9, k0⟩ := Kd.R_slice a5.out
      subst k0
      go_wp2_with (first | ((with_reducible refine gC 35 ?_); refine cL (some 66) Try.func35 #[.slice h8 a3.length h9] ?_; (with_reducible refine (impl_Token.calls (fun k_ => some k_ = (.slice h8 a3.length h9 : Value).ownBlock) _ _ a3 j9 _ ?side1 l7.out).mono ?_); (case side1 => exact Kd.R_V (Kd.R_tight rfl (a5.out))); rintro e m3 ⟨l8, rfl, h0, hb⟩; refine ⟨_, rfl, ?_⟩; have i1 := aM (Kd.V_lower (Kd.V_mono (ok' := fun k_ => (w.heap.size ≤ k_)) h0 (fun k_ hk_ => Or.elim hk_ (fun hs_ => ((a5.out).1 k_ hs_.symm)) (fun hn_ => (Nat.le_trans (below_size bS) hn_)))) (below_size bS)); replace a5 := rB a5 hb; replace HB := hB hb; (try clear hb h0)))
      go_ret2
      exact ⟨_, eS, by (with_reducible repeat (first | apply Kd.V_alloc | apply Kd.V_drewN | apply Kd.V_drew)); exact i1.out, bS⟩

/-! ### impl_FlattenBlocks: function 7 -/
def impl_FlattenBlocks.f (k : Nat) (l0 : List (S46)) : Option ((List (S46)) × Bool) := (impl_BlocksOk.f k l0).bind fun a3 => (if a3 = true then ((impl_flat.f k l0 0).bind fun a2 => (if (a2.1.length : Int) > 200 then (some (([] : List (S46)), false)) else (some (a2.1, true)))) else (some (([] : List (S46)), false)))
theorem impl_FlattenBlocks.lf0 {p : Prop} (h : p := by
 go_enter Try.func7, Try.ntmps7
 go_wp2_with (first | ((with_reducible refine gC 15 ?_); refine cL (some 7) Try.func15 #[.slice A0 l0.length c0] ?_; (with_reducible refine (impl_BlocksOk.calls k _ _ l0 _ _ ?side1 ?side2 A2.out).mono ?_); (case side1 => exact cS a7.out); (case side2 => exact a8.out); rintro e w6 ⟨rfl, hb⟩; refine ⟨_, rfl, ?_⟩; replace HB := hB hb; (try clear hb)) | ((with_reducible refine gC 16 ?_); refine cM (some 11) Try.func16 (impl_flat.calls k _ _ l0 0 a2 a5 _ (cC a7 HB) a8.out A4.out) ?_; rintro e w7 ⟨a9, rfl, a6, hb⟩; refine ⟨_, rfl, ?_⟩; have a3 := aM (Kd.V_lower (Kd.V_mono (ok' := fun k_ => (w.heap.size ≤ k_)) a6 (fun k_ hk_ => (Nat.le_trans (below_size bS) hk_))) (below_size bS)); replace HB := hB hb; (try clear hb a6); obtain ⟨d1, d2, b8⟩ := Kd.V_slice a3.out; subst b8))
 go_ret2
 exact ⟨_, eS, Kd.V_nil _ _ _ _ _, bS⟩) : p := h
theorem impl_FlattenBlocks.calls (k : Nat) (A0 : Option Addr) (c0 : Nat) (l0 : List (S46)) (r1 : List (S46)) (r2 : Bool) (w : World) (hr0 : Kd.C k46 w A0 l0.length l0) (b7 : l0.length ≤ c0) (h : impl_FlattenBlocks.f k l0 = some (r1, r2)) :
  Calls Try.prog 7 #[.slice A0 l0.length c0] w fun e w' => ∃ v0_ : Value, e = .returned (.tuple #[v0_, .bool r2]) ∧ Kd.V k46 46 w' w.heap.size (fun k_ => (w.heap.size ≤ k_)) v0_ r1 ∧ Below w.heap.size w w' := by
 have a7 := aM hr0
 have a8 := aM b7
 clear hr0 b7
 have HB := aM (Below.refl w.heap.size w)
 have H := h
 clear h
 unfold impl_FlattenBlocks.f at H
 replace H := bN H
 obtain ⟨b0, A2, H⟩ := H
 by_cases c3 : b0 = true
 ·subst c3
  rw [if_pos rfl] at H
  replace H := bN H
  obtain ⟨⟨a2, a5⟩, A4, H⟩ := H
  by_cases c5 : (a2.length : Int) > 200
  ·rw [if_pos c5] at H
   have b1 : decide (200 < (a2.length : Int)) = true := decide_eq_true c5
   have b2 : decide (200 < a2.length) = true := decide_eq_true (by omega)
   clear c5
   obtain ⟨rfl, rfl⟩ := sI2 H
   exact impl_FlattenBlocks.lf0
  ·rw [if_neg c5] at H
   have b1 : decide (200 < (a2.length : Int)) = false := decide_eq_false c5
   have b2 : decide (200 < a2.length) = false := decide_eq_false (by omega)
   clear c5
   obtain ⟨rfl, rfl⟩ := sI2 H
   go_enter Try.func7, Try.ntmps7
   go_wp2_with (first | ((with_reducible refine gC 15 ?_); refine cL (some 7) Try.func15 #[.slice A0 l0.length c0] ?_; (with_reducible refine (impl_BlocksOk.calls k _ _ l0 _ _ ?side1 ?side2 A2.out).mono ?_); (case side1 => exact cS a7.out); (case side2 => exact a8.out); rintro e w9 ⟨rfl, hb⟩; refine ⟨_, rfl, ?_⟩; replace HB := hB hb; (try clear hb)) | ((with_reducible refine gC 16 ?_); refine cM (some 11) Try.func16 (impl_flat.calls k _ _ l0 0 a2 a5 _ (cC a7 HB) a8.out A4.out) ?_; rintro e d3 ⟨a9, rfl, a6, hb⟩; refine ⟨_, rfl, ?_⟩; have a3 := aM (Kd.V_lower (Kd.V_mono (ok' := fun k_ => (w.heap.size ≤ k_)) a6 (fun k_ hk_ => (Nat.le_trans (below_size bS) hk_))) (below_size bS)); replace HB := hB hb; (try clear hb a6); obtain ⟨b9, d0, b6⟩ := Kd.V_slice a3.out; subst b6))
   go_ret2
   exact ⟨_, eS, by (with_reducible repeat (first | apply Kd.V_alloc | apply Kd.V_drewN | apply Kd.V_drew)); exact a3.out, bS⟩
 ·obtain rfl := Bool.eq_false_iff.mpr c3
  rw [if_neg nF] at H
  obtain ⟨rfl, rfl⟩ := sI2 H
  exact impl_FlattenBlocks.lf0

/-! ### impl_Identity: function 17 -/
def impl_Identity.f  : Option (Int × Int × Int × Int) := some (0, 1, 0, 0)
theorem impl_Identity.calls  (r1 : Int) (r2 : Int) (r3 : Int) (r4 : Int) (w : World) (h : impl_Identity.f  = some (r1, r2, r3, r4)) :
  Calls Try.prog 17 #[] w fun e w' => e = .returned (.agg #[.int .i64 r1, .int .i64 r2, .int .i64 r3, .int .i64 r4]) ∧ Below w.heap.size w w' := by
 have hu28 := Try.underlying28
 have HB := aM (Below.refl w.heap.size w)
 have H := h
 clear h
 unfold impl_Identity.f at H
 obtain ⟨rfl, rfl, rfl, rfl⟩ := sI4 H
 go_enter Try.func17, Try.ntmps17
 go_wp2_with (first | ((with_reducible refine gD 0 ?_); refine bxE #[.int .i64 0, .int .i64 0, .int .i64 0, .int .i64 0] 28 ?_; intro a2 hg w1 a3 hb; have GE385 := gE hg; replace HB := hB hb; clear hb hg; have hz2 := cz4 a3))
 refine bodyPost_ret (results_cell_row rfl _ _ a2 28 #[.int .i64 0, .int .i64 1, .int .i64 0, .int .i64 0] (0, 0) _ rfl kS Try.underlying28 rfl (by kernel_rfl)) rfl ?_
 exact ⟨eS, bS⟩

/-! ### impl_pageBox: function 18 -/
def impl_pageBox.f  : Option (Int × Int × Int × Int) := some (0, 0, 32, 32)
theorem impl_pageBox.calls  (r1 : Int) (r2 : Int) (r3 : Int) (r4 : Int) (w : World) (h : impl_pageBox.f  = some (r1, r2, r3, r4)) :
  Calls Try.prog 18 #[] w fun e w' => e = .returned (.agg #[.int .i64 r1, .int .i64 r2, .int .i64 r3, .int .i64 r4]) ∧ Below w.heap.size w w' := by
 have hu31 := Try.underlying31
 have HB := aM (Below.refl w.heap.size w)
 have H := h
 clear h
 unfold impl_pageBox.f at H
 obtain ⟨rfl, rfl, rfl, rfl⟩ := sI4 H
 go_enter Try.func18, Try.ntmps18
 go_wp2_with (first | ((with_reducible refine gD 0 ?_); refine bxE #[.int .i64 0, .int .i64 0, .int .i64 0, .int .i64 0] 31 ?_; intro a2 hg w1 a3 hb; have GE386 := gE hg; replace HB := hB hb; clear hb hg; have hz2 := cz4 a3))
 refine bodyPost_ret (results_cell_row rfl _ _ a2 31 #[.int .i64 0, .int .i64 0, .int .i64 32, .int .i64 32] (0, 0) _ rfl kS Try.underlying31 rfl (by kernel_rfl)) rfl ?_
 exact ⟨eS, bS⟩

/-! ### impl_NewPage: function 8 -/
def impl_NewPage.f  : Option (List Int × Int × Int × Int × Int × (List (S90)) × Int × Int × Int × Int × Int × (List (S33)) × (List (S82))) := (impl_Identity.f).bind fun a2 => ((impl_pageBox.f).bind fun a3 => (some (([] : List Int), a2.1, a2.2.1, a2.2.2.1, a2.2.2.2, ([] : List (S90)), 0, a3.1, a3.2.1, a3.2.2.1, a3.2.2.2, ([] : List (S33)), ([] : List (S82)))))
theorem impl_NewPage.calls  (r1 : List Int) (r2 : Int) (r3 : Int) (r4 : Int) (r5 : Int) (r6 : List (S90)) (r7 : Int) (r8 : Int) (r9 : Int) (b6 : Int) (b7 : Int) (b8 : List (S33)) (b9 : List (S82)) (w : World) (h : impl_NewPage.f  = some (r1, r2, r3, r4, r5, r6, r7, r8, r9, b6, b7, b8, b9)) :
  Calls Try.prog 8 #[] w fun e w' => ∃ v0_ v5_ v11_ v12_ : Value, e = .returned (.agg #[v0_, .int .i64 r2, .int .i64 r3, .int .i64 r4, .int .i64 r5, v5_, .int .i64 r7, .int .i64 r8, .int .i64 r9, .int .i64 b6, .int .i64 b7, v11_, v12_]) ∧ Kd.R (Kd.int .i64) 3 w' w.heap.size (fun _ => True) v0_ r1 ∧ Kd.R k90 90 w' w.heap.size (fun _ => True) v5_ r6 ∧ Kd.S k33 33 w' w.heap.size (fun k_ => some k_ ≠ (v0_ : Value).ownBlock ∧ some k_ ≠ (v5_ : Value).ownBlock) v11_ b8 ∧ Kd.S k82 82 w' w.heap.size (fun k_ => some k_ ≠ (v5_ : Value).ownBlock) v12_ b9 ∧ Below w.heap.size w w' := by
 have hu37 := Try.underlying37
 have hu33 := Try.underlying33
 have HB := aM (Below.refl w.heap.size w)
 have H := h
 clear h
 unfold impl_NewPage.f at H
 replace H := bN H
 obtain ⟨⟨a5, a6, a7, a8⟩, A1, H⟩ := H
 replace H := bN H
 obtain ⟨⟨a9, b0, b1, b2⟩, A2, H⟩ := H
 simp only [Option.some.injEq, Prod.mk.injEq] at H
 obtain ⟨rfl, rfl, rfl, rfl, rfl, rfl, rfl, rfl, rfl, rfl, rfl, rfl, rfl⟩ := H
 go_enter Try.func8, Try.ntmps8
 go_wp2_with (first | ((with_reducible refine gD 0 ?_); refine bxE #[.slice none 0 0, .int .i64 0, .int .i64 0, .int .i64 0, .int .i64 0, .slice none 0 0, .int .i64 0, .int .i64 0, .int .i64 0, .int .i64 0, .int .i64 0, .slice none 0 0, .slice none 0 0] 37 ?_; intro a2 hg w3 a3 hb; have GE387 := gE hg; replace HB := hB hb; clear hb hg) | ((with_reducible refine gC 17 ?_); refine cM (some 1) Try.func17 (impl_Identity.calls  a5 a6 a7 a8 _ A1.out) ?_; rintro e w4 ⟨rfl, hb⟩; refine ⟨_, rfl, ?_⟩; replace a3 := kB_ a2 hb; replace HB := hB hb; (try clear hb)) | ((with_reducible refine gC 18 ?_); refine cM (some 2) Try.func18 (impl_pageBox.calls  a9 b0 b1 b2 _ A2.out) ?_; rintro e w5 ⟨rfl, hb⟩; refine ⟨_, rfl, ?_⟩; replace a3 := kB_ a2 hb; replace HB := hB hb; (try clear hb); have hz6 := cz13 a3))
 refine bodyPost_ret (results_cell_row rfl _ _ a2 37 #[.slice none 0 0, .int .i64 a5, .int .i64 a6, .int .i64 a7, .int .i64 a8, .slice none 0 0, .int .i64 0, .int .i64 a9, .int .i64 b0, .int .i64 b1, .int .i64 b2, .slice none 0 0, .slice none 0 0] (0, 0) _ rfl kS Try.underlying37 rfl (by kernel_rfl)) rfl ?_
 exact ⟨_, _, _, _, eS, by first | exact Kd.R_nil _ _ _ _ _ | exact Kd.N_nil _ _ _ _ _ | exact Kd.V_nil _ _ _ _ _ | exact Kd.Q_nil _ _ _ _ _ | exact Kd.S_nil _ _ _ _ _, by first | exact Kd.R_nil _ _ _ _ _ | exact Kd.N_nil _ _ _ _ _ | exact Kd.V_nil _ _ _ _ _ | exact Kd.Q_nil _ _ _ _ _ | exact Kd.S_nil _ _ _ _ _, by first | exact Kd.S_nil _ _ _ _ _ | exact Kd.N_nil _ _ _ _ _ | exact Kd.V_nil _ _ _ _ _ | exact Kd.Q_nil _ _ _ _ _ | exact Kd.R_nil _ _ _ _ _, by first | exact Kd.S_nil _ _ _ _ _ | exact Kd.N_nil _ _ _ _ _ | exact Kd.V_nil _ _ _ _ _ | exact Kd.Q_nil _ _ _ _ _ | exact Kd.R_nil _ _ _ _ _, bS⟩

/-! ### impl_StackOk: function 42 -/
def impl_StackOk.l0 : Nat → List Int → Int → Int → Option (Bool)
 | 0, _, _, _ => none
 | k + 1, x8, x9, x10 => if x10 < x9 then (if 0 ≤ x10 then (if x10 < (x8.length : Int) then ((impl_within.f (rd x8 x10) (-9999) 9999).bind fun a2 => (if a2 = true then (impl_StackOk.l0 k x8 x9 (wrap64 (x10 + 1))) else (some false))) else (none)) else (none)) else (some true)
def impl_StackOk.f (k : Nat) (l0 : List Int) : Option (Bool) := if (l0.length : Int) > 12 then (some false) else (impl_StackOk.l0 k l0 (l0.length : Int) 0)
theorem impl_StackOk.calls (k : Nat) (A0 : Option Addr) (c0 : Nat) (l0 : List Int) (r : Bool) (w : World) (hr0 : Kd.C (Kd.int .i64) w A0 l0.length l0) (b6 : l0.length ≤ c0) (h : impl_StackOk.f k l0 = some r) :
  Calls Try.prog 42 #[.slice A0 l0.length c0] w fun e w' => e = .returned (.bool r) ∧ Drawn0 w w' := by
 have b7 := aM hr0
 have d2 := aM b6
 clear hr0 b6
 have H := h
 clear h
 unfold impl_StackOk.f at H
 by_cases c2 : (l0.length : Int) > 12
 ·rw [if_pos c2] at H
  have a8 : decide (12 < (l0.length : Int)) = true := decide_eq_true c2
  have a9 : decide (12 < l0.length) = true := decide_eq_true (by omega)
  clear c2
  obtain rfl := Option.some.inj H
  go_enter Try.func42, Try.ntmps42
  go_wp2
  go_ret
  exact ⟨fS, dS⟩
 ·rw [if_neg c2] at H
  have a8 : decide (12 < (l0.length : Int)) = false := decide_eq_false c2
  have a9 : decide (12 < l0.length) = false := decide_eq_false (by omega)
  clear c2
  have H' := aM H
  clear H
  go_enter Try.func42, Try.ntmps42
  go_wp2
  go_loopg [10] k (fun kq b9 w' => ∃ (a2 : Int), b9 = .int .i64 a2 ∧ Aside0 (impl_StackOk.l0 kq l0 (l0.length : Int) a2 = some r) ∧ Aside0 (kq ≤ k) ∧ Drawn0 w w')
  case atStart => exact ⟨(0), fS, H', ⟨Nat.le_refl _⟩, dS⟩
  case round =>
   clear H'
   try clear c2
   try clear a8
   try clear a9
   try clear p2
   obtain ⟨a2, rfl, HA, b8, ⟨m1, rfl⟩⟩ := hrel
   cases gk with
   | zero => exact absurd HA.out (by simp [impl_StackOk.l0])
   | succ k1 =>
    have H := HA.out
    clear HA
    simp only [impl_StackOk.l0] at H
    rcases iD H with ⟨b1, H⟩ | ⟨b1, H⟩
    ·obtain ⟨d0, H⟩ := iT H
     obtain ⟨d1, H⟩ := iT H
     replace H := bN H
     obtain ⟨b2, A6, H⟩ := H
     by_cases c7 : b2 = true
     ·subst c7
      rw [if_pos rfl] at H
      have H' := aM H
      clear H
      have a3 : 0 ≤ (a2 : Int) := dA
      have a5 : a2 < (l0.length : Int) := dA
      obtain ⟨b0, a7, a6⟩ := Kd.at_int b7.out a2 a3 a5
      cases a7
      replace a3 := eq_true a3
      replace a5 := eq_true a5
      go_wp2_with (first | ((with_reducible refine gC 34 ?_); refine cM (some 15) Try.func34 (impl_within.calls (rd l0 a2) (-9999) 9999 _ _ A6.out) ?_; rintro e w' ⟨rfl, ⟨nd, rfl⟩⟩; refine ⟨_, rfl, ?_⟩))
      go_roundg k1
      case measure => have := b8.out; omega
      case rel => exact ⟨(wrap64 (a2 + 1)), fS, H', ⟨by have := b8.out; omega⟩, dS⟩
     ·obtain rfl := Bool.eq_false_iff.mpr c7
      rw [if_neg nF] at H
      obtain rfl := Option.some.inj H
      have a3 : 0 ≤ (a2 : Int) := dA
      have a5 : a2 < (l0.length : Int) := dA
      obtain ⟨b0, a7, a6⟩ := Kd.at_int b7.out a2 a3 a5
      cases a7
      replace a3 := eq_true a3
      replace a5 := eq_true a5
      go_wp2_with (first | ((with_reducible refine gC 34 ?_); refine cM (some 15) Try.func34 (impl_within.calls (rd l0 a2) (-9999) 9999 _ _ A6.out) ?_; rintro e w' ⟨rfl, ⟨nd, rfl⟩⟩; refine ⟨_, rfl, ?_⟩))
      go_ret
      exact ⟨fS, dS⟩
    ·obtain rfl := Option.some.inj H
     go_wp2
     go_ret
     exact ⟨fS, dS⟩

/-! ### impl_coordOk: function 56 -/
def impl_coordOk.f (a0 : Int) : Option (Bool) := (impl_within.f a0 (-200) 200).bind fun a2 => (some a2)
theorem impl_coordOk.calls (a0 : Int) (r : Bool) (w : World) (h : impl_coordOk.f a0 = some r) :
  Calls Try.prog 56 #[.int .i64 a0] w fun e w' => e = .returned (.bool r) ∧ Drawn0 w w' := by
 have H := h
 clear h
 unfold impl_coordOk.f at H
 replace H := bN H
 obtain ⟨a2, A2, H⟩ := H
 obtain rfl := Option.some.inj H
 go_enter Try.func56, Try.ntmps56
 go_wp2_with (first | ((with_reducible refine gC 34 ?_); refine cM (some 4) Try.func34 (impl_within.calls a0 (-200) 200 a2 _ A2.out) ?_; rintro e w' ⟨rfl, ⟨nd, rfl⟩⟩; refine ⟨_, rfl, ?_⟩))
 go_ret
 exact ⟨fS, dS⟩

/-! ### impl_TurnOk: function 50 -/
def impl_TurnOk.f (a2 : Int) (a3 : Int) (a5 : Int) (a6 : Int) : Option (Bool) := (impl_within.f a2 0 3).bind fun a7 => (if a7 = true then ((impl_within.f a3 1 4).bind fun a8 => (if a8 = true then ((impl_coordOk.f a5).bind fun a9 => (if a9 = true then ((impl_coordOk.f a6).bind fun b0 => (some b0)) else (some false))) else (some false))) else (some false))
theorem impl_TurnOk.lf0 {p : Prop} (h : p := by
 go_enter Try.func50, Try.ntmps50
 go_wp2_with (first | ((with_reducible refine gD 1 ?_); refine bxE #[.int .i64 a2, .int .i64 a3, .int .i64 a5, .int .i64 a6] 28 ?_; intro b2 hg w9 a7 hb; have GE399 := gE hg; replace HB := hB hb; clear hb hg; have hz10 := cz4 a7) | ((with_reducible refine gC 34 ?_); refine cM (some 5) Try.func34 (impl_within.calls a2 0 3 _ _ A2.out) ?_; rintro e w' ⟨rfl, ⟨nd, rfl⟩⟩; refine ⟨_, rfl, ?_⟩) | (go_at_call 34; (with_reducible refine (impl_within.calls a3 1 4 _ _ A4.out).mono ?_); rintro e w' ⟨rfl, ⟨nd, rfl⟩⟩) | (go_at_call 56; (with_reducible refine (impl_coordOk.calls a5 _ _ A6.out).mono ?_); rintro e w' ⟨rfl, ⟨nd, rfl⟩⟩) | (go_at_call 56; (with_reducible refine (impl_coordOk.calls a6 a8 _ A8.out).mono ?_); rintro e w' ⟨rfl, ⟨nd, rfl⟩⟩))
 go_ret
 exact ⟨eS, bS⟩) : p := h
theorem impl_TurnOk.calls (a2 : Int) (a3 : Int) (a5 : Int) (a6 : Int) (r : Bool) (w : World) (h : impl_TurnOk.f a2 a3 a5 a6 = some r) :
  Calls Try.prog 50 #[.agg #[.int .i64 a2, .int .i64 a3, .int .i64 a5, .int .i64 a6]] w fun e w' => e = .returned (.bool r) ∧ Below w.heap.size w w' := by
 have hu28 := Try.underlying28
 have HB := aM (Below.refl w.heap.size w)
 have H := h
 clear h
 unfold impl_TurnOk.f at H
 replace H := bN H
 obtain ⟨a9, A2, H⟩ := H
 by_cases c3 : a9 = true
 ·subst c3
  rw [if_pos rfl] at H
  replace H := bN H
  obtain ⟨b0, A4, H⟩ := H
  by_cases c5 : b0 = true
  ·subst c5
   rw [if_pos rfl] at H
   replace H := bN H
   obtain ⟨b1, A6, H⟩ := H
   by_cases c7 : b1 = true
   ·subst c7
    rw [if_pos rfl] at H
    replace H := bN H
    obtain ⟨a8, A8, H⟩ := H
    obtain rfl := Option.some.inj H
    exact impl_TurnOk.lf0
   ·obtain rfl := Bool.eq_false_iff.mpr c7
    rw [if_neg nF] at H
    obtain rfl := Option.some.inj H
    exact impl_TurnOk.lf0
  ·obtain rfl := Bool.eq_false_iff.mpr c5
   rw [if_neg nF] at H
   obtain rfl := Option.some.inj H
   exact impl_TurnOk.lf0
 ·obtain rfl := Bool.eq_false_iff.mpr c3
  rw [if_neg nF] at H
  obtain rfl := Option.some.inj H
  exact impl_TurnOk.lf0

/-! ### impl_BoxOk: function 51 -/
def impl_BoxOk.f (a2 : Int) (a3 : Int) (a5 : Int) (a6 : Int) : Option (Bool) := (impl_coordOk.f a2).bind fun a7 => (if a7 = true then ((impl_coordOk.f a3).bind fun a8 => (if a8 = true then ((impl_coordOk.f a5).bind fun a9 => (if a9 = true then ((impl_coordOk.f a6).bind fun b0 => (if b0 = true then (if a2 ≤ a5 then (some (decide (a3 ≤ a6))) else (some false)) else (some false))) else (some false))) else (some false))) else (some false))
theorem impl_BoxOk.lf0 {p : Prop} (h : p := by
 go_enter Try.func51, Try.ntmps51
 go_wp2_with (first | ((with_reducible refine gD 1 ?_); refine bxE #[.int .i64 a2, .int .i64 a3, .int .i64 a5, .int .i64 a6] 31 ?_; intro b6 hg b7 a7 hb; have GE404 := gE hg; replace HB := hB hb; clear hb hg; have hz12 := cz4 a7) | ((with_reducible refine gC 56 ?_); refine cM (some 5) Try.func56 (impl_coordOk.calls a2 _ _ A2.out) ?_; rintro e w' ⟨rfl, ⟨nd, rfl⟩⟩; refine ⟨_, rfl, ?_⟩) | (go_at_call 56; (with_reducible refine (impl_coordOk.calls a3 _ _ A4.out).mono ?_); rintro e w' ⟨rfl, ⟨nd, rfl⟩⟩) | (go_at_call 56; (with_reducible refine (impl_coordOk.calls a5 _ _ A6.out).mono ?_); rintro e w' ⟨rfl, ⟨nd, rfl⟩⟩) | (go_at_call 56; (with_reducible refine (impl_coordOk.calls a6 _ _ A8.out).mono ?_); rintro e w' ⟨rfl, ⟨nd, rfl⟩⟩))
 go_ret
 exact ⟨eS, bS⟩) : p := h
theorem impl_BoxOk.calls (a2 : Int) (a3 : Int) (a5 : Int) (a6 : Int) (r : Bool) (w : World) (h : impl_BoxOk.f a2 a3 a5 a6 = some r) :
  Calls Try.prog 51 #[.agg #[.int .i64 a2, .int .i64 a3, .int .i64 a5, .int .i64 a6]] w fun e w' => e = .returned (.bool r) ∧ Below w.heap.size w w' := by
 have hu31 := Try.underlying31
 have HB := aM (Below.refl w.heap.size w)
 have H := h
 clear h
 unfold impl_BoxOk.f at H
 replace H := bN H
 obtain ⟨a9, A2, H⟩ := H
 by_cases c3 : a9 = true
 ·subst c3
  rw [if_pos rfl] at H
  replace H := bN H
  obtain ⟨b0, A4, H⟩ := H
  by_cases c5 : b0 = true
  ·subst c5
   rw [if_pos rfl] at H
   replace H := bN H
   obtain ⟨b1, A6, H⟩ := H
   by_cases c7 : b1 = true
   ·subst c7
    rw [if_pos rfl] at H
    replace H := bN H
    obtain ⟨b2, A8, H⟩ := H
    by_cases c9 : b2 = true
    ·subst c9
     rw [if_pos rfl] at H
     rcases iD H with ⟨a8, H⟩ | ⟨a8, H⟩
     ·obtain rfl := Option.some.inj H
      exact impl_BoxOk.lf0
     ·obtain rfl := Option.some.inj H
      exact impl_BoxOk.lf0
    ·obtain rfl := Bool.eq_false_iff.mpr c9
     rw [if_neg nF] at H
     obtain rfl := Option.some.inj H
     exact impl_BoxOk.lf0
   ·obtain rfl := Bool.eq_false_iff.mpr c7
    rw [if_neg nF] at H
    obtain rfl := Option.some.inj H
    exact impl_BoxOk.lf0
  ·obtain rfl := Bool.eq_false_iff.mpr c5
   rw [if_neg nF] at H
   obtain rfl := Option.some.inj H
   exact impl_BoxOk.lf0
 ·obtain rfl := Bool.eq_false_iff.mpr c3
  rw [if_neg nF] at H
  obtain rfl := Option.some.inj H
  exact impl_BoxOk.lf0

/-! ### impl_PointOk: function 57 -/
def impl_PointOk.f (a2 : Int) (a3 : Int) : Option (Bool) := (impl_coordOk.f a2).bind fun a5 => (if a5 = true then ((impl_coordOk.f a3).bind fun a6 => (some a6)) else (some false))
theorem impl_PointOk.lf0 {p : Prop} (h : p := by
 go_enter Try.func57, Try.ntmps57
 go_wp2_with (first | ((with_reducible refine gD 1 ?_); refine bxE #[.int .i64 a2, .int .i64 a3] 90 ?_; intro a8 hg w5 a5 hb; have GE409 := gE hg; replace HB := hB hb; clear hb hg; have hz6 := cz2 a5) | ((with_reducible refine gC 56 ?_); refine cM (some 5) Try.func56 (impl_coordOk.calls a2 _ _ A2.out) ?_; rintro e w' ⟨rfl, ⟨nd, rfl⟩⟩; refine ⟨_, rfl, ?_⟩) | (go_at_call 56; (with_reducible refine (impl_coordOk.calls a3 a6 _ A4.out).mono ?_); rintro e w' ⟨rfl, ⟨nd, rfl⟩⟩))
 go_ret
 exact ⟨eS, bS⟩) : p := h
theorem impl_PointOk.calls (a2 : Int) (a3 : Int) (r : Bool) (w : World) (h : impl_PointOk.f a2 a3 = some r) :
  Calls Try.prog 57 #[.agg #[.int .i64 a2, .int .i64 a3]] w fun e w' => e = .returned (.bool r) ∧ Below w.heap.size w w' := by
 have hu90 := Try.underlying90
 have HB := aM (Below.refl w.heap.size w)
 have H := h
 clear h
 unfold impl_PointOk.f at H
 replace H := bN H
 obtain ⟨a7, A2, H⟩ := H
 by_cases c3 : a7 = true
 ·subst c3
  rw [if_pos rfl] at H
  replace H := bN H
  obtain ⟨a6, A4, H⟩ := H
  obtain rfl := Option.some.inj H
  exact impl_PointOk.lf0
 ·obtain rfl := Bool.eq_false_iff.mpr c3
  rw [if_neg nF] at H
  obtain rfl := Option.some.inj H
  exact impl_PointOk.lf0

end Go.Proofs.Ytpickbenfkcpmaa.QFnRuns7
