-- Made out of the translation by a program of this session (a changed copy of the print). Not trusted: Lean checks it.
import Derived.Test.YtjodcfjaedhpeaaQFnPagesx0
import Derived.Test.YtjodcfjaedhpeaaQFnPagesx13
import Derived.Test.YtjodcfjaedhpeaaQFnPagesx14
import Derived.Test.YtjodcfjaedhpeaaQFnPagesx15
import Derived.Test.YtjodcfjaedhpeaaQFnPagesx16
namespace Go.Proofs.Ytjodcfjaedhpeaa.QFnPages
open Go.RowKit Go.Proofs.YtjodcfjaedhpeaaW.PrintWords Go.Proofs.YtjodcfjaedhpeaaW.PrintLast Go.Proofs.YtjodcfjaedhpeaaW.PrintMore
attribute [local go_sem] max2_int min2_int max_two min_two max_three min_three max_four min_four   -- for this text's walks alone
set_option linter.unusedVariables false
set_option linter.unusedSimpArgs false
set_option maxHeartbeats 8000000
set_option maxRecDepth 100000

/-! ### impl_ExecToken: function 6 -/
mutual
def impl_ExecToken.j0 : Nat → Bool → List Int → Int → Int → Int → Int → List (S80) → Int → Int → Int → Int → Int → List (S31) → List (S60) → ByteArray → Int → Option (List Int × Int × Int × Int × Int × (List (S80)) × Int × Int × Int × Int × Int × (List (S31)) × (List (S60)) × Bool)
 | 0, _, _, _, _, _, _, _, _, _, _, _, _, _, _, _, _ => none
 | k + 1, g2, a3, a5, a6, a7, a8, a9, b0, b1, b2, b6, b7, b8, b9, d0, f7 => if g2 = true then ((impl_copyPage.f k a3 a5 a6 a7 a8 a9 b0 b1 b2 b6 b7 b8 b9).bind fun d1 => (some (d1.1, d1.2.1, d1.2.2.1, d1.2.2.2.1, d1.2.2.2.2.1, d1.2.2.2.2.2.1, d1.2.2.2.2.2.2.1, d1.2.2.2.2.2.2.2.1, d1.2.2.2.2.2.2.2.2.1, d1.2.2.2.2.2.2.2.2.2.1, d1.2.2.2.2.2.2.2.2.2.2.1, d1.2.2.2.2.2.2.2.2.2.2.2.1, d1.2.2.2.2.2.2.2.2.2.2.2.2, false))) else ((impl_copyPage.f k a3 a5 a6 a7 a8 a9 b0 b1 b2 b6 b7 b8 b9).bind fun a2 => ((impl_taken.f k d0).bind fun f8 => (if d0.toList = ([] : List UInt8) then ((impl_PushNumber.f k a2.1 f7).bind fun f9 => (impl_ExecToken.j1 k f9.2 a3 a5 a6 a7 a8 a9 b0 b1 b2 b6 b7 b8 b9 f9.1 a2.2.1 a2.2.2.1 a2.2.2.2.1 a2.2.2.2.2.1 a2.2.2.2.2.2.1 a2.2.2.2.2.2.2.1 a2.2.2.2.2.2.2.2.1 a2.2.2.2.2.2.2.2.2.1 a2.2.2.2.2.2.2.2.2.2.1 a2.2.2.2.2.2.2.2.2.2.2.1 a2.2.2.2.2.2.2.2.2.2.2.2.1 a2.2.2.2.2.2.2.2.2.2.2.2.2)) else ((impl_IsStackOp.f d0).bind fun g0 => (if g0 = true then (none) else (if f8.2 = true then ((impl_TakeNumbers.f k a2.1 f8.1).bind fun d5 => (if d5.2.2 = true then (if d0.toList = ([110, 101, 119] : List UInt8) then (none) else (if d0.toList = ([109, 111, 118, 101, 116, 111] : List UInt8) then (none) else (if d0.toList = ([108, 105, 110, 101, 116, 111] : List UInt8) then (none) else (if d0.toList = ([114, 101, 99, 116] : List UInt8) then (none) else (if d0.toList = ([102, 105, 108, 108] : List UInt8) then (none) else (if d0.toList = ([103, 114, 97, 121] : List UInt8) then (if 0 < (d5.2.1.length : Int) then (impl_ExecToken.j1 k true a3 a5 a6 a7 a8 a9 b0 b1 b2 b6 b7 b8 b9 d5.1 a2.2.1 a2.2.2.1 a2.2.2.2.1 a2.2.2.2.2.1 a2.2.2.2.2.2.1 (rd d5.2.1 0) a2.2.2.2.2.2.2.2.1 a2.2.2.2.2.2.2.2.2.1 a2.2.2.2.2.2.2.2.2.2.1 a2.2.2.2.2.2.2.2.2.2.2.1 a2.2.2.2.2.2.2.2.2.2.2.2.1 a2.2.2.2.2.2.2.2.2.2.2.2.2) else (none)) else (if d0.toList = ([99, 108, 105, 112] : List UInt8) then (none) else (if d0.toList = ([115, 97, 118, 101] : List UInt8) then ((impl_copyGraphics.f d5.1 a2.2.1 a2.2.2.1 a2.2.2.2.1 a2.2.2.2.2.1 a2.2.2.2.2.2.1 a2.2.2.2.2.2.2.1 a2.2.2.2.2.2.2.2.1 a2.2.2.2.2.2.2.2.2.1 a2.2.2.2.2.2.2.2.2.2.1 a2.2.2.2.2.2.2.2.2.2.2.1).bind fun d4 => (if a2.2.2.2.2.2.2.2.2.2.2.2.1.length < 1172812402961 then (impl_ExecToken.j1 k true a3 a5 a6 a7 a8 a9 b0 b1 b2 b6 b7 b8 b9 d5.1 a2.2.1 a2.2.2.1 a2.2.2.2.1 a2.2.2.2.2.1 a2.2.2.2.2.2.1 a2.2.2.2.2.2.2.1 a2.2.2.2.2.2.2.2.1 a2.2.2.2.2.2.2.2.2.1 a2.2.2.2.2.2.2.2.2.2.1 a2.2.2.2.2.2.2.2.2.2.2.1 (a2.2.2.2.2.2.2.2.2.2.2.2.1 ++ [(⟨d4.1, (⟨d4.2.1, d4.2.2.1, d4.2.2.2.1, d4.2.2.2.2.1⟩ : S26), d4.2.2.2.2.2.1, d4.2.2.2.2.2.2.1, (⟨d4.2.2.2.2.2.2.2.1, d4.2.2.2.2.2.2.2.2.1, d4.2.2.2.2.2.2.2.2.2.1, d4.2.2.2.2.2.2.2.2.2.2⟩ : S29)⟩ : S31)]) a2.2.2.2.2.2.2.2.2.2.2.2.2) else (none))) else (if d0.toList = ([114, 101, 115, 116, 111, 114, 101] : List UInt8) then (if (a2.2.2.2.2.2.2.2.2.2.2.2.1.length : Int) = 0 then (impl_ExecToken.j1 k false a3 a5 a6 a7 a8 a9 b0 b1 b2 b6 b7 b8 b9 d5.1 a2.2.1 a2.2.2.1 a2.2.2.2.1 a2.2.2.2.2.1 a2.2.2.2.2.2.1 a2.2.2.2.2.2.2.1 a2.2.2.2.2.2.2.2.1 a2.2.2.2.2.2.2.2.2.1 a2.2.2.2.2.2.2.2.2.2.1 a2.2.2.2.2.2.2.2.2.2.2.1 a2.2.2.2.2.2.2.2.2.2.2.2.1 a2.2.2.2.2.2.2.2.2.2.2.2.2) else (if 0 ≤ (wrap64 ((a2.2.2.2.2.2.2.2.2.2.2.2.1.length : Int) - 1)) then (if (wrap64 ((a2.2.2.2.2.2.2.2.2.2.2.2.1.length : Int) - 1)) < (a2.2.2.2.2.2.2.2.2.2.2.2.1.length : Int) then (if (wrap64 ((a2.2.2.2.2.2.2.2.2.2.2.2.1.length : Int) - 1)) ≤ (a2.2.2.2.2.2.2.2.2.2.2.2.1.length : Int) then (impl_ExecToken.j1 k true a3 a5 a6 a7 a8 a9 b0 b1 b2 b6 b7 b8 b9 d5.1 ((rd_T31 a2.2.2.2.2.2.2.2.2.2.2.2.1 (wrap64 ((a2.2.2.2.2.2.2.2.2.2.2.2.1.length : Int) - 1))).f1.f0) ((rd_T31 a2.2.2.2.2.2.2.2.2.2.2.2.1 (wrap64 ((a2.2.2.2.2.2.2.2.2.2.2.2.1.length : Int) - 1))).f1.f1) ((rd_T31 a2.2.2.2.2.2.2.2.2.2.2.2.1 (wrap64 ((a2.2.2.2.2.2.2.2.2.2.2.2.1.length : Int) - 1))).f1.f2) ((rd_T31 a2.2.2.2.2.2.2.2.2.2.2.2.1 (wrap64 ((a2.2.2.2.2.2.2.2.2.2.2.2.1.length : Int) - 1))).f1.f3) ((rd_T31 a2.2.2.2.2.2.2.2.2.2.2.2.1 (wrap64 ((a2.2.2.2.2.2.2.2.2.2.2.2.1.length : Int) - 1))).f2) ((rd_T31 a2.2.2.2.2.2.2.2.2.2.2.2.1 (wrap64 ((a2.2.2.2.2.2.2.2.2.2.2.2.1.length : Int) - 1))).f3) ((rd_T31 a2.2.2.2.2.2.2.2.2.2.2.2.1 (wrap64 ((a2.2.2.2.2.2.2.2.2.2.2.2.1.length : Int) - 1))).f4.f0) ((rd_T31 a2.2.2.2.2.2.2.2.2.2.2.2.1 (wrap64 ((a2.2.2.2.2.2.2.2.2.2.2.2.1.length : Int) - 1))).f4.f1) ((rd_T31 a2.2.2.2.2.2.2.2.2.2.2.2.1 (wrap64 ((a2.2.2.2.2.2.2.2.2.2.2.2.1.length : Int) - 1))).f4.f2) ((rd_T31 a2.2.2.2.2.2.2.2.2.2.2.2.1 (wrap64 ((a2.2.2.2.2.2.2.2.2.2.2.2.1.length : Int) - 1))).f4.f3) (a2.2.2.2.2.2.2.2.2.2.2.2.1.take ((wrap64 ((a2.2.2.2.2.2.2.2.2.2.2.2.1.length : Int) - 1)) : Int).toNat) a2.2.2.2.2.2.2.2.2.2.2.2.2) else (none)) else (none)) else (none))) else (none)))))))))) else (impl_ExecToken.j1 k false a3 a5 a6 a7 a8 a9 b0 b1 b2 b6 b7 b8 b9 d5.1 a2.2.1 a2.2.2.1 a2.2.2.2.1 a2.2.2.2.2.1 a2.2.2.2.2.2.1 a2.2.2.2.2.2.2.1 a2.2.2.2.2.2.2.2.1 a2.2.2.2.2.2.2.2.2.1 a2.2.2.2.2.2.2.2.2.2.1 a2.2.2.2.2.2.2.2.2.2.2.1 a2.2.2.2.2.2.2.2.2.2.2.2.1 a2.2.2.2.2.2.2.2.2.2.2.2.2))) else (impl_ExecToken.j1 k false a3 a5 a6 a7 a8 a9 b0 b1 b2 b6 b7 b8 b9 a2.1 a2.2.1 a2.2.2.1 a2.2.2.2.1 a2.2.2.2.2.1 a2.2.2.2.2.2.1 a2.2.2.2.2.2.2.1 a2.2.2.2.2.2.2.2.1 a2.2.2.2.2.2.2.2.2.1 a2.2.2.2.2.2.2.2.2.2.1 a2.2.2.2.2.2.2.2.2.2.2.1 a2.2.2.2.2.2.2.2.2.2.2.2.1 a2.2.2.2.2.2.2.2.2.2.2.2.2)))))))
def impl_ExecToken.j1 : Nat → Bool → List Int → Int → Int → Int → Int → List (S80) → Int → Int → Int → Int → Int → List (S31) → List (S60) → List Int → Int → Int → Int → Int → List (S80) → Int → Int → Int → Int → Int → List (S31) → List (S60) → Option (List Int × Int × Int × Int × Int × (List (S80)) × Int × Int × Int × Int × Int × (List (S31)) × (List (S60)) × Bool)
 | 0, _, _, _, _, _, _, _, _, _, _, _, _, _, _, _, _, _, _, _, _, _, _, _, _, _, _, _ => none
 | k + 1, x7, a3, a5, a6, a7, a8, a9, b0, b1, b2, b6, b7, b8, b9, d6, e0, e1, e2, e3, e4, e5, e6, e7, e8, e9, f5, f6 => if x7 = true then ((impl_PageOk.f k d6 e0 e1 e2 e3 e4 e5 e6 e7 e8 e9 f5 f6).bind fun g1 => (if g1 = true then (some (d6, e0, e1, e2, e3, e4, e5, e6, e7, e8, e9, f5, f6, true)) else ((impl_copyPage.f k a3 a5 a6 a7 a8 a9 b0 b1 b2 b6 b7 b8 b9).bind fun d2 => (some (d2.1, d2.2.1, d2.2.2.1, d2.2.2.2.1, d2.2.2.2.2.1, d2.2.2.2.2.2.1, d2.2.2.2.2.2.2.1, d2.2.2.2.2.2.2.2.1, d2.2.2.2.2.2.2.2.2.1, d2.2.2.2.2.2.2.2.2.2.1, d2.2.2.2.2.2.2.2.2.2.2.1, d2.2.2.2.2.2.2.2.2.2.2.2.1, d2.2.2.2.2.2.2.2.2.2.2.2.2, false))))) else ((impl_copyPage.f k a3 a5 a6 a7 a8 a9 b0 b1 b2 b6 b7 b8 b9).bind fun d3 => (some (d3.1, d3.2.1, d3.2.2.1, d3.2.2.2.1, d3.2.2.2.2.1, d3.2.2.2.2.2.1, d3.2.2.2.2.2.2.1, d3.2.2.2.2.2.2.2.1, d3.2.2.2.2.2.2.2.2.1, d3.2.2.2.2.2.2.2.2.2.1, d3.2.2.2.2.2.2.2.2.2.2.1, d3.2.2.2.2.2.2.2.2.2.2.2.1, d3.2.2.2.2.2.2.2.2.2.2.2.2, false)))
end
def impl_ExecToken.f (k : Nat) (a6 : List Int) (a7 : Int) (a8 : Int) (a9 : Int) (b0 : Int) (b1 : List (S80)) (b2 : Int) (b6 : Int) (b7 : Int) (b8 : Int) (a2 : Int) (a3 : List (S31)) (a5 : List (S60)) (b9 : ByteArray) (d0 : Int) : Option (List Int × Int × Int × Int × Int × (List (S80)) × Int × Int × Int × Int × Int × (List (S31)) × (List (S60)) × Bool) := (impl_PageOk.f k a6 a7 a8 a9 b0 b1 b2 b6 b7 b8 a2 a3 a5).bind fun d1 => (if d1 = true then ((impl_TokenOk.f k b9 d0).bind fun d2 => (impl_ExecToken.j0 k (!d2) a6 a7 a8 a9 b0 b1 b2 b6 b7 b8 a2 a3 a5 b9 d0)) else (impl_ExecToken.j0 k true a6 a7 a8 a9 b0 b1 b2 b6 b7 b8 a2 a3 a5 b9 d0))
def impl_ExecToken.i19.T46 : Bool × List (List Nat × List Nat) := (true, [([], []), ([], []), ([1], [1]), ([2], [2]), ([3], [3]), ([], []), ([5], [5]), ([6], [6]), ([7], [7]), ([8], [8]), ([4, 9, 8], [4, 9]), ([0, 0, 1, 2, 3, 4, 5, 6, 7, 8, 9, 10], [0]), ([11, 0, 1, 2, 3, 4, 5, 6, 7, 8, 9, 10], [11]), ([12, 10, 10, 0, 1, 2, 3, 4, 5, 6, 7, 8, 9, 10], [10, 12])])
def impl_ExecToken.i19.B46 : List Nat := [0, 0, 2, 6, 14, 0, 32, 96, 224, 480, 1022, 2047, 4095, 8191]
theorem impl_ExecToken.i19.tab46 : rtab .any (opsOf Try.f19 46) = impl_ExecToken.i19.T46 := by kernel_rfl
theorem impl_ExecToken.i19.bits46 : waitsOk impl_ExecToken.i19.T46.2 impl_ExecToken.i19.B46 = true := by kernel_rfl
def impl_ExecToken.i19.T53 : Bool × List (List Nat × List Nat) := (true, [([], []), ([], []), ([1], [1]), ([2], [2]), ([3], [3]), ([], []), ([5], [5]), ([6], [6]), ([7], [7]), ([8], [8]), ([9], [9]), ([4, 10], [4, 10]), ([0, 0, 1, 2, 3, 4, 5, 6, 7, 8, 9, 10, 11], [0]), ([12, 0, 1, 2, 3, 4, 5, 6, 7, 8, 9, 10, 11], [12]), ([13, 11, 0, 1, 2, 3, 4, 5, 6, 7, 8, 9, 10, 11], [11, 13])])
def impl_ExecToken.i19.B53 : List Nat := [0, 0, 2, 6, 14, 0, 32, 96, 224, 480, 992, 2046, 4095, 8191, 16383]
theorem impl_ExecToken.i19.tab53 : rtab .any (opsOf Try.f19 53) = impl_ExecToken.i19.T53 := by kernel_rfl
theorem impl_ExecToken.i19.bits53 : waitsOk impl_ExecToken.i19.T53.2 impl_ExecToken.i19.B53 = true := by kernel_rfl
theorem impl_ExecToken.calls (k : Nat) (t1 : Option Addr) (t2 : Nat) (i5 : List Int) (i8 : Int) (i9 : Int) (j5 : Int) (j6 : Int) (t3 : Option Addr) (t4 : Nat) (i6 : List (S80)) (j7 : Int) (j8 : Int) (j9 : Int) (k0 : Int) (h6 : Int) (n5 : Option Addr) (n6 : Nat) (e8 : List (S31)) (n7 : Option Addr) (n8 : Nat) (e9 : List (S60)) (i1 : ByteArray) (n2 : Int) (r1 : List Int) (r2 : Int) (r3 : Int) (r4 : Int) (r5 : Int) (r6 : List (S80)) (r7 : Int) (r8 : Int) (r9 : Int) (C2 : Int) (C3 : Int) (C4 : List (S31)) (C5 : List (S60)) (C6 : Bool) (w : World) (x7 : Kd.C (Kd.int .i64) w t1 i5.length i5) (x8 : i5.length ≤ t2) (x9 : Kd.C k80 w t3 i6.length i6) (y0 : i6.length ≤ t4) (u0 : Kd.C k31 w n5 e8.length e8) (u1 : e8.length ≤ n6) (u2 : Kd.C k60 w n7 e9.length e9) (u3 : e9.length ≤ n8) (h : impl_ExecToken.f k i5 i8 i9 j5 j6 i6 j7 j8 j9 k0 h6 e8 e9 i1 n2 = some (r1, r2, r3, r4, r5, r6, r7, r8, r9, C2, C3, C4, C5, C6)) :
  Calls Try.prog 6 #[.agg #[.slice t1 i5.length t2, .int .i64 i8, .int .i64 i9, .int .i64 j5, .int .i64 j6, .slice t3 i6.length t4, .int .i64 j7, .int .i64 j8, .int .i64 j9, .int .i64 k0, .int .i64 h6, .slice n5 e8.length n6, .slice n7 e9.length n8], .agg #[.string i1, .int .i64 n2]] w fun e w' => ∃ v0_ v5_ v11_ v12_ : Value, e = .returned (.tuple #[.agg #[v0_, .int .i64 r2, .int .i64 r3, .int .i64 r4, .int .i64 r5, v5_, .int .i64 r7, .int .i64 r8, .int .i64 r9, .int .i64 C2, .int .i64 C3, v11_, v12_], .bool C6]) ∧ Kd.V (Kd.int .i64) 3 w' w.heap.size (fun k_ => (w.heap.size ≤ k_)) v0_ r1 ∧ Kd.V k80 80 w' w.heap.size (fun k_ => (w.heap.size ≤ k_)) v5_ r6 ∧ Kd.V k31 31 w' w.heap.size (fun k_ => (w.heap.size ≤ k_)) v11_ C4 ∧ Kd.V k60 60 w' w.heap.size (fun k_ => (w.heap.size ≤ k_)) v12_ C5 ∧ Below w.heap.size w w' := by
 have hu35 := Try.underlying35
 have hu40 := Try.underlying40
 have hu26 := Try.underlying26
 have hu80 := Try.underlying80
 have hu29 := Try.underlying29
 have hu60 := Try.underlying60
 have hu31 := Try.underlying31
 have o0 := aM x7
 have o1 := aM x8
 clear x7 x8
 have o4 := aM x9
 have o5 := aM y0
 clear x9 y0
 have k3 := aM u0
 have k4 := aM u1
 clear u0 u1
 have k5 := aM u2
 have k6 := aM u3
 clear u2 u3
 have HB := aM (Below.refl w.heap.size w)
 have H := h
 clear h
 unfold impl_ExecToken.f at H
 have R9 := aM H
 clear H
 go_enter Try.func6, Try.ntmps6
 go_upto_region 1 with (first | ((with_reducible refine gD 2 ?_); refine bxE #[.slice t1 i5.length t2, .int .i64 i8, .int .i64 i9, .int .i64 j5, .int .i64 j6, .slice t3 i6.length t4, .int .i64 j7, .int .i64 j8, .int .i64 j9, .int .i64 k0, .int .i64 h6, .slice n5 e8.length n6, .slice n7 e9.length n8] 35 ?_; intro e2 hg w4 d2 hb; have GE878 := gE hg; replace HB := hB hb; clear hb hg) | ((with_reducible refine gD 3 ?_); refine bxE #[.string i1, .int .i64 n2] 40 ?_; intro e7 hg w5 d3 hb; have GE879 := gE hg; have d5 := nL_ e2 hg; have d6 := nG_ e2 hg; replace d2 := kB_ e2 hb; replace HB := hB hb; clear hb hg) | ((with_reducible refine gD 4 ?_); refine bxE #[.slice none 0 0, .int .i64 0, .int .i64 0, .int .i64 0, .int .i64 0, .slice none 0 0, .int .i64 0, .int .i64 0, .int .i64 0, .int .i64 0, .int .i64 0, .slice none 0 0, .slice none 0 0] 35 ?_; intro b6 hg w6 a9 hb; have GE880 := gE hg; have f8 := nL_ e2 hg; have f9 := nG_ e2 hg; have e0 := nL_ e7 hg; have e1 := nG_ e7 hg; replace d2 := kB_ e2 hb; replace d3 := kB_ e7 hb; replace HB := hB hb; clear hb hg))
 (try simp only [Act.put, List.setIfInBounds_toArray, List.set_cons_zero, List.set_cons_succ])
 go_cut [20] (fun Z9 wc => ∃ (kq : Nat) (s5 : Bool), Z9 = .bool s5 ∧ Aside0 (impl_ExecToken.j0 kq s5 i5 i8 i9 j5 j6 i6 j7 j8 j9 k0 h6 e8 e9 i1 n2 = some (r1, r2, r3, r4, r5, r6, r7, r8, r9, C2, C3, C4, C5, C6)) ∧ Aside0 (kq ≤ k) ∧ Aside0 (wc.heap[e2]? = some (.cells #[(.slice t1 i5.length t2), .int .i64 i8, .int .i64 i9, .int .i64 j5, .int .i64 j6, (.slice t3 i6.length t4), .int .i64 j7, .int .i64 j8, .int .i64 j9, .int .i64 k0, .int .i64 h6, (.slice n5 e8.length n6), (.slice n7 e9.length n8)] 35 (0, 0))) ∧ Aside0 (wc.heap[e7]? = some (.cells #[.string i1, .int .i64 n2] 40 (0, 0))) ∧ Aside0 (wc.heap[b6]? = some (.cells #[(.slice none 0 0), .int .i64 0, .int .i64 0, .int .i64 0, .int .i64 0, (.slice none 0 0), .int .i64 0, .int .i64 0, .int .i64 0, .int .i64 0, .int .i64 0, (.slice none 0 0), (.slice none 0 0)] 35 (0, 0))) ∧ Aside0 (Below w.heap.size w wc))
 case first =>
  have H := R9.out
  clear R9
  replace H := bN H
  obtain ⟨S0, A7, H⟩ := H
  by_cases c8 : S0 = true
  ·subst c8
   rw [if_pos rfl] at H
   replace H := bN H
   obtain ⟨E3, A9, H⟩ := H
   have H' := aM H
   clear H
   have hnb10 := nP d5 d6
   have hnb11 := nP f8 f9
   have hz12 := cz13 d2
   go_wp2_with (first | ((with_reducible refine gC 7 ?_); refine cM (some 14) Try.func7 (impl_PageOk.calls k _ _ i5 i8 i9 j5 j6 _ _ i6 j7 j8 j9 k0 h6 _ _ e8 _ _ e9 _ _ (cC o0 HB) o1.out (cC o4 HB) o5.out (cC k3 HB) k4.out (cC k5 HB) k6.out A7.out) ?_; rintro e w13 ⟨rfl, hb⟩; refine ⟨_, rfl, ?_⟩; replace d2 := kB_ e2 hb; replace d3 := kB_ e7 hb; replace a9 := kB_ b6 hb; replace HB := hB hb; (try clear hb); have hnb14 := nP e0 e1; have hz15 := cz2 d3) | (go_at_call 12; (with_reducible refine (impl_TokenOk.calls k i1 n2 E3 _ A9.out).mono ?_); rintro e w16 ⟨rfl, hb⟩; replace d2 := kB_ e2 hb; replace d3 := kB_ e7 hb; replace a9 := kB_ b6 hb; replace HB := hB hb; (try clear hb)))
   go_meet
   case rel => exact ⟨_, (!E3), fS, H', ⟨by first | omega | exact Nat.le_refl _⟩, ⟨kS⟩, ⟨kS⟩, ⟨kS⟩, ⟨bS⟩⟩
  ·obtain rfl := Bool.eq_false_iff.mpr c8
   rw [if_neg nF] at H
   have H' := aM H
   clear H
   have hnb17 := nP d5 d6
   have hnb18 := nP f8 f9
   have hz19 := cz13 d2
   go_wp2_with (first | ((with_reducible refine gC 7 ?_); refine cM (some 14) Try.func7 (impl_PageOk.calls k _ _ i5 i8 i9 j5 j6 _ _ i6 j7 j8 j9 k0 h6 _ _ e8 _ _ e9 _ _ (cC o0 HB) o1.out (cC o4 HB) o5.out (cC k3 HB) k4.out (cC k5 HB) k6.out A7.out) ?_; rintro e w20 ⟨rfl, hb⟩; refine ⟨_, rfl, ?_⟩; replace d2 := kB_ e2 hb; replace d3 := kB_ e7 hb; replace a9 := kB_ b6 hb; replace HB := hB hb; (try clear hb)))
   go_meet
   case rel => exact ⟨_, (true), fS, H', ⟨by first | omega | exact Nat.le_refl _⟩, ⟨kS⟩, ⟨kS⟩, ⟨kS⟩, ⟨bS⟩⟩
 case rest =>
  clear R9
  try clear c1
  try clear p2
  try clear c6
  try clear c7
  try clear c8
  try clear c10
  try clear c11
  try clear c14
  try clear c17
  try clear c18
  obtain ⟨kq, s5, rfl, HA, HJ2, d2, d3, a9, HB⟩ := hcut
  cases kq with
  | zero => exact absurd HA.out (by simp [impl_ExecToken.j0])
  | succ kj2 =>
   have H := HA.out
   clear HA
   simp only [impl_ExecToken.j0] at H
   by_cases W9 : s5 = true
   ·subst W9
    rw [if_pos rfl] at H
    replace H := bN H
    obtain ⟨⟨E4, E5, E6, E7, E8, E9, F2, F3, F4, F5, F6, F7, F8⟩, A22, H⟩ := H
    simp only [Option.some.injEq, Prod.mk.injEq] at H
    obtain ⟨rfl, rfl, rfl, rfl, rfl, rfl, rfl, rfl, rfl, rfl, rfl, rfl, rfl, rfl⟩ := H
    have hnb23 := nP d5 d6
    have hnb24 := nP f8 f9
    have hz25 := cz13 d2
    go_wp2_with (first | ((with_reducible refine gC 13 ?_); refine cM (some 22) Try.func13 (impl_copyPage.calls kj2 _ _ i5 i8 i9 j5 j6 _ _ i6 j7 j8 j9 k0 h6 _ _ e8 _ _ e9 E4 E5 E6 E7 E8 E9 F2 F3 F4 F5 F6 F7 F8 _ (cC o0 HB) o1.out (cC o4 HB) o5.out (cC k3 HB) k4.out (cC k5 HB) k6.out A22.out) ?_; rintro e w26 ⟨aa4, aa5, aa6, aa7, rfl, i7, k2, t5, t6, hb⟩; refine ⟨_, rfl, ?_⟩; have y1 := aM (Kd.R_lower (Kd.R_newM (M := fun k_ => (w.heap.size ≤ k_)) i7 (below_size bS) (fun k_ h_ => h_)) (below_size bS)); have y2 := aM (Kd.R_lower (Kd.R_newM (M := fun k_ => (w.heap.size ≤ k_)) k2 (below_size bS) (fun k_ h_ => h_)) (below_size bS)); have y3 := aM (Kd.S_lower (Kd.S_newM (M := fun k_ => (w.heap.size ≤ k_)) t5 (below_size bS) (fun k_ h_ => h_)) (below_size bS)); have y4 := aM (Kd.S_lower (Kd.S_newM (M := fun k_ => (w.heap.size ≤ k_)) t6 (below_size bS) (fun k_ h_ => h_)) (below_size bS)); replace d2 := kB_ e2 hb; replace d3 := kB_ e7 hb; replace a9 := kB_ b6 hb; replace HB := hB hb; (try clear hb i7 k2 t5 t6); obtain ⟨S1, S2, S3⟩ := Kd.R_slice y1.out; subst S3; have hnb28 := nP e1 e0; have hz29 := cz13 a9; obtain ⟨S4, S5, S6⟩ := Kd.R_slice y2.out; subst S6; obtain ⟨S7, S8, S9⟩ := Kd.S_slice y3.out; subst S9; obtain ⟨T0, T8, U0⟩ := Kd.S_slice y4.out; subst U0))
    refine bodyPost_ret (results_ct rfl _ _ b6 35 #[.slice S1 E4.length S2, .int .i64 E5, .int .i64 E6, .int .i64 E7, .int .i64 E8, .slice S4 E9.length S5, .int .i64 F2, .int .i64 F3, .int .i64 F4, .int .i64 F5, .int .i64 F6, .slice S7 F7.length S8, .slice T0 F8.length T8] (0, 0) _ rfl kS Try.underlying35 rfl (by kernel_rfl)) rfl ?_
    exact ⟨_, _, _, _, eS, Kd.R_V (by exact Kd.R_mono (R_on (g := b6) (Kd.R_types y1.out a9.out (by decide)) (fun _ hk => hk.2)) (fun _ hk => hk.1.1)), Kd.R_V (by exact Kd.R_mono (R_on (g := b6) (Kd.R_types y2.out a9.out (by decide)) (fun _ hk => hk.2)) (fun _ hk => hk.1.1)), Kd.S_V (by exact Kd.S_mono (S_on (g := b6) (Kd.S_types y3.out a9.out (by decide)) (fun _ hk => hk.2)) (fun _ hk => hk.1.1)), Kd.S_V (by exact Kd.S_mono (S_on (g := b6) (Kd.S_types y4.out a9.out (by decide)) (fun _ hk => hk.2)) (fun _ hk => hk.1.1)), bS⟩
   ·obtain rfl := Bool.eq_false_iff.mpr W9
    rw [if_neg nF] at H
    replace H := bN H
    obtain ⟨⟨k1, l4, l5, l6, l7, e4, m7, l8, l9, m0, m1, a5, h7⟩, A33, H⟩ := H
    replace H := bN H
    obtain ⟨⟨u4, F9⟩, A34, H⟩ := H
    have C7 := aM H
    clear H
    have hnb36 := nP d5 d6
    have hnb37 := nP f8 f9
    have hz38 := cz13 d2
    go_upto_block 0 with (first | ((with_reducible refine gC 13 ?_); refine cM (some 24) Try.func13 (impl_copyPage.calls kj2 _ _ i5 i8 i9 j5 j6 _ _ i6 j7 j8 j9 k0 h6 _ _ e8 _ _ e9 k1 l4 l5 l6 l7 e4 m7 l8 l9 m0 m1 a5 h7 _ (cC o0 HB) o1.out (cC o4 HB) o5.out (cC k3 HB) k4.out (cC k5 HB) k6.out A33.out) ?_; rintro e w39 ⟨ab0, ab1, ab2, ab3, rfl, i7, k2, t5, t6, hb⟩; refine ⟨_, rfl, ?_⟩; have e3 := aM (Kd.R_lower (Kd.R_newM (M := fun k_ => (w.heap.size ≤ k_)) i7 (below_size bS) (fun k_ h_ => h_)) (below_size bS)); have b2 := aM (Kd.R_lower (Kd.R_newM (M := fun k_ => (w.heap.size ≤ k_)) k2 (below_size bS) (fun k_ h_ => h_)) (below_size bS)); have a7 := aM (Kd.S_lower (Kd.S_newM (M := fun k_ => (w.heap.size ≤ k_)) t5 (below_size bS) (fun k_ h_ => h_)) (below_size bS)); have b9 := aM (Kd.S_lower (Kd.S_newM (M := fun k_ => (w.heap.size ≤ k_)) t6 (below_size bS) (fun k_ h_ => h_)) (below_size bS)); replace d2 := kB_ e2 hb; replace d3 := kB_ e7 hb; replace a9 := kB_ b6 hb; replace HB := hB hb; (try clear hb i7 k2 t5 t6)) | ((with_reducible refine gD 6 ?_); refine bxE #[.slice none 0 0, .int .i64 0, .int .i64 0, .int .i64 0, .int .i64 0, .slice none 0 0, .int .i64 0, .int .i64 0, .int .i64 0, .int .i64 0, .int .i64 0, .slice none 0 0, .slice none 0 0] 35 ?_; intro a3 hg w40 a2 hb; have GE925 := gE hg; have f5 := nL_ e2 hg; have g0 := nG_ e2 hg; have f6 := nL_ e7 hg; have g1 := nG_ e7 hg; have f7 := nL_ b6 hg; have g2 := nG_ b6 hg; replace e3 := rB e3 hb; replace b2 := rB b2 hb; replace a7 := sB a7 hb; replace b9 := sB b9 hb; replace d2 := kB_ e2 hb; replace d3 := kB_ e7 hb; replace a9 := kB_ b6 hb; replace HB := hB hb; clear hb hg; obtain ⟨s2, m8, U1⟩ := Kd.R_slice e3.out; subst U1; have hnb42 := nP g0 f5; have hnb43 := nP g1 f6; have hnb44 := nP g2 f7; have hz45 := cz13 a2; obtain ⟨h8, h9, U2⟩ := Kd.R_slice b2.out; subst U2; obtain ⟨k7, i3, U3⟩ := Kd.S_slice a7.out; subst U3; obtain ⟨m9, n0, U4⟩ := Kd.S_slice b9.out; subst U4; have hnb49 := nP e0 e1; have hz50 := cz2 d3) | ((with_reducible refine gC 14 ?_); refine cM (some 28) Try.func14 (impl_taken.calls kj2 i1 u4 F9 _ A34.out) ?_; rintro e w' ⟨rfl, ⟨nd, rfl⟩⟩; refine ⟨_, rfl, ?_⟩))
    (try simp only [Act.put, List.setIfInBounds_toArray, List.set_cons_zero, List.set_cons_succ])
    go_cut [7] (fun v7 wc => ∃ (kq : Nat) (s6 : Bool) (g3 : List Int) (g4 : Int) (g5 : Int) (g6 : Int) (g7 : Int) (g8 : List (S80)) (g9 : Int) (h0 : Int) (h1 : Int) (h2 : Int) (h3 : Int) (h4 : List (S31)) (h5 : List (S60)) (m3 : Value) (m4 : Value) (o8 : Value) (o9 : Value), v7 = .bool s6 ∧ Aside0 (impl_ExecToken.j1 kq s6 i5 i8 i9 j5 j6 i6 j7 j8 j9 k0 h6 e8 e9 g3 g4 g5 g6 g7 g8 g9 h0 h1 h2 h3 h4 h5 = some (r1, r2, r3, r4, r5, r6, r7, r8, r9, C2, C3, C4, C5, C6)) ∧ Aside0 (kq ≤ kj2) ∧ Aside0 (Kd.R (Kd.int .i64) 3 wc w.heap.size (fun k_ => (w.heap.size ≤ k_)) m3 g3) ∧ Aside0 (Kd.R k80 80 wc w.heap.size (fun k_ => (w.heap.size ≤ k_)) m4 g8) ∧ Aside0 (Kd.S k31 31 wc w.heap.size (fun k_ => (w.heap.size ≤ k_) ∧ some k_ ≠ (m3 : Value).ownBlock ∧ some k_ ≠ (m4 : Value).ownBlock) o8 h4) ∧ Aside0 (Kd.S k60 60 wc w.heap.size (fun k_ => (w.heap.size ≤ k_)) o9 h5) ∧ Aside0 (wc.heap[e2]? = some (.cells #[(.slice t1 i5.length t2), .int .i64 i8, .int .i64 i9, .int .i64 j5, .int .i64 j6, (.slice t3 i6.length t4), .int .i64 j7, .int .i64 j8, .int .i64 j9, .int .i64 k0, .int .i64 h6, (.slice n5 e8.length n6), (.slice n7 e9.length n8)] 35 (0, 0))) ∧ Aside0 (wc.heap[e7]? = some (.cells #[.string i1, .int .i64 n2] 40 (0, 0))) ∧ Aside0 (wc.heap[b6]? = some (.cells #[(.slice none 0 0), .int .i64 0, .int .i64 0, .int .i64 0, .int .i64 0, (.slice none 0 0), .int .i64 0, .int .i64 0, .int .i64 0, .int .i64 0, .int .i64 0, (.slice none 0 0), (.slice none 0 0)] 35 (0, 0))) ∧ Aside0 (wc.heap[a3]? = some (.cells #[m3, .int .i64 g4, .int .i64 g5, .int .i64 g6, .int .i64 g7, m4, .int .i64 g9, .int .i64 h0, .int .i64 h1, .int .i64 h2, .int .i64 h3, o8, o9] 35 (0, 0))) ∧ Aside0 (Below w.heap.size w wc))
    case first =>
     have H := C7.out
     clear C7
     by_cases G0 : i1.toList = ([] : List UInt8)
     ·rw [if_pos G0] at H
      obtain ⟨s3, G1⟩ := eqT G0
      clear G0
      (first | rw [s3] | (simp only [i64_w, i32_w]; rw [s3]) | skip)
      replace H := bN H
      obtain ⟨⟨C9, G2⟩, A52, H⟩ := H
      have H' := aM H
      clear H
      have hnb53 := nP d6 d5
      have hnb54 := nP e0 e1
      have hnb55 := nP f6 g1
      have hz56 := cz2 d3
      have hnb57 := nP g0 f5
      have hnb58 := nP g2 f7
      have Q0 := cg0 a2
      have Q1 := blk_frozen a2.out 0
      go_wp2_with (first | ((with_reducible refine gC 15 ?_); refine cL (some 41) Try.func15 #[.slice s2 k1.length m8, .int .i64 n2] ?_; (with_reducible refine (impl_PushNumber.calls kj2 _ _ k1 n2 C9 G2 _ ?side1 ?side2 A52.out).mono ?_); (case side1 => refine (Kd.R_reads' (e := 3) (base := w.heap.size) (ok := fun k_ => ((w.heap.size ≤ k_) ∧ True)) (n := k1.length) (c := m8) ?_).2.2; exact (by exact rG e3 a2)); (case side2 => exact (Kd.R_reads' e3.out).2.1); rintro e w60 ⟨ab5, rfl, i7, hb⟩; refine ⟨_, rfl, ?_⟩; have y5 := aM (Kd.R_lower (Kd.R_new' (Kd.R_newM (M := fun k_ => (w.heap.size ≤ k_)) i7 (below_size bS) (fun k_ h_ => h_)) (Kd.R_lt (by exact rG e3 a2))) (below_size bS)); replace e3 := aM (Kd.R_elder' (by exact rG e3 a2) (Kd.R_base i7) hb); replace b2 := aM (Kd.R_below (by exact rG b2 a2) hb); replace a7 := aM (Kd.S_elder' (by exact sG a7 a2) (Kd.R_base i7) hb); replace b9 := aM (Kd.S_below (by exact sG b9 a2) hb); replace d2 := kB_ e2 hb; replace d3 := kB_ e7 hb; replace a9 := kB_ b6 hb; replace a2 := kB_ a3 hb; replace HB := hB hb; (try clear hb hk i7); obtain ⟨U5, U6, U7⟩ := Kd.R_slice y5.out; subst U7; have Q2 := cg0 a2; have Q3 := blk_frozen a2.out 0))
      go_meet
      case rel => exact ⟨_, (G2), (C9), (l4), (l5), (l6), (l7), (e4), (m7), (l8), (l9), (m0), (m1), (a5), (h7), (.slice U5 C9.length U6), (.slice h8 e4.length h9), (.slice k7 a5.length i3), (.slice m9 h7.length n0), fS, H', ⟨by have := HJ2.out; first | omega | exact Nat.le_refl _⟩, ⟨rW [a3] y5 a2⟩, ⟨rW [a3] b2 a2⟩, ⟨sW [a3] a7 a2⟩, ⟨sW [a3] b9 a2⟩, ⟨kS⟩, ⟨kS⟩, ⟨kS⟩, ⟨kS⟩, ⟨bS⟩⟩
     ·rw [if_neg G0] at H
      obtain ⟨s3, G1⟩ := eqF G0
      (first | rw [s3] | (simp only [i64_w, i32_w]; rw [s3]) | skip)
      replace H := bN H
      obtain ⟨U8, U9, H⟩ := H
      by_cases X0 : U8 = true
      ·subst X0
       rw [if_pos rfl] at H
       exact absurd H (by simp)
      ·obtain rfl := Bool.eq_false_iff.mpr X0
       rw [if_neg nF] at H
       by_cases V0 : F9 = true
       ·subst V0
        rw [if_pos rfl] at H
        replace H := bN H
        obtain ⟨⟨d0, i4, V1⟩, X1, H⟩ := H
        by_cases V2 : V1 = true
        ·subst V2
         rw [if_pos rfl] at H
         have G3 := aM H
         clear H
         have hnb69 := nP d6 d5
         have hnb70 := nP e0 e1
         have hnb71 := nP f6 g1
         have hz72 := cz2 d3
         go_wp2_with (first | ((with_reducible refine gC 16 ?_); refine cM (some 49) Try.func16 (impl_IsStackOp.calls i1 _ _ U9.out) ?_; rintro e w' ⟨rfl, ⟨nd, rfl⟩⟩; refine ⟨_, rfl, ?_⟩; have hnb73 := nP g0 f5; have hnb74 := nP g2 f7; have Q4 := cg0 a2; have Q5 := blk_frozen a2.out 0) | ((with_reducible refine gC 18 ?_); refine cL (some 68) Try.func18 #[.slice s2 k1.length m8, .int .i64 u4] ?_; (with_reducible refine (impl_TakeNumbers.calls kj2 _ _ k1 u4 d0 i4 _ _ ?side1 ?side2 X1.out).mono ?_); (case side1 => refine (Kd.R_reads' (e := 3) (base := w.heap.size) (ok := fun k_ => ((w.heap.size ≤ k_) ∧ True)) (n := k1.length) (c := m8) ?_).2.2; exact (by exact rG e3 a2)); (case side2 => exact (Kd.R_reads' e3.out).2.1); rintro e w76 ⟨V3, s4, rfl, i7, k2, hb⟩; refine ⟨_, rfl, ?_⟩; have b7 := aM (Kd.R_lower (Kd.R_new' (Kd.R_newM (M := fun k_ => (w.heap.size ≤ k_)) i7 (below_size bS) (fun k_ h_ => h_)) (Kd.R_lt (by exact rG e3 a2))) (below_size bS)); have d1 := aM (Kd.R_lower (Kd.R_new' (Kd.R_newM (M := fun k_ => (w.heap.size ≤ k_)) k2 (below_size bS) (fun k_ h_ => h_)) (Kd.R_lt (by exact rG e3 a2))) (below_size bS)); replace e3 := aM (Kd.R_mono (Kd.R_told (Kd.R_told (Kd.R_old (by exact rG e3 a2) hb) (Kd.R_base i7)) (Kd.R_base k2)) (fun _ h_ => h_.1)); replace b2 := aM (Kd.R_below (by exact rG b2 a2) hb); replace a7 := aM (Kd.S_mono (Kd.S_told (Kd.S_told (Kd.S_old (by exact sG a7 a2) hb) (Kd.R_base i7)) (Kd.R_base k2)) (fun _ h_ => h_.1)); replace b9 := aM (Kd.S_below (by exact sG b9 a2) hb); replace d2 := kB_ e2 hb; replace d3 := kB_ e7 hb; replace a9 := kB_ b6 hb; replace a2 := kB_ a3 hb; replace HB := hB hb; (try clear hb hk i7 k2); obtain ⟨e5, e6, V4⟩ := Kd.R_slice b7.out; subst V4; have Q6 := cg0 a2; have Q7 := blk_frozen a2.out 0) | ((with_reducible refine gate_store (t := 24) (p := 74) rfl ?_); refine store_event (t := 24) (p := 74) (v := ?vo_w79) (w1 := (w76.setCell ⟨a3, 0, none⟩ (.slice e5 d0.length e6))) ?hg ?ho ?hn ?hr ?_; (case ho => rfl); (case hg => rfl); (case hn => rfl); (case hr => first | (go_simp; done) | (go_simp; rfl)); intro t7 hw; replace e3 : Aside0 (Kd.R (Kd.int .i64) 3 t7 w.heap.size (fun k_ => (w.heap.size ≤ k_) ∧ some k_ ≠ (.slice e5 d0.length e6 : Value).ownBlock ∧ some k_ ≠ (s4 : Value).ownBlock) (.slice s2 k1.length m8) k1) := ⟨(by rw [hw]; exact (by exact rT (Kd.R_mono (Kd.R_far (p := ⟨a3, 0, none⟩) (Kd.R_types e3.out a2.out (by decide)) (fun _ hk => hk.2) (.slice e5 d0.length e6)) (fun _ hk => ⟨hk.1.1.1.1, ⟨hk.1.1.2, hk.1.2⟩⟩))))⟩; replace b2 : Aside0 (Kd.R k80 80 t7 w.heap.size (fun k_ => (w.heap.size ≤ k_)) (.slice h8 e4.length h9) e4) := ⟨(by rw [hw]; exact (by exact rT (Kd.R_mono (Kd.R_far (p := ⟨a3, 0, none⟩) (Kd.R_types b2.out a2.out (by decide)) (fun _ hk => hk.2) (.slice e5 d0.length e6)) (fun _ hk => hk.1.1))))⟩; replace a7 : Aside0 (Kd.S k31 31 t7 w.heap.size (fun k_ => (w.heap.size ≤ k_) ∧ some k_ ≠ (.slice s2 k1.length m8 : Value).ownBlock ∧ some k_ ≠ (.slice h8 e4.length h9 : Value).ownBlock ∧ some k_ ≠ (.slice e5 d0.length e6 : Value).ownBlock ∧ some k_ ≠ (s4 : Value).ownBlock) (.slice k7 a5.length i3) a5) := ⟨(by rw [hw]; exact (by exact sT (Kd.S_mono (Kd.S_far (p := ⟨a3, 0, none⟩) (Kd.S_types a7.out a2.out (by decide)) (fun _ hk => hk.2) (.slice e5 d0.length e6)) (fun _ hk => ⟨hk.1.1.1.1, ⟨hk.1.1.1.2.1, ⟨hk.1.1.1.2.2, ⟨hk.1.1.2, hk.1.2⟩⟩⟩⟩))))⟩; replace b9 : Aside0 (Kd.S k60 60 t7 w.heap.size (fun k_ => (w.heap.size ≤ k_) ∧ some k_ ≠ (.slice h8 e4.length h9 : Value).ownBlock) (.slice m9 h7.length n0) h7) := ⟨(by rw [hw]; exact (by exact sT (Kd.S_mono (Kd.S_far (p := ⟨a3, 0, none⟩) (Kd.S_types b9.out a2.out (by decide)) (fun _ hk => hk.2) (.slice e5 d0.length e6)) (fun _ hk => ⟨hk.1.1, hk.1.2⟩))))⟩; replace b7 : Aside0 (Kd.R (Kd.int .i64) 3 t7 w.heap.size (fun k_ => (w.heap.size ≤ k_) ∧ some k_ ≠ (.slice s2 k1.length m8 : Value).ownBlock ∧ some k_ ≠ (s4 : Value).ownBlock) (.slice e5 d0.length e6) d0) := ⟨(by rw [hw]; exact (by exact rT (Kd.R_mono (Kd.R_far (p := ⟨a3, 0, none⟩) (Kd.R_types b7.out a2.out (by decide)) (fun _ hk => hk.2) (.slice e5 d0.length e6)) (fun _ hk => ⟨hk.1.1.1, ⟨hk.1.2, hk.1.1.2⟩⟩))))⟩; replace d1 : Aside0 (Kd.R (Kd.int .i64) 3 t7 w.heap.size (fun k_ => (w.heap.size ≤ k_) ∧ some k_ ≠ (.slice s2 k1.length m8 : Value).ownBlock ∧ some k_ ≠ (.slice e5 d0.length e6 : Value).ownBlock) s4 i4) := ⟨(by rw [hw]; exact (by exact rT (Kd.R_mono (Kd.R_far (p := ⟨a3, 0, none⟩) (Kd.R_types d1.out a2.out (by decide)) (fun _ hk => hk.2) (.slice e5 d0.length e6)) (fun _ hk => ⟨hk.1.1.1, ⟨hk.1.2, hk.1.1.2⟩⟩))))⟩; replace d2 : Aside0 (t7.heap[e2]? = some (.cells #[.slice t1 i5.length t2, .int .i64 i8, .int .i64 i9, .int .i64 j5, .int .i64 j6, .slice t3 i6.length t4, .int .i64 j7, .int .i64 j8, .int .i64 j9, .int .i64 k0, .int .i64 h6, .slice n5 e8.length n6, .slice n7 e9.length n8] 35 (0, 0))) := ⟨(by rw [hw]; exact kS)⟩; replace d3 : Aside0 (t7.heap[e7]? = some (.cells #[.string i1, .int .i64 n2] 40 (0, 0))) := ⟨(by rw [hw]; exact kS)⟩; replace a9 : Aside0 (t7.heap[b6]? = some (.cells #[.slice none 0 0, .int .i64 0, .int .i64 0, .int .i64 0, .int .i64 0, .slice none 0 0, .int .i64 0, .int .i64 0, .int .i64 0, .int .i64 0, .int .i64 0, .slice none 0 0, .slice none 0 0] 35 (0, 0))) := ⟨(by rw [hw]; exact kS)⟩; replace a2 : Aside0 (t7.heap[a3]? = some (.cells #[.slice e5 d0.length e6, .int .i64 l4, .int .i64 l5, .int .i64 l6, .int .i64 l7, .slice h8 e4.length h9, .int .i64 m7, .int .i64 l8, .int .i64 l9, .int .i64 m0, .int .i64 m1, .slice k7 a5.length i3, .slice m9 h7.length n0] 35 (0, 0))) := ⟨(by rw [hw]; exact kS)⟩; replace HB : Aside0 (Below w.heap.size w t7) := ⟨(by rw [hw]; exact bS)⟩; clear hw; have hz80 := cz2 d3))
         have H := G3.out
         clear G3
         have n_ := aM (Kd.S_mono (ok' := (fun k_ => (w.heap.size ≤ k_) ∧ some k_ ≠ (.slice h8 e4.length h9 : Value).ownBlock ∧ some k_ ≠ (.slice e5 d0.length e6 : Value).ownBlock ∧ some k_ ≠ (s4 : Value).ownBlock)) a7.out (fun k_ hk => ⟨hk.1, ⟨hk.2.2.1, ⟨hk.2.2.2.1, hk.2.2.2.2⟩⟩⟩))
         clear a7
         have a7 := n_
         clear n_
         have n_ := aM (Kd.R_mono (ok' := (fun k_ => (w.heap.size ≤ k_) ∧ some k_ ≠ (s4 : Value).ownBlock)) b7.out (fun k_ hk => ⟨hk.1, hk.2.2⟩))
         clear b7
         have b7 := n_
         clear n_
         have n_ := aM (Kd.R_mono (ok' := (fun k_ => (w.heap.size ≤ k_) ∧ some k_ ≠ (.slice e5 d0.length e6 : Value).ownBlock)) d1.out (fun k_ hk => ⟨hk.1, hk.2.2⟩))
         clear d1
         have d1 := n_
         clear n_
         (try clear e3)
         obtain ⟨L81, hF_, hM878_, hM879_, hM880_⟩ := FrI_pack3 d2.out d3.out a9.out f5.out f6.out f7.out [35, 40] (by decide) (by decide) (by decide)
         have HLM878 := aM hM878_
         have HLM879 := aM hM879_
         have HLM880 := aM hM880_
         have b8 := aM hF_
         clear hF_ hM878_ hM879_ hM880_ d2 d3 a9
         by_cases V5 : i1.toList = ([110, 101, 119] : List UInt8)
         ·rw [if_pos V5] at H
          exact absurd H (by simp)
         ·rw [if_neg V5] at H
          obtain ⟨X2, X3⟩ := eqF V5
          by_cases V6 : i1.toList = ([109, 111, 118, 101, 116, 111] : List UInt8)
          ·rw [if_pos V6] at H
           exact absurd H (by simp)
          ·rw [if_neg V6] at H
           obtain ⟨X4, X5⟩ := eqF V6
           by_cases V7 : i1.toList = ([108, 105, 110, 101, 116, 111] : List UInt8)
           ·rw [if_pos V7] at H
            exact absurd H (by simp)
           ·rw [if_neg V7] at H
            obtain ⟨X6, X7⟩ := eqF V7
            by_cases V8 : i1.toList = ([114, 101, 99, 116] : List UInt8)
            ·rw [if_pos V8] at H
             exact absurd H (by simp)
            ·rw [if_neg V8] at H
             obtain ⟨X8, X9⟩ := eqF V8
             by_cases V9 : i1.toList = ([102, 105, 108, 108] : List UInt8)
             ·rw [if_pos V9] at H
              exact absurd H (by simp)
             ·rw [if_neg V9] at H
              obtain ⟨Y0, Y1⟩ := eqF V9
              by_cases G4 : i1.toList = ([103, 114, 97, 121] : List UInt8)
              ·rw [if_pos G4] at H
               obtain ⟨G5, G6⟩ := eqT G4
               clear G4
               by_cases Q8 : 0 < (i4.length : Int)
               ·rw [if_pos Q8] at H
                have Y2 : decide (0 < (i4.length : Int)) = true := decide_eq_true Q8
                have Y3 : decide (0 < i4.length) = true := decide_eq_true (by omega)
                clear Q8
                have H' := aM H
                clear H
                obtain ⟨ab7, ab8, W0⟩ := Kd.R_slice d1.out
                subst W0
                go_at_call 19
                go_enter Try.func19, Try.ntmps19
                have D0 : 0 ≤ (0 : Int) := (by omega)
                have D1 : 0 < (i4.length : Int) := dA
                obtain ⟨Y4, W1, s7⟩ := Kd.at_int (Kd.R_reads' d1.out).2.2 0 D0 D1
                cases W1
                have qi940 : (0 < i4.length) = True := eq_true (by omega)
                (try rw [show ((0 : Int)).toNat = 0 from rfl] at s7)
                (try rw [Addr.add_zero'] at s7)
                replace D0 := eq_true D0
                replace D1 := eq_true D1
                have Q9 := cg6 a2
                have R1 := blk_frozen a2.out 6
                try go_wp2
                (try (go_ret; (try simp only [])))
                (try (refine ⟨_, rfl, ?_⟩))
                have d2 := aM (FrI_get b8.out HLM878.out)
                have d3 := aM (FrI_get b8.out HLM879.out)
                have a9 := aM (FrI_get b8.out HLM880.out)
                clear b8
                try go_wp2
                go_meet
                case rel => exact ⟨_, (true), (d0), (l4), (l5), (l6), (l7), (e4), (rd i4 0), (l8), (l9), (m0), (m1), (a5), (h7), (.slice e5 d0.length e6), (.slice h8 e4.length h9), (.slice k7 a5.length i3), (.slice m9 h7.length n0), fS, H', ⟨by have := HJ2.out; first | omega | exact Nat.le_refl _⟩, ⟨rW [a3] b7 a2⟩, ⟨rW [a3] b2 a2⟩, ⟨sW [a3] a7 a2⟩, ⟨sW [a3] b9 a2⟩, ⟨kS⟩, ⟨kS⟩, ⟨kS⟩, ⟨kS⟩, ⟨bS⟩⟩
               ·rw [if_neg Q8] at H
                exact absurd H (by simp)
              ·rw [if_neg G4] at H
               obtain ⟨G5, G6⟩ := eqF G4
               by_cases W2 : i1.toList = ([99, 108, 105, 112] : List UInt8)
               ·rw [if_pos W2] at H
                exact absurd H (by simp)
               ·rw [if_neg W2] at H
                obtain ⟨Y5, Y6⟩ := eqF W2
                by_cases E0 : i1.toList = ([115, 97, 118, 101] : List UInt8)
                ·rw [if_pos E0] at H
                 obtain ⟨y6, y7⟩ := eqT E0
                 clear E0
                 replace H := bN H
                 obtain ⟨⟨t8, u5, u6, u7, u9, t9, v0, v1, v2, v3, v4⟩, A93, H⟩ := H
                 obtain ⟨LMc94, H⟩ := iL H
                 obtain ⟨D2, hy_⟩ : ∃ y_ : List (S31), y_ = (a5 ++ [(⟨t8, (⟨u5, u6, u7, u9⟩ : S26), t9, v0, (⟨v1, v2, v3, v4⟩ : S29)⟩ : S31)]) := ⟨_, rfl⟩
                 replace H : (impl_ExecToken.j1 kj2 true i5 i8 i9 j5 j6 i6 j7 j8 j9 k0 h6 e8 e9 d0 l4 l5 l6 l7 e4 m7 l8 l9 m0 m1 D2 h7) = some (r1, r2, r3, r4, r5, r6, r7, r8, r9, C2, C3, C4, C5, C6) := yS
                 have Ny956 := aM hy_
                 clear hy_
                 have H' := aM H
                 clear H
                 obtain ⟨v5, v6, W3⟩ := Kd.R_slice d1.out
                 subst W3
                 go_at_call 19
                 go_enter Try.func19, Try.ntmps19
                 try go_wp2
                 replace b2 := rD b2
                 replace a7 := sD a7
                 replace b9 := sD b9
                 replace b7 := rD b7
                 replace d1 := rD d1
                 replace a2 := bD a2
                 replace b8 := aM (FrI_drew b8.out)
                 replace HB := hD HB
                 refine start_ (n := 14) (S := fun w' => w'.cell? ⟨a3, 0, none⟩ = some (.slice e5 d0.length e6) ∧ w'.cell? ⟨a3, 1, none⟩ = some (.int .i64 l4) ∧ w'.cell? ⟨a3, 2, none⟩ = some (.int .i64 l5) ∧ w'.cell? ⟨a3, 3, none⟩ = some (.int .i64 l6) ∧ w'.cell? ⟨a3, 4, none⟩ = some (.int .i64 l7) ∧ w'.cell? ⟨a3, 5, none⟩ = some (.slice h8 e4.length h9) ∧ w'.cell? ⟨a3, 6, none⟩ = some (.int .i64 m7) ∧ w'.cell? ⟨a3, 7, none⟩ = some (.int .i64 l8) ∧ w'.cell? ⟨a3, 8, none⟩ = some (.int .i64 l9) ∧ w'.cell? ⟨a3, 9, none⟩ = some (.int .i64 m0) ∧ w'.cell? ⟨a3, 10, none⟩ = some (.int .i64 m1) ∧ w'.cell? ⟨a3, 11, none⟩ = some (.slice k7 a5.length i3)) (ds := [13]) (mB 14 0) (by kernel_rfl) rfl rfl ⟨(blk_cell a2.out 0).trans rfl, (blk_cell a2.out 1).trans rfl, (blk_cell a2.out 2).trans rfl, (blk_cell a2.out 3).trans rfl, (blk_cell a2.out 4).trans rfl, (blk_cell a2.out 5).trans rfl, (blk_cell a2.out 6).trans rfl, (blk_cell a2.out 7).trans rfl, (blk_cell a2.out 8).trans rfl, (blk_cell a2.out 9).trans rfl, (blk_cell a2.out 10).trans rfl, (blk_cell a2.out 11).trans rfl⟩ (fun hHeld => ?_); refine with_tabW impl_ExecToken.i19.tab46 impl_ExecToken.i19.bits46 (fun HT_ HW_ => ?_)
                 generalize t7.drew = w96 at b2 a7 b9 b7 d1 a2 b8 HB hHeld ⊢
                 refine pU 0 (some 248) (mB 14 1) ?_
                 refine pU 1 (some 249) (mB 14 3) ?_
                 refine pU 2 (some 250) (mB 14 7) ?_
                 refine pU 3 (some 251) (mB 14 15) ?_
                 refine pU 5 (some 253) (mB 14 47) ?_
                 refine pU 6 (some 254) (mB 14 111) ?_
                 refine tK 4 (some 252) (mB 14 127) ?_
                 refine tK 7 (some 255) (mB 14 255) ?_
                 refine one_ (i := 8) (N := some 256) (mB 14 511) rfl rfl (one_of HT_.out (by kernel_rfl)) (by decide) (fun K hK => ?_)
                 refine goes_ Try.func31 (by kernel_rfl) rfl #[.agg #[.slice e5 d0.length e6, .int .i64 l4, .int .i64 l5, .int .i64 l6, .int .i64 l7, .slice h8 e4.length h9, .int .i64 m7, .int .i64 l8, .int .i64 l9, .int .i64 m0, .int .i64 m1]] (by rfl) rfl rfl mA ?_
                 with_reducible refine (impl_copyGraphics.calls _ _ d0 l4 l5 l6 l7 _ _ e4 m7 l8 l9 m0 m1 t8 u5 u6 u7 u9 t9 v0 v1 v2 v3 v4 _ ?side1 ?side2 ?side3 ?side4 A93.out).mono ?_
                 (case side1 => exact cS (Kd.R_reads' b7.out).2.2)
                 (case side2 => exact (Kd.R_reads' b7.out).2.1)
                 (case side3 => exact cS (Kd.R_reads' b2.out).2.2)
                 (case side4 => exact (Kd.R_reads' b2.out).2.1)
                 rintro e w97 ⟨ac0, ac1, rfl, i7, k2, hb⟩
                 refine ⟨_, rfl, ?_⟩
                 have s8 := aM (Kd.R_lower (Kd.R_new' (Kd.R_new' (Kd.R_newM (M := fun k_ => (w.heap.size ≤ k_)) i7 (below_size bS) (fun k_ h_ => h_)) (Kd.R_lt (rS b7))) (Kd.R_lt (rS d1))) (below_size bS))
                 have s9 := aM (Kd.R_lower (Kd.R_new' (Kd.R_newM (M := fun k_ => (w.heap.size ≤ k_)) k2 (below_size bS) (fun k_ h_ => h_)) (Kd.R_lt (rS b2))) (below_size bS))
                 replace b2 := aM (Kd.R_elder' (rS b2) (Kd.R_base k2) hb)
                 replace a7 := aM (Kd.S_mono (Kd.S_told (Kd.S_told (Kd.S_old (sS a7) hb) (Kd.R_base i7)) (Kd.R_base k2)) (fun _ h_ => h_.1))
                 replace b9 := aM (Kd.S_elder' (sS b9) (Kd.R_base k2) hb)
                 replace b7 := aM (Kd.R_elder' (rS b7) (Kd.R_base i7) hb)
                 replace d1 := aM (Kd.R_elder' (rS d1) (Kd.R_base i7) hb)
                 replace a2 := kB_ a3 hb
                 replace b8 := aM (FrI_belowS hb b8.out (FrN0 b8.out))
                 replace HB := hB hb
                 (try clear hb)
                 (try clear hb2)
                 (try clear hk)
                 (try clear hi)
                 (try clear i7)
                 (try clear k2)
                 obtain ⟨G7, G8, G9⟩ := Kd.R_slice s8.out
                 (first | subst G9 | obtain ⟨rfl, rfl⟩ := slE G9)
                 obtain ⟨y8, y9, A0⟩ := Kd.R_slice s9.out
                 (first | subst A0 | obtain ⟨rfl, rfl⟩ := slE A0)
                 refine hK.out _ _ ⟨(blk_cell a2.out 0).trans rfl, (blk_cell a2.out 1).trans rfl, (blk_cell a2.out 2).trans rfl, (blk_cell a2.out 3).trans rfl, (blk_cell a2.out 4).trans rfl, (blk_cell a2.out 5).trans rfl, (blk_cell a2.out 6).trans rfl, (blk_cell a2.out 7).trans rfl, (blk_cell a2.out 8).trans rfl, (blk_cell a2.out 9).trans rfl, (blk_cell a2.out 10).trans rfl, (blk_cell a2.out 11).trans rfl⟩ (fun hHeld => ?_)
                 clear hK K
                 refine norm_ (a' := ?_) ?_ ?_
                 rotate_left
                 ·show Act.put _ (some 256) _ = _
                  simp only [Act.put, List.setIfInBounds_toArray, List.set_cons_zero, List.set_cons_succ, i64_w, i32_w]
                  rfl
                 refine one_ (i := 9) (N := some 257) (mB 14 1023) rfl rfl (one_of HT_.out (by kernel_rfl)) (by decide) (fun K hK => ?_)
                 refine value_ (w1 := ?_) (v := ?_) (by rfl) rfl ?_ ?_
                 rotate_left 2
                 ·go_simp
                  constructor
                  ·rfl
                  ·rfl
                 refine hK.out _ _ ⟨(blk_cell (blk_alloc a2.out _) 0).trans rfl, (blk_cell (blk_alloc a2.out _) 1).trans rfl, (blk_cell (blk_alloc a2.out _) 2).trans rfl, (blk_cell (blk_alloc a2.out _) 3).trans rfl, (blk_cell (blk_alloc a2.out _) 4).trans rfl, (blk_cell (blk_alloc a2.out _) 5).trans rfl, (blk_cell (blk_alloc a2.out _) 6).trans rfl, (blk_cell (blk_alloc a2.out _) 7).trans rfl, (blk_cell (blk_alloc a2.out _) 8).trans rfl, (blk_cell (blk_alloc a2.out _) 9).trans rfl, (blk_cell (blk_alloc a2.out _) 10).trans rfl, (blk_cell (blk_alloc a2.out _) 11).trans rfl⟩ (fun hHeld => ?_)
                 clear hK K
                 refine norm_ (a' := ?_) ?_ ?_
                 rotate_left
                 ·show Act.put _ (some 257) _ = _
                  simp only [Act.put, List.setIfInBounds_toArray, List.set_cons_zero, List.set_cons_succ, i64_w, i32_w]
                  rfl
                 refine one_ (i := 10) (N := some 258) (mB 14 2047) rfl rfl (one_of HT_.out (by kernel_rfl)) (by decide) (fun K hK => ?_)
                 refine Kd.S_append_step k31 (w0 := w) w.heap.size (by rfl) (.tmp 252) (.tmp 257) 32 31 (.agg #[(.slice none 0 0), (.int .i64 0), (.int .i64 0), (.int .i64 0), (.int .i64 0), (.slice none 0 0), (.int .i64 0), (.int .i64 0), (.int .i64 0), (.int .i64 0), (.int .i64 0)]) 120 rfl Try.underlying32 info31 rfl (by decide) (by omega) (.slice k7 a5.length i3) a5 (⟨t8, (⟨u5, u6, u7, u9⟩ : S26), t9, v0, (⟨v1, v2, v3, v4⟩ : S29)⟩ : S31) [.slice G7 t8.length G8, .int .i64 u5, .int .i64 u6, .int .i64 u7, .int .i64 u9, .slice y8 t9.length y9, .int .i64 v0, .int .i64 v1, .int .i64 v2, .int .i64 v3, .int .i64 v4] (fun k_ => (w.heap.size ≤ k_) ∧ some k_ ≠ (.slice h8 e4.length h9 : Value).ownBlock ∧ some k_ ≠ (.slice e5 d0.length e6 : Value).ownBlock ∧ some k_ ≠ (.slice v5 i4.length v6 : Value).ownBlock) (fun k_ => some k_ = (.slice G7 t8.length G8 : Value).ownBlock ∨ some k_ = (.slice y8 t9.length y9 : Value).ownBlock) rfl rfl ?aP (fun k_ hk_ => hk_.elim (fun h_ => ((Kd.R_mono (ok' := fun k_ => ((fun k_ => (w.heap.size ≤ k_) ∧ some k_ ≠ (.slice h8 e4.length h9 : Value).ownBlock ∧ some k_ ≠ (.slice e5 d0.length e6 : Value).ownBlock ∧ some k_ ≠ (.slice v5 i4.length v6 : Value).ownBlock)) k_ ∧ some k_ ≠ (.slice k7 a5.length i3 : Value).ownBlock) (Kd.R_apart' (Kd.R_apart' (s8.out) (Kd.R_typed b2.out) (by decide)) (Kd.S_typed a7.out) (by decide)) (fun k_ hk => ⟨⟨hk.1.1.1.1.1, ⟨hk.1.2, ⟨hk.1.1.1.2, hk.1.1.2⟩⟩⟩, hk.2⟩))).1 k_ h_.symm) (fun h_ => ((Kd.R_mono (ok' := fun k_ => ((fun k_ => (w.heap.size ≤ k_) ∧ some k_ ≠ (.slice h8 e4.length h9 : Value).ownBlock ∧ some k_ ≠ (.slice e5 d0.length e6 : Value).ownBlock ∧ some k_ ≠ (.slice v5 i4.length v6 : Value).ownBlock)) k_ ∧ some k_ ≠ (.slice k7 a5.length i3 : Value).ownBlock) (Kd.R_apart' (Kd.R_apart' (Kd.R_apart' (s9.out) (Kd.R_typed b7.out) (by decide)) (Kd.R_typed d1.out) (by decide)) (Kd.S_typed a7.out) (by decide)) (fun k_ hk => ⟨⟨hk.1.1.1.1.1, ⟨hk.1.1.1.2, ⟨hk.1.1.2, hk.1.2⟩⟩⟩, hk.2⟩))).1 k_ h_.symm)) ?aF ?aO ?aB ?aS ?aL ?_
                 (case aP => exact k31_mkM _ _ _ (⟨t8, (⟨u5, u6, u7, u9⟩ : S26), t9, v0, (⟨v1, v2, v3, v4⟩ : S29)⟩ : S31) (Kd.R_mono (Kd.R_tight rfl (Kd.R_mono (ok' := fun k_ => ((fun k_ => (w.heap.size ≤ k_) ∧ some k_ ≠ (.slice h8 e4.length h9 : Value).ownBlock ∧ some k_ ≠ (.slice e5 d0.length e6 : Value).ownBlock ∧ some k_ ≠ (.slice v5 i4.length v6 : Value).ownBlock)) k_ ∧ some k_ ≠ (.slice k7 a5.length i3 : Value).ownBlock) (Kd.R_apart' (Kd.R_apart' (s8.out) (Kd.R_typed b2.out) (by decide)) (Kd.S_typed a7.out) (by decide)) (fun k_ hk => ⟨⟨hk.1.1.1.1.1, ⟨hk.1.2, ⟨hk.1.1.1.2, hk.1.1.2⟩⟩⟩, hk.2⟩))) (fun _ h_ => Or.inl h_)) (Kd.R_mono (Kd.R_tight rfl (Kd.R_mono (ok' := fun k_ => ((fun k_ => (w.heap.size ≤ k_) ∧ some k_ ≠ (.slice h8 e4.length h9 : Value).ownBlock ∧ some k_ ≠ (.slice e5 d0.length e6 : Value).ownBlock ∧ some k_ ≠ (.slice v5 i4.length v6 : Value).ownBlock)) k_ ∧ some k_ ≠ (.slice k7 a5.length i3 : Value).ownBlock) (Kd.R_apart' (Kd.R_apart' (Kd.R_apart' (s9.out) (Kd.R_typed b7.out) (by decide)) (Kd.R_typed d1.out) (by decide)) (Kd.S_typed a7.out) (by decide)) (fun k_ hk => ⟨⟨hk.1.1.1.1.1, ⟨hk.1.1.1.2, ⟨hk.1.1.2, hk.1.2⟩⟩⟩, hk.2⟩))) (fun _ h_ => Or.inr (h_))))
                 (case aB => exact bS)
                 (case aF => exact (fun k_ hk => ⟨(Nat.le_trans (below_size bS) hk), Kd.fresh' (Kd.R_lt (rS b2)) k_ hk, Kd.fresh' (Kd.R_lt (rS b7)) k_ hk, Kd.fresh' (Kd.R_lt (rS d1)) k_ hk⟩))
                 (case aO => exact (by exact sT (Kd.S_mono a7.out (fun k_ hk => ⟨⟨hk.1.1.1, ⟨hk.1.1.2.1, ⟨hk.1.1.2.2.1, hk.1.1.2.2.2⟩⟩⟩, fun e_ => e_.elim (fun h_ => hk.1.2 h_) (fun h_ => hk.2 h_)⟩))))
                 (case aS => exact (below_size bS))
                 (case aL => have := LMc94.out; (try dsimp only at this); omega)
                 intro ac2 w98 ho hb hg hat
                 rw [← Ny956.out] at ho
                 have A1 := aM (ho)
                 replace b2 := aM (Kd.R_over' (rS b2) (Kd.S_typed (sS a7)) (by decide) hg)
                 replace b9 := aM (Kd.S_over' (sS b9) (Kd.S_typed (sS a7)) (by decide) hg)
                 replace a2 := aM (blk_grown (g := a3) kS hg (Kd.S_ne a7.out a2.out (by decide)))
                 replace b7 := aM (Kd.R_over' (rS b7) (Kd.S_typed (sS a7)) (by decide) hg)
                 replace d1 := aM (Kd.R_over' (rS d1) (Kd.S_typed (sS a7)) (by decide) hg)
                 replace b8 := aM (FrI_grownS hg (Kd.S_typed (sS a7)) (by decide) b8.out (FrN0 b8.out))
                 replace HB := aM (hb)
                 clear a7 s8 s9
                 clear ho hb hg hat
                 obtain ⟨H2, H3, A2⟩ := Kd.S_slice A1.out
                 (first | subst A2 | obtain ⟨rfl, rfl⟩ := slE A2)
                 refine hK.out _ _ ⟨(blk_cell a2.out 0).trans rfl, (blk_cell a2.out 1).trans rfl, (blk_cell a2.out 2).trans rfl, (blk_cell a2.out 3).trans rfl, (blk_cell a2.out 4).trans rfl, (blk_cell a2.out 5).trans rfl, (blk_cell a2.out 6).trans rfl, (blk_cell a2.out 7).trans rfl, (blk_cell a2.out 8).trans rfl, (blk_cell a2.out 9).trans rfl, (blk_cell a2.out 10).trans rfl, (blk_cell a2.out 11).trans rfl⟩ (fun hHeld => ?_)
                 clear hK K
                 refine norm_ (a' := ?_) ?_ ?_
                 rotate_left
                 ·show Act.put _ (some 258) _ = _
                  simp only [Act.put, List.setIfInBounds_toArray, List.set_cons_zero, List.set_cons_succ, i64_w, i32_w]
                  rfl
                 refine pU 11 (some 259) (mB 14 4095) ?_
                 refine pU 12 (some 260) (mB 14 8191) ?_
                 refine last_ (i := 13) (N := none) (mB 14 16383) rfl rfl (one_of HT_.out (by kernel_rfl)) (by decide) (fun K hK => ?_)
                 have hs102 := cg11 a2
                 have hfs102 := blk_frozen a2.out 11
                 refine skip_ (w1 := ?_) (by rfl) rfl ?_ ?_
                 rotate_left
                 ·go_simp
                  rfl
                 refine hK.out _ _ ?_
                 clear hK K
                 refine done_ (done_of HT_.out (by kernel_rfl)) ?_
                 try go_wp2
                 (try (go_ret; (try simp only [])))
                 (try (refine ⟨_, rfl, ?_⟩))
                 have d2 := aM (FrI_get b8.out HLM878.out)
                 have d3 := aM (FrI_get b8.out HLM879.out)
                 have a9 := aM (FrI_get b8.out HLM880.out)
                 clear b8
                 try go_wp2
                 go_meet
                 case rel => exact ⟨_, (true), (d0), (l4), (l5), (l6), (l7), (e4), (m7), (l8), (l9), (m0), (m1), (D2), (h7), (.slice e5 d0.length e6), (.slice h8 e4.length h9), (.slice H2 D2.length H3), (.slice m9 h7.length n0), fS, H', ⟨by have := HJ2.out; first | omega | exact Nat.le_refl _⟩, ⟨rW [a3] b7 a2⟩, ⟨rW [a3] b2 a2⟩, ⟨sW [a3] A1 a2⟩, ⟨sW [a3] b9 a2⟩, ⟨kS⟩, ⟨kS⟩, ⟨kS⟩, ⟨kS⟩, ⟨bS⟩⟩
                ·rw [if_neg E0] at H
                 obtain ⟨y6, y7⟩ := eqF E0
                 by_cases v8 : i1.toList = ([114, 101, 115, 116, 111, 114, 101] : List UInt8)
                 ·rw [if_pos v8] at H
                  obtain ⟨D3, D4⟩ := eqT v8
                  clear v8
                  by_cases q0 : (a5.length : Int) = 0
                  ·rw [if_pos q0] at H
                   have v9 : ((a5.length : Int) == 0) = true := beq_iff_eq.mpr q0
                   have w8 : ((a5.length : Int) != 0) = false := bne_eq_false_iff_eq.mpr q0
                   clear q0
                   have H' := aM H
                   clear H
                   obtain ⟨Y7, Y8, H4⟩ := Kd.R_slice d1.out
                   subst H4
                   go_at_call 19
                   go_enter Try.func19, Try.ntmps19
                   have E1 := cg11 a2
                   try go_wp2
                   (try (go_ret; (try simp only [])))
                   (try (refine ⟨_, rfl, ?_⟩))
                   have d2 := aM (FrI_get b8.out HLM878.out)
                   have d3 := aM (FrI_get b8.out HLM879.out)
                   have a9 := aM (FrI_get b8.out HLM880.out)
                   clear b8
                   try go_wp2
                   go_meet
                   case rel => exact ⟨_, (false), (d0), (l4), (l5), (l6), (l7), (e4), (m7), (l8), (l9), (m0), (m1), (a5), (h7), (.slice e5 d0.length e6), (.slice h8 e4.length h9), (.slice k7 a5.length i3), (.slice m9 h7.length n0), fS, H', ⟨by have := HJ2.out; first | omega | exact Nat.le_refl _⟩, ⟨by exact rT (Kd.R_mono b7.out (fun _ hk => hk.1))⟩, ⟨rS b2⟩, ⟨by exact sT (Kd.S_mono a7.out (fun _ hk => ⟨hk.1, ⟨hk.2.2.1, hk.2.1⟩⟩))⟩, ⟨by exact sT (Kd.S_mono b9.out (fun _ hk => hk.1))⟩, ⟨kS⟩, ⟨kS⟩, ⟨kS⟩, ⟨kS⟩, ⟨bS⟩⟩
                  ·rw [if_neg q0] at H
                   have v9 : ((a5.length : Int) == 0) = false := beq_eq_false_iff_ne.mpr q0
                   have w8 : ((a5.length : Int) != 0) = true := bne_iff_ne.mpr q0
                   have D5 : ¬ (a5 = []) := fun h_ => q0 (by rw [h_]; rfl)
                   obtain ⟨ji107, hji107⟩ : ∃ j_ : Int, (wrap64 ((a5.length : Int) - 1)) = j_ := ⟨_, rfl⟩
                   replace H : (if 0 ≤ (ji107) then (if (ji107) < (a5.length : Int) then (if (ji107) ≤ (a5.length : Int) then (impl_ExecToken.j1 kj2 true i5 i8 i9 j5 j6 i6 j7 j8 j9 k0 h6 e8 e9 d0 ((rd_T31 a5 (ji107)).f1.f0) ((rd_T31 a5 (ji107)).f1.f1) ((rd_T31 a5 (ji107)).f1.f2) ((rd_T31 a5 (ji107)).f1.f3) ((rd_T31 a5 (ji107)).f2) ((rd_T31 a5 (ji107)).f3) ((rd_T31 a5 (ji107)).f4.f0) ((rd_T31 a5 (ji107)).f4.f1) ((rd_T31 a5 (ji107)).f4.f2) ((rd_T31 a5 (ji107)).f4.f3) (a5.take ((ji107) : Int).toNat) h7) else (none)) else (none)) else (none)) = some (r1, r2, r3, r4, r5, r6, r7, r8, r9, C2, C3, C4, C5, C6) := by first | (rw [hji107] at H; exact H) | (simp only [hji107] at H ⊢; exact H)
                   have hji107w : (IntKind.i64.wrap ((a5.length : Int) - 1)) = ji107 := (i64_w _).trans hji107
                   obtain ⟨D6, H⟩ := iT H
                   obtain ⟨D7, H⟩ := iT H
                   obtain ⟨D8, D9, H⟩ := iF H
                   obtain ⟨x4, hy_⟩ : ∃ y_ : List (S31), y_ = (a5.take ((ji107) : Int).toNat) := ⟨_, rfl⟩
                   replace H : (impl_ExecToken.j1 kj2 true i5 i8 i9 j5 j6 i6 j7 j8 j9 k0 h6 e8 e9 d0 ((rd_T31 a5 (ji107)).f1.f0) ((rd_T31 a5 (ji107)).f1.f1) ((rd_T31 a5 (ji107)).f1.f2) ((rd_T31 a5 (ji107)).f1.f3) ((rd_T31 a5 (ji107)).f2) ((rd_T31 a5 (ji107)).f3) ((rd_T31 a5 (ji107)).f4.f0) ((rd_T31 a5 (ji107)).f4.f1) ((rd_T31 a5 (ji107)).f4.f2) ((rd_T31 a5 (ji107)).f4.f3) x4 h7) = some (r1, r2, r3, r4, r5, r6, r7, r8, r9, C2, C3, C4, C5, C6) := yS
                   have Ny960 := aM hy_
                   clear hy_
                   have H' := aM H
                   clear H
                   obtain ⟨o6, o7, H5⟩ := Kd.R_slice d1.out
                   subst H5
                   go_at_call 19
                   go_enter Try.func19, Try.ntmps19
                   have H6 := cg0 a2
                   have E2 := cg11 a2
                   try go_wp2
                   replace b2 := rD b2
                   replace a7 := sD a7
                   replace b9 := sD b9
                   replace b7 := rD b7
                   replace d1 := rD d1
                   replace a2 := bD a2
                   replace b8 := aM (FrI_drew b8.out)
                   replace HB := hD HB
                   have w9 : 0 ≤ ((ji107) : Int) := dA
                   have x0 : (ji107) < (a5.length : Int) := dA
                   obtain ⟨d4, q2, q3, k9, l3, W4, m5, q4, q5, q6, q7, m6, q8, r0, s0, s1, n1, hl959_0, hi959_0, hl959_5, hi959_5⟩ := at_T31 (Kd.S_reads' a7.out).2.2 (ji107) w9 x0
                   cases W4
                   obtain ⟨ce959, hce959, oj959, hoj959, hMe959, hcc959, hsp959⟩ := S_split a7.out z31 (ji107) w9 (by first | exact x0 | exact dA | (have e_ := (Kd.S_reads' a7.out).1; omega))
                   obtain ⟨ve959_0, ve959_5, rfl, ge959_0, ge959_5⟩ := k31_openM hMe959
                   have hv959_0 := hcc959 0 _ rfl
                   rw [Nat.add_zero] at hv959_0
                   replace hv959_0 := Option.some.inj (hv959_0.symm.trans m5)
                   rw [hv959_0] at ge959_0
                   have HL959_0 := aM (show Kd.R (Kd.int .i64) 3 _ _ _ _ ((rd_T31 a5 (ji107)).f0) from Kd.R_mono ge959_0 hoj959)
                   replace hsp959 := S_spl hsp959 ge959_0
                   clear hv959_0 ge959_0
                   have hv959_5 := hcc959 5 _ rfl
                   rw [add_field _ _ 5 (by omega)] at hv959_5
                   replace hv959_5 := Option.some.inj (hv959_5.symm.trans m6)
                   rw [hv959_5] at ge959_5
                   have HL959_5 := aM (show Kd.R k80 80 _ _ _ _ ((rd_T31 a5 (ji107)).f2) from Kd.R_mono ge959_5 hoj959)
                   replace hsp959 := S_spl hsp959 ge959_5
                   clear hv959_5 ge959_5
                   clear hcc959 hce959
                   have HSP959 := aM (S_spd hsp959)
                   clear hsp959 hoj959
                   have x5 := aM hi959_0
                   have R2 := aM hl959_0
                   clear hi959_0 hl959_0
                   have x6 := aM hi959_5
                   have R7 := aM hl959_5
                   clear hi959_5 hl959_5
                   replace w9 := eq_true w9
                   replace x0 := eq_true x0
                   refine start_ (n := 15) (S := fun w' => w'.cell? ⟨a3, 11, none⟩ = some (.slice (some d4) a5.length i3) ∧ w'.cell? (d4.add (((ji107)).toNat * 11)) = some (.slice q2 ((rd_T31 a5 (ji107)).f0).length q3) ∧ w'.cell? ⟨(d4.add (((ji107)).toNat * 11)).block, (d4.add (((ji107)).toNat * 11)).off + 1, none⟩ = some (.int .i64 ((rd_T31 a5 (ji107)).f1.f0)) ∧ w'.cell? ⟨(d4.add (((ji107)).toNat * 11)).block, (d4.add (((ji107)).toNat * 11)).off + 2, none⟩ = some (.int .i64 ((rd_T31 a5 (ji107)).f1.f1)) ∧ w'.cell? ⟨(d4.add (((ji107)).toNat * 11)).block, (d4.add (((ji107)).toNat * 11)).off + 3, none⟩ = some (.int .i64 ((rd_T31 a5 (ji107)).f1.f2)) ∧ w'.cell? ⟨(d4.add (((ji107)).toNat * 11)).block, (d4.add (((ji107)).toNat * 11)).off + 4, none⟩ = some (.int .i64 ((rd_T31 a5 (ji107)).f1.f3)) ∧ w'.cell? ⟨(d4.add (((ji107)).toNat * 11)).block, (d4.add (((ji107)).toNat * 11)).off + 5, none⟩ = some (.slice k9 ((rd_T31 a5 (ji107)).f2).length l3) ∧ w'.cell? ⟨(d4.add (((ji107)).toNat * 11)).block, (d4.add (((ji107)).toNat * 11)).off + 6, none⟩ = some (.int .i64 ((rd_T31 a5 (ji107)).f3)) ∧ w'.cell? ⟨(d4.add (((ji107)).toNat * 11)).block, (d4.add (((ji107)).toNat * 11)).off + 7, none⟩ = some (.int .i64 ((rd_T31 a5 (ji107)).f4.f0)) ∧ w'.cell? ⟨(d4.add (((ji107)).toNat * 11)).block, (d4.add (((ji107)).toNat * 11)).off + 8, none⟩ = some (.int .i64 ((rd_T31 a5 (ji107)).f4.f1)) ∧ w'.cell? ⟨(d4.add (((ji107)).toNat * 11)).block, (d4.add (((ji107)).toNat * 11)).off + 9, none⟩ = some (.int .i64 ((rd_T31 a5 (ji107)).f4.f2)) ∧ w'.cell? ⟨(d4.add (((ji107)).toNat * 11)).block, (d4.add (((ji107)).toNat * 11)).off + 10, none⟩ = some (.int .i64 ((rd_T31 a5 (ji107)).f4.f3))) (ds := [14]) (mB 15 0) (by kernel_rfl) rfl rfl ⟨(blk_cell a2.out 11).trans rfl, m5, q4, q5, q6, q7, m6, q8, r0, s0, s1, n1⟩ (fun hHeld => ?_)
                   generalize t7.drew = W5 at b2 a7 b9 b7 d1 a2 b8 HB HL959_0 HL959_5 x5 x6 m5 q4 n1 q5 q6 q7 m6 q8 r0 s0 s1 HSP959 hHeld ⊢
                   refine pU 0 (some 273) (mB 15 1) ?_
                   refine pU 1 (some 274) (mB 15 3) ?_
                   refine pU 2 (some 275) (mB 15 7) ?_
                   refine pU 3 (some 276) (mB 15 15) ?_
                   refine pU 5 (some 278) (mB 15 47) ?_
                   refine pU 6 (some 279) (mB 15 111) ?_
                   refine pU 7 (some 280) (mB 15 239) ?_
                   refine tK 4 (some 277) (mB 15 255) ?_
                   refine tK 8 (some 281) (mB 15 511) ?_
                   refine pU 9 (some 282) (mB 15 1023) ?_
                   refine pU 10 (some 283) (mB 15 2047) ?_
                   refine pU 11 (some 284) (mB 15 4095) ?_
                   refine tK 12 (some 285) (mB 15 8191) ?_
                   refine pU 13 (some 286) (mB 15 16383) ?_
                   refine last_ (i := 14) (N := none) (mB 15 32767) rfl rfl (by kernel_rfl) (by decide) (fun K hK => ?_)
                   have hs114 := cg0 a2
                   have hfs114 := blk_frozen a2.out 0
                   have hs115 := cg1 a2
                   have hfs115 := blk_frozen a2.out 1
                   have hs116 := cg2 a2
                   have hfs116 := blk_frozen a2.out 2
                   have hs117 := cg3 a2
                   have hfs117 := blk_frozen a2.out 3
                   have hs118 := cg4 a2
                   have hfs118 := blk_frozen a2.out 4
                   have hs119 := cg5 a2
                   have hfs119 := blk_frozen a2.out 5
                   have hs120 := cg6 a2
                   have hfs120 := blk_frozen a2.out 6
                   have hs121 := cg7 a2
                   have hfs121 := blk_frozen a2.out 7
                   have hs122 := cg8 a2
                   have hfs122 := blk_frozen a2.out 8
                   have hs123 := cg9 a2
                   have hfs123 := blk_frozen a2.out 9
                   have hs124 := cg10 a2
                   have hfs124 := blk_frozen a2.out 10
                   refine skip_ (w1 := ?_) (by rfl) rfl ?_ ?_
                   rotate_left
                   ·go_simp
                    rfl
                   refine hK.out _ _ ?_
                   clear hK K
                   refine done_ (by kernel_rfl) ?_
                   have H7 := cg0 a2
                   have H8 := blk_frozen a2.out 0
                   try go_wp2
                   obtain ⟨m2, hw_⟩ : ∃ w_ : World, w_ = ((((((((((((W5.setCell ⟨a3, 0, none⟩ (.slice q2 ((rd_T31 a5 (ji107)).f0).length q3)).setCell ⟨a3, 1, none⟩ (.int .i64 ((rd_T31 a5 (ji107)).f1.f0))).setCell ⟨a3, 2, none⟩ (.int .i64 ((rd_T31 a5 (ji107)).f1.f1))).setCell ⟨a3, 3, none⟩ (.int .i64 ((rd_T31 a5 (ji107)).f1.f2))).setCell ⟨a3, 4, none⟩ (.int .i64 ((rd_T31 a5 (ji107)).f1.f3))).setCell ⟨a3, 5, none⟩ (.slice k9 ((rd_T31 a5 (ji107)).f2).length l3)).setCell ⟨a3, 6, none⟩ (.int .i64 ((rd_T31 a5 (ji107)).f3))).setCell ⟨a3, 7, none⟩ (.int .i64 ((rd_T31 a5 (ji107)).f4.f0))).setCell ⟨a3, 8, none⟩ (.int .i64 ((rd_T31 a5 (ji107)).f4.f1))).setCell ⟨a3, 9, none⟩ (.int .i64 ((rd_T31 a5 (ji107)).f4.f2))).setCell ⟨a3, 10, none⟩ (.int .i64 ((rd_T31 a5 (ji107)).f4.f3))).setCell ⟨a3, 0, none⟩ (.slice e5 d0.length e6)) := ⟨_, rfl⟩
                   have n0_ : Aside0 (Kd.R k80 80 m2 w.heap.size (fun k_ => (w.heap.size ≤ k_)) (.slice h8 e4.length h9) e4) := ⟨by rw [hw_]; exact (by exact Kd.R_mono (R_on (g := a3) (Kd.R_types b2.out a2.out (by decide)) (fun _ hk => hk.2)) (fun _ hk => hk.1))⟩
                   have n1_ : Aside0 (Kd.S k31 31 m2 w.heap.size (fun k_ => (w.heap.size ≤ k_) ∧ some k_ ≠ (.slice h8 e4.length h9 : Value).ownBlock ∧ some k_ ≠ (.slice e5 d0.length e6 : Value).ownBlock ∧ some k_ ≠ (.slice o6 i4.length o7 : Value).ownBlock) (.slice (some d4) a5.length i3) a5) := ⟨by rw [hw_]; exact (by exact Kd.S_mono (S_on (g := a3) (Kd.S_types a7.out a2.out (by decide)) (fun _ hk => hk.2)) (fun _ hk => ⟨hk.1.1, ⟨hk.1.2.1, ⟨hk.1.2.2.1, hk.1.2.2.2⟩⟩⟩))⟩
                   have n2_ : Aside0 (Kd.S k60 60 m2 w.heap.size (fun k_ => (w.heap.size ≤ k_) ∧ some k_ ≠ (.slice h8 e4.length h9 : Value).ownBlock) (.slice m9 h7.length n0) h7) := ⟨by rw [hw_]; exact (by exact Kd.S_mono (S_on (g := a3) (Kd.S_types b9.out a2.out (by decide)) (fun _ hk => hk.2)) (fun _ hk => ⟨hk.1.1, hk.1.2⟩))⟩
                   have n3_ : Aside0 (Kd.R (Kd.int .i64) 3 m2 w.heap.size (fun k_ => (w.heap.size ≤ k_) ∧ some k_ ≠ (.slice o6 i4.length o7 : Value).ownBlock) (.slice e5 d0.length e6) d0) := ⟨by rw [hw_]; exact (by exact Kd.R_mono (R_on (g := a3) (Kd.R_types b7.out a2.out (by decide)) (fun _ hk => hk.2)) (fun _ hk => ⟨hk.1.1, hk.1.2⟩))⟩
                   have n4_ : Aside0 (Kd.R (Kd.int .i64) 3 m2 w.heap.size (fun k_ => (w.heap.size ≤ k_) ∧ some k_ ≠ (.slice e5 d0.length e6 : Value).ownBlock) (.slice o6 i4.length o7) i4) := ⟨by rw [hw_]; exact (by exact Kd.R_mono (R_on (g := a3) (Kd.R_types d1.out a2.out (by decide)) (fun _ hk => hk.2)) (fun _ hk => ⟨hk.1.1, hk.1.2⟩))⟩
                   have n5_ : Aside0 (Kd.R (Kd.int .i64) 3 m2 w.heap.size (fun k_ => (w.heap.size ≤ k_) ∧ some k_ ≠ (.slice h8 e4.length h9 : Value).ownBlock ∧ some k_ ≠ (.slice (some d4) a5.length i3 : Value).ownBlock ∧ some k_ ≠ (.slice e5 d0.length e6 : Value).ownBlock ∧ some k_ ≠ (.slice o6 i4.length o7 : Value).ownBlock) (.slice q2 ((rd_T31 a5 (ji107)).f0).length q3) ((rd_T31 a5 (ji107)).f0)) := ⟨by rw [hw_]; exact (by exact Kd.R_mono (R_on (g := a3) (Kd.R_types HL959_0.out a2.out (by decide)) (fun _ hk => hk.2)) (fun _ hk => ⟨hk.1.1.1, ⟨hk.1.1.2.1, ⟨hk.1.2, ⟨hk.1.1.2.2.1, hk.1.1.2.2.2⟩⟩⟩⟩))⟩
                   have n6_ : Aside0 (Kd.R k80 80 m2 w.heap.size (fun k_ => (w.heap.size ≤ k_) ∧ some k_ ≠ (.slice h8 e4.length h9 : Value).ownBlock ∧ some k_ ≠ (.slice (some d4) a5.length i3 : Value).ownBlock ∧ some k_ ≠ (.slice e5 d0.length e6 : Value).ownBlock ∧ some k_ ≠ (.slice o6 i4.length o7 : Value).ownBlock) (.slice k9 ((rd_T31 a5 (ji107)).f2).length l3) ((rd_T31 a5 (ji107)).f2)) := ⟨by rw [hw_]; exact (by exact Kd.R_mono (R_on (g := a3) (Kd.R_types HL959_5.out a2.out (by decide)) (fun _ hk => hk.2)) (fun _ hk => ⟨hk.1.1.1, ⟨hk.1.1.2.1, ⟨hk.1.2, ⟨hk.1.1.2.2.1, hk.1.1.2.2.2⟩⟩⟩⟩))⟩
                   have n7_ : Aside0 (Kd.S k31 31 m2 w.heap.size (fun k_ => (w.heap.size ≤ k_) ∧ some k_ ≠ (.slice h8 e4.length h9 : Value).ownBlock ∧ some k_ ≠ (.slice e5 d0.length e6 : Value).ownBlock ∧ some k_ ≠ (.slice o6 i4.length o7 : Value).ownBlock ∧ some k_ ≠ (.slice q2 ((rd_T31 a5 (ji107)).f0).length q3 : Value).ownBlock ∧ some k_ ≠ (.slice k9 ((rd_T31 a5 (ji107)).f2).length l3 : Value).ownBlock) (.slice (some d4) ((ji107) : Int).toNat i3) (a5.take ((ji107) : Int).toNat)) := ⟨by rw [hw_]; exact (by exact Kd.S_mono (S_on (g := a3) (Kd.S_types HSP959.out a2.out (by decide)) (fun _ hk => hk.2)) (fun _ hk => ⟨hk.1.1.1.1, ⟨hk.1.1.1.2.1, ⟨hk.1.1.1.2.2.1, ⟨hk.1.1.1.2.2.2, ⟨hk.1.1.2, hk.1.2⟩⟩⟩⟩⟩))⟩
                   have n8_ : Aside0 (m2.heap[a3]? = some (.cells #[.slice e5 d0.length e6, .int .i64 ((rd_T31 a5 (ji107)).f1.f0), .int .i64 ((rd_T31 a5 (ji107)).f1.f1), .int .i64 ((rd_T31 a5 (ji107)).f1.f2), .int .i64 ((rd_T31 a5 (ji107)).f1.f3), .slice k9 ((rd_T31 a5 (ji107)).f2).length l3, .int .i64 ((rd_T31 a5 (ji107)).f3), .int .i64 ((rd_T31 a5 (ji107)).f4.f0), .int .i64 ((rd_T31 a5 (ji107)).f4.f1), .int .i64 ((rd_T31 a5 (ji107)).f4.f2), .int .i64 ((rd_T31 a5 (ji107)).f4.f3), .slice (some d4) a5.length i3, .slice m9 h7.length n0] 35 (0, 0))) := ⟨by rw [hw_]; exact (kQ a2)⟩
                   have n9_ : Aside0 (FrI L81 a3 [35, 40] m2) := ⟨by rw [hw_]; exact (by exact FrI_self b8.out (FrN0 b8.out))⟩
                   have n10_ : Aside0 (Below w.heap.size w m2) := ⟨by rw [hw_]; exact bS⟩
                   rw [← hw_]
                   clear hw_ b2 a7 b9 b7 d1 HL959_0 HL959_5 HSP959 a2 b8 HB
                   have b2 := n0_
                   have a7 := n1_
                   have b9 := n2_
                   have b7 := n3_
                   have d1 := n4_
                   have HL959_0 := n5_
                   have HL959_5 := n6_
                   have HSP959 := n7_
                   have a2 := n8_
                   have b8 := n9_
                   have HB := n10_
                   clear n0_ n1_ n2_ n3_ n4_ n5_ n6_ n7_ n8_ n9_ n10_
                   replace b2 := rD b2
                   replace a7 := sD a7
                   replace b9 := sD b9
                   replace b7 := rD b7
                   replace d1 := rD d1
                   replace HL959_0 := rD HL959_0
                   replace HL959_5 := rD HL959_5
                   replace HSP959 := sD HSP959
                   replace a2 := bD a2
                   replace b8 := aM (FrI_drew b8.out)
                   replace HB := hD HB
                   have x1 : ((ji107) : Int) ≤ ((a5.length : Int) : Int) := dA
                   obtain ⟨i0128, hi0128, _, hsz128, _⟩ := info_parts info31
                   have hcut128 := cut_to (P := Try.prog) 32 31 .i64 Try.underlying32 hi0128 (some d4) a5.length i3 (ji107) (dA) x1 (Kd.S_reads' a7.out).2.1
                   have t0 := HSP959.out
                   have hy128 : x4.length = ((ji107) : Int).toNat := (by rw [Ny960.out, List.length_take]; omega)
                   rw [← Ny960.out] at t0
                   rw [← hy128] at t0 hcut128
                   clear hy128 hi0128 hsz128 a7
                   have A3 := aM t0
                   clear t0
                   replace x1 := eq_true x1
                   clear HSP959
                   refine start_ (n := 15) (S := fun w' => w'.cell? ⟨a3, 11, none⟩ = some (.slice (some d4) a5.length i3)) (ds := [14]) (mB 15 0) (by kernel_rfl) rfl rfl ((blk_cell a2.out 11).trans rfl) (fun hHeld => ?_); refine with_tabW impl_ExecToken.i19.tab53 impl_ExecToken.i19.bits53 (fun HT_ HW_ => ?_)
                   generalize m2.drew = ac3 at b2 b9 b7 d1 HL959_0 HL959_5 a2 b8 HB A3 hHeld ⊢
                   refine pU 0 (some 291) (mB 15 1) ?_
                   refine pU 1 (some 292) (mB 15 3) ?_
                   refine pU 2 (some 293) (mB 15 7) ?_
                   refine pU 3 (some 294) (mB 15 15) ?_
                   refine pU 5 (some 296) (mB 15 47) ?_
                   refine pU 6 (some 297) (mB 15 111) ?_
                   refine pU 7 (some 298) (mB 15 239) ?_
                   refine tK 4 (some 295) (mB 15 255) ?_
                   refine tK 8 (some 299) (mB 15 511) ?_
                   refine pU 9 (some 300) (mB 15 1023) ?_
                   refine pU 10 (some 301) (mB 15 2047) ?_
                   refine pU 11 (some 302) (mB 15 4095) ?_
                   refine pU 12 (some 303) (mB 15 8191) ?_
                   refine pU 13 (some 304) (mB 15 16383) ?_
                   refine last_ (i := 14) (N := none) (mB 15 32767) rfl rfl (one_of HT_.out (by kernel_rfl)) (by decide) (fun K hK => ?_)
                   have hs129 := cg11 a2
                   have hfs129 := blk_frozen a2.out 11
                   refine skip_ (w1 := ?_) (by rfl) rfl ?_ ?_
                   rotate_left
                   ·go_simp
                    rfl
                   refine hK.out _ _ ?_
                   clear hK K
                   refine done_ (done_of HT_.out (by kernel_rfl)) ?_
                   try go_wp2
                   (try (go_ret; (try simp only [])))
                   (try (refine ⟨_, rfl, ?_⟩))
                   have d2 := aM (FrI_get b8.out HLM878.out)
                   have d3 := aM (FrI_get b8.out HLM879.out)
                   have a9 := aM (FrI_get b8.out HLM880.out)
                   clear b8
                   try go_wp2
                   go_meet
                   case rel => exact ⟨_, (true), (d0), ((rd_T31 a5 (ji107)).f1.f0), ((rd_T31 a5 (ji107)).f1.f1), ((rd_T31 a5 (ji107)).f1.f2), ((rd_T31 a5 (ji107)).f1.f3), ((rd_T31 a5 (ji107)).f2), ((rd_T31 a5 (ji107)).f3), ((rd_T31 a5 (ji107)).f4.f0), ((rd_T31 a5 (ji107)).f4.f1), ((rd_T31 a5 (ji107)).f4.f2), ((rd_T31 a5 (ji107)).f4.f3), (x4), (h7), (.slice e5 d0.length e6), (.slice k9 ((rd_T31 a5 (ji107)).f2).length l3), (.slice (some d4) x4.length i3), (.slice m9 h7.length n0), fS, H', ⟨by have := HJ2.out; first | omega | exact Nat.le_refl _⟩, ⟨rW [a3] b7 a2⟩, ⟨rW [a3] HL959_5 a2⟩, ⟨sW [a3] A3 a2⟩, ⟨sW [a3] b9 a2⟩, ⟨kS⟩, ⟨kS⟩, ⟨kS⟩, ⟨kS⟩, ⟨bS⟩⟩
                 ·rw [if_neg v8] at H
                  exact absurd H (by simp)
        ·obtain rfl := Bool.eq_false_iff.mpr V2
         rw [if_neg nF] at H
         have H' := aM H
         clear H
         have hnb130 := nP d6 d5
         have hnb131 := nP e0 e1
         have hnb132 := nP f6 g1
         have hz133 := cz2 d3
         go_wp2_with (first | ((with_reducible refine gC 16 ?_); refine cM (some 49) Try.func16 (impl_IsStackOp.calls i1 _ _ U9.out) ?_; rintro e w' ⟨rfl, ⟨nd, rfl⟩⟩; refine ⟨_, rfl, ?_⟩; have hnb134 := nP g0 f5; have hnb135 := nP g2 f7; have H9 := cg0 a2; have I0 := blk_frozen a2.out 0) | ((with_reducible refine gC 18 ?_); refine cL (some 68) Try.func18 #[.slice s2 k1.length m8, .int .i64 u4] ?_; (with_reducible refine (impl_TakeNumbers.calls kj2 _ _ k1 u4 d0 i4 _ _ ?side1 ?side2 X1.out).mono ?_); (case side1 => refine (Kd.R_reads' (e := 3) (base := w.heap.size) (ok := fun k_ => ((w.heap.size ≤ k_) ∧ True)) (n := k1.length) (c := m8) ?_).2.2; exact (by exact rG e3 a2)); (case side2 => exact (Kd.R_reads' e3.out).2.1); rintro e ac4 ⟨V3, s4, rfl, i7, k2, hb⟩; refine ⟨_, rfl, ?_⟩; have b7 := aM (Kd.R_lower (Kd.R_new' (Kd.R_newM (M := fun k_ => (w.heap.size ≤ k_)) i7 (below_size bS) (fun k_ h_ => h_)) (Kd.R_lt (by exact rG e3 a2))) (below_size bS)); have d1 := aM (Kd.R_lower (Kd.R_new' (Kd.R_newM (M := fun k_ => (w.heap.size ≤ k_)) k2 (below_size bS) (fun k_ h_ => h_)) (Kd.R_lt (by exact rG e3 a2))) (below_size bS)); replace e3 := aM (Kd.R_mono (Kd.R_told (Kd.R_told (Kd.R_old (by exact rG e3 a2) hb) (Kd.R_base i7)) (Kd.R_base k2)) (fun _ h_ => h_.1)); replace b2 := aM (Kd.R_below (by exact rG b2 a2) hb); replace a7 := aM (Kd.S_mono (Kd.S_told (Kd.S_told (Kd.S_old (by exact sG a7 a2) hb) (Kd.R_base i7)) (Kd.R_base k2)) (fun _ h_ => h_.1)); replace b9 := aM (Kd.S_below (by exact sG b9 a2) hb); replace d2 := kB_ e2 hb; replace d3 := kB_ e7 hb; replace a9 := kB_ b6 hb; replace a2 := kB_ a3 hb; replace HB := hB hb; (try clear hb hk i7 k2); obtain ⟨I1, I2, I3⟩ := Kd.R_slice b7.out; subst I3; have I4 := cg0 a2; have I5 := blk_frozen a2.out 0))
         go_meet
         case rel => exact ⟨_, (false), (d0), (l4), (l5), (l6), (l7), (e4), (m7), (l8), (l9), (m0), (m1), (a5), (h7), (.slice I1 d0.length I2), (.slice h8 e4.length h9), (.slice k7 a5.length i3), (.slice m9 h7.length n0), fS, H', ⟨by have := HJ2.out; first | omega | exact Nat.le_refl _⟩, ⟨rW [a3] b7 a2⟩, ⟨rW [a3] b2 a2⟩, ⟨sW [a3] a7 a2⟩, ⟨sW [a3] b9 a2⟩, ⟨kS⟩, ⟨kS⟩, ⟨kS⟩, ⟨kS⟩, ⟨bS⟩⟩
       ·obtain rfl := Bool.eq_false_iff.mpr V0
        rw [if_neg nF] at H
        have H' := aM H
        clear H
        have hnb140 := nP d6 d5
        have hnb141 := nP e0 e1
        have hnb142 := nP f6 g1
        have hz143 := cz2 d3
        go_wp2_with (first | ((with_reducible refine gC 16 ?_); refine cM (some 49) Try.func16 (impl_IsStackOp.calls i1 _ _ U9.out) ?_; rintro e w' ⟨rfl, ⟨nd, rfl⟩⟩; refine ⟨_, rfl, ?_⟩))
        go_meet
        case rel => exact ⟨_, (false), (k1), (l4), (l5), (l6), (l7), (e4), (m7), (l8), (l9), (m0), (m1), (a5), (h7), (.slice s2 k1.length m8), (.slice h8 e4.length h9), (.slice k7 a5.length i3), (.slice m9 h7.length n0), fS, H', ⟨by have := HJ2.out; first | omega | exact Nat.le_refl _⟩, ⟨rW [a3] e3 a2⟩, ⟨rW [a3] b2 a2⟩, ⟨sW [a3] a7 a2⟩, ⟨sW [a3] b9 a2⟩, ⟨kS⟩, ⟨kS⟩, ⟨kS⟩, ⟨kS⟩, ⟨bS⟩⟩
    case rest =>
     clear C7
     try clear c1
     try clear q1
     try clear p2
     try clear c6
     try clear p6
     try clear c9
     try clear p9
     try clear q9
     try clear hx9
     try clear c10
     try clear c11
     try clear q12
     try clear c13
     try clear c14
     try clear c16
     try clear c18
     try clear c19
     try clear p64
     try clear V0
     try clear V2
     try clear E0
     try clear y6
     try clear y7
     try clear c94
     try clear c95
     try clear p95
     try clear q95
     try clear ac5
     try clear v8
     try clear D3
     try clear D4
     try clear q0
     try clear v9
     try clear w8
     try clear D5
     try clear ac6
     try clear D6
     try clear ac7
     try clear D7
     try clear ac8
     try clear D8
     try clear D9
     try clear x1
     try clear ac9
     try clear ad0
     try clear ad1
     try clear ad2
     try clear ad3
     try clear ad4
     try clear ad5
     try clear ad6
     try clear m5
     try clear q4
     try clear n1
     try clear q5
     try clear q6
     try clear q7
     try clear m6
     try clear q8
     try clear r0
     try clear s0
     try clear s1
     try clear w9
     try clear x1
     try clear x0
     obtain ⟨kq, s6, g3, g4, g5, g6, g7, g8, g9, h0, h1, h2, h3, h4, h5, m3, m4, o8, o9, rfl, HA, HJ34, a8, a6, b0, b1, d2, d3, a9, a2, HB⟩ := hcut
     cases kq with
     | zero => exact absurd HA.out (by simp [impl_ExecToken.j1])
     | succ kj34 =>
      have H := HA.out
      clear HA
      simp only [impl_ExecToken.j1] at H
      by_cases I6 : s6 = true
      ·subst I6
       rw [if_pos rfl] at H
       replace H := bN H
       obtain ⟨W6, I7, H⟩ := H
       by_cases I8 : W6 = true
       ·subst I8
        rw [if_pos rfl] at H
        simp only [Option.some.injEq, Prod.mk.injEq] at H
        obtain ⟨rfl, rfl, rfl, rfl, rfl, rfl, rfl, rfl, rfl, rfl, rfl, rfl, rfl, rfl⟩ := H
        have hnb147 := nP g0 f5
        have hnb148 := nP g1 f6
        have hnb149 := nP g2 f7
        have hz150 := cz13 a2
        obtain ⟨I9, J0, J1⟩ := Kd.R_slice a8.out
        subst J1
        obtain ⟨J2, J3, J4⟩ := Kd.R_slice a6.out
        subst J4
        obtain ⟨J5, J6, J7⟩ := Kd.S_slice b0.out
        subst J7
        obtain ⟨J8, J9, K0⟩ := Kd.S_slice b1.out
        subst K0
        go_wp2_with (first | (go_at_call 7; (with_reducible refine (impl_PageOk.calls kj34 _ _ g3 g4 g5 g6 g7 _ _ g8 g9 h0 h1 h2 h3 _ _ h4 _ _ h5 _ _ (cS (Kd.R_reads' a8.out).2.2) ((Kd.R_reads' a8.out).2.1) (cS (Kd.R_reads' a6.out).2.2) ((Kd.R_reads' a6.out).2.1) (cS (Kd.S_reads' b0.out).2.2) ((Kd.S_reads' b0.out).2.1) (cS (Kd.S_reads' b1.out).2.2) ((Kd.S_reads' b1.out).2.1) I7.out).mono ?_); rintro e ad7 ⟨rfl, hb⟩; replace a8 := rB a8 hb; replace a6 := rB a6 hb; replace b0 := sB b0 hb; replace b1 := sB b1 hb; replace d2 := kB_ e2 hb; replace d3 := kB_ e7 hb; replace a9 := kB_ b6 hb; replace a2 := kB_ a3 hb; replace HB := hB hb; (try clear hb); have hz156 := cz13 a2; have hnb157 := nP f9 f8; have hnb158 := nP e1 e0; have hz159 := cz13 a9))
        refine bodyPost_ret (results_ct rfl _ _ b6 35 #[.slice I9 g3.length J0, .int .i64 g4, .int .i64 g5, .int .i64 g6, .int .i64 g7, .slice J2 g8.length J3, .int .i64 g9, .int .i64 h0, .int .i64 h1, .int .i64 h2, .int .i64 h3, .slice J5 h4.length J6, .slice J8 h5.length J9] (0, 0) _ rfl kS Try.underlying35 rfl (by kernel_rfl)) rfl ?_
        exact ⟨_, _, _, _, eS, Kd.R_V (by exact Kd.R_mono (R_on (g := b6) (Kd.R_types a8.out a9.out (by decide)) (fun _ hk => hk.2)) (fun _ hk => hk.1)), Kd.R_V (by exact Kd.R_mono (R_on (g := b6) (Kd.R_types a6.out a9.out (by decide)) (fun _ hk => hk.2)) (fun _ hk => hk.1)), Kd.S_V (by exact Kd.S_mono (S_on (g := b6) (Kd.S_types b0.out a9.out (by decide)) (fun _ hk => hk.2)) (fun _ hk => hk.1.1)), Kd.S_V (by exact Kd.S_mono (S_on (g := b6) (Kd.S_types b1.out a9.out (by decide)) (fun _ hk => hk.2)) (fun _ hk => hk.1)), bS⟩
       ·obtain rfl := Bool.eq_false_iff.mpr I8
        rw [if_neg nF] at H
        replace H := bN H
        obtain ⟨⟨K1, K2, K3, K4, K5, K6, K7, K8, K9, L0, L1, L2, L6⟩, W7, H⟩ := H
        simp only [Option.some.injEq, Prod.mk.injEq] at H
        obtain ⟨rfl, rfl, rfl, rfl, rfl, rfl, rfl, rfl, rfl, rfl, rfl, rfl, rfl, rfl⟩ := H
        have hnb161 := nP g0 f5
        have hnb162 := nP g1 f6
        have hnb163 := nP g2 f7
        have hz164 := cz13 a2
        obtain ⟨Y9, Z0, L8⟩ := Kd.R_slice a8.out
        subst L8
        obtain ⟨Z1, Z2, L9⟩ := Kd.R_slice a6.out
        subst L9
        obtain ⟨Z3, Z4, M1⟩ := Kd.S_slice b0.out
        subst M1
        obtain ⟨Z5, Z6, M3⟩ := Kd.S_slice b1.out
        subst M3
        go_wp2_with (first | (go_at_call 7; (with_reducible refine (impl_PageOk.calls kj34 _ _ g3 g4 g5 g6 g7 _ _ g8 g9 h0 h1 h2 h3 _ _ h4 _ _ h5 _ _ (cS (Kd.R_reads' a8.out).2.2) ((Kd.R_reads' a8.out).2.1) (cS (Kd.R_reads' a6.out).2.2) ((Kd.R_reads' a6.out).2.1) (cS (Kd.S_reads' b0.out).2.2) ((Kd.S_reads' b0.out).2.1) (cS (Kd.S_reads' b1.out).2.2) ((Kd.S_reads' b1.out).2.1) I7.out).mono ?_); rintro e ad8 ⟨rfl, hb⟩; replace a8 := rB a8 hb; replace a6 := rB a6 hb; replace b0 := sB b0 hb; replace b1 := sB b1 hb; replace d2 := kB_ e2 hb; replace d3 := kB_ e7 hb; replace a9 := kB_ b6 hb; replace a2 := kB_ a3 hb; replace HB := hB hb; (try clear hb); have hnb170 := nP d5 d6; have hnb171 := nP f8 f9; have hz172 := cz13 d2) | ((with_reducible refine gC 13 ?_); refine cM (some 90) Try.func13 (impl_copyPage.calls kj34 _ _ i5 i8 i9 j5 j6 _ _ i6 j7 j8 j9 k0 h6 _ _ e8 _ _ e9 K1 K2 K3 K4 K5 K6 K7 K8 K9 L0 L1 L2 L6 _ (cC o0 HB) o1.out (cC o4 HB) o5.out (cC k3 HB) k4.out (cC k5 HB) k6.out W7.out) ?_; rintro e ad9 ⟨ae0, ae1, ae2, ae3, rfl, i7, k2, t5, t6, hb⟩; refine ⟨_, rfl, ?_⟩; have A4 := aM (Kd.R_lower (Kd.R_new' (Kd.R_newM (M := fun k_ => (w.heap.size ≤ k_)) i7 (below_size bS) (fun k_ h_ => h_)) (Kd.R_lt (rS a8))) (below_size bS)); have A5 := aM (Kd.R_lower (Kd.R_new' (Kd.R_newM (M := fun k_ => (w.heap.size ≤ k_)) k2 (below_size bS) (fun k_ h_ => h_)) (Kd.R_lt (rS a6))) (below_size bS)); have A6 := aM (Kd.S_lower (Kd.S_new' (Kd.S_new' (Kd.S_new' (Kd.S_newM (M := fun k_ => (w.heap.size ≤ k_)) t5 (below_size bS) (fun k_ h_ => h_)) (Kd.R_lt (rS a8))) (Kd.R_lt (rS a6))) (Kd.S_lt (sS b0))) (below_size bS)); have A8 := aM (Kd.S_lower (Kd.S_new' (Kd.S_new' (Kd.S_newM (M := fun k_ => (w.heap.size ≤ k_)) t6 (below_size bS) (fun k_ h_ => h_)) (Kd.R_lt (rS a6))) (Kd.S_lt (sS b1))) (below_size bS)); replace a8 := aM (Kd.R_elder' (rS a8) (Kd.R_base i7) hb); replace a6 := aM (Kd.R_elder' (rS a6) (Kd.R_base k2) hb); replace b0 := aM (Kd.S_mono (Kd.S_told (Kd.S_told (Kd.S_told (Kd.S_old (sS b0) hb) (Kd.R_base i7)) (Kd.R_base k2)) (Kd.S_base t5)) (fun _ h_ => h_.1)); replace b1 := aM (Kd.S_mono (Kd.S_told (Kd.S_told (Kd.S_old (sS b1) hb) (Kd.R_base k2)) (Kd.S_base t6)) (fun _ h_ => h_.1)); replace d2 := kB_ e2 hb; replace d3 := kB_ e7 hb; replace a9 := kB_ b6 hb; replace a2 := kB_ a3 hb; replace HB := hB hb; (try clear hb i7 k2 t5 t6); obtain ⟨M4, M5, M6⟩ := Kd.R_slice A4.out; subst M6; have hnb175 := nP e1 e0; have hz176 := cz13 a9; obtain ⟨M7, M8, M9⟩ := Kd.R_slice A5.out; subst M9; obtain ⟨N1, N2, N3⟩ := Kd.S_slice A6.out; subst N3; obtain ⟨N4, N5, N6⟩ := Kd.S_slice A8.out; subst N6))
        refine bodyPost_ret (results_ct rfl _ _ b6 35 #[.slice M4 K1.length M5, .int .i64 K2, .int .i64 K3, .int .i64 K4, .int .i64 K5, .slice M7 K6.length M8, .int .i64 K7, .int .i64 K8, .int .i64 K9, .int .i64 L0, .int .i64 L1, .slice N1 L2.length N2, .slice N4 L6.length N5] (0, 0) _ rfl kS Try.underlying35 rfl (by kernel_rfl)) rfl ?_
        exact ⟨_, _, _, _, eS, Kd.R_V (by exact Kd.R_mono (R_on (g := b6) (Kd.R_types A4.out a9.out (by decide)) (fun _ hk => hk.2)) (fun _ hk => hk.1.1.1)), Kd.R_V (by exact Kd.R_mono (R_on (g := b6) (Kd.R_types A5.out a9.out (by decide)) (fun _ hk => hk.2)) (fun _ hk => hk.1.1.1)), Kd.S_V (by exact Kd.S_mono (S_on (g := b6) (Kd.S_types A6.out a9.out (by decide)) (fun _ hk => hk.2)) (fun _ hk => hk.1.1.1.1.1)), Kd.S_V (by exact Kd.S_mono (S_on (g := b6) (Kd.S_types A8.out a9.out (by decide)) (fun _ hk => hk.2)) (fun _ hk => hk.1.1.1.1)), bS⟩
      ·obtain rfl := Bool.eq_false_iff.mpr I6
       rw [if_neg nF] at H
       replace H := bN H
       obtain ⟨⟨N7, N8, N9, O0, O1, O2, O3, O4, O5, O6, O7, B0, B2⟩, W8, H⟩ := H
       simp only [Option.some.injEq, Prod.mk.injEq] at H
       obtain ⟨rfl, rfl, rfl, rfl, rfl, rfl, rfl, rfl, rfl, rfl, rfl, rfl, rfl, rfl⟩ := H
       have hnb181 := nP d5 d6
       have hnb182 := nP f8 f9
       have hnb183 := nP f5 g0
       have hz184 := cz13 d2
       go_wp2_with (first | ((with_reducible refine gC 13 ?_); refine cM (some 90) Try.func13 (impl_copyPage.calls kj34 _ _ i5 i8 i9 j5 j6 _ _ i6 j7 j8 j9 k0 h6 _ _ e8 _ _ e9 N7 N8 N9 O0 O1 O2 O3 O4 O5 O6 O7 B0 B2 _ (cC o0 HB) o1.out (cC o4 HB) o5.out (cC k3 HB) k4.out (cC k5 HB) k6.out W8.out) ?_; rintro e ae4 ⟨ae5, ae6, Z7, Z8, rfl, i7, k2, t5, t6, hb⟩; refine ⟨_, rfl, ?_⟩; have B8 := aM (Kd.R_lower (Kd.R_new' (Kd.R_newM (M := fun k_ => (w.heap.size ≤ k_)) i7 (below_size bS) (fun k_ h_ => h_)) (Kd.R_lt (rS a8))) (below_size bS)); have C0 := aM (Kd.R_lower (Kd.R_new' (Kd.R_newM (M := fun k_ => (w.heap.size ≤ k_)) k2 (below_size bS) (fun k_ h_ => h_)) (Kd.R_lt (rS a6))) (below_size bS)); have x2 := aM (Kd.S_lower (Kd.S_new' (Kd.S_new' (Kd.S_new' (Kd.S_newM (M := fun k_ => (w.heap.size ≤ k_)) t5 (below_size bS) (fun k_ h_ => h_)) (Kd.R_lt (rS a8))) (Kd.R_lt (rS a6))) (Kd.S_lt (sS b0))) (below_size bS)); have x3 := aM (Kd.S_lower (Kd.S_new' (Kd.S_new' (Kd.S_newM (M := fun k_ => (w.heap.size ≤ k_)) t6 (below_size bS) (fun k_ h_ => h_)) (Kd.R_lt (rS a6))) (Kd.S_lt (sS b1))) (below_size bS)); replace a8 := aM (Kd.R_elder' (rS a8) (Kd.R_base i7) hb); replace a6 := aM (Kd.R_elder' (rS a6) (Kd.R_base k2) hb); replace b0 := aM (Kd.S_mono (Kd.S_told (Kd.S_told (Kd.S_told (Kd.S_old (sS b0) hb) (Kd.R_base i7)) (Kd.R_base k2)) (Kd.S_base t5)) (fun _ h_ => h_.1)); replace b1 := aM (Kd.S_mono (Kd.S_told (Kd.S_told (Kd.S_old (sS b1) hb) (Kd.R_base k2)) (Kd.S_base t6)) (fun _ h_ => h_.1)); replace d2 := kB_ e2 hb; replace d3 := kB_ e7 hb; replace a9 := kB_ b6 hb; replace a2 := kB_ a3 hb; replace HB := hB hb; (try clear hb i7 k2 t5 t6); obtain ⟨O8, O9, P0⟩ := Kd.R_slice B8.out; subst P0; have hnb187 := nP e1 e0; have hnb188 := nP f7 g2; have hz189 := cz13 a9; obtain ⟨P1, P2, P3⟩ := Kd.R_slice C0.out; subst P3; obtain ⟨P4, P5, P6⟩ := Kd.S_slice x2.out; subst P6; obtain ⟨P7, P8, P9⟩ := Kd.S_slice x3.out; subst P9))
       refine bodyPost_ret (results_ct rfl _ _ b6 35 #[.slice O8 N7.length O9, .int .i64 N8, .int .i64 N9, .int .i64 O0, .int .i64 O1, .slice P1 O2.length P2, .int .i64 O3, .int .i64 O4, .int .i64 O5, .int .i64 O6, .int .i64 O7, .slice P4 B0.length P5, .slice P7 B2.length P8] (0, 0) _ rfl kS Try.underlying35 rfl (by kernel_rfl)) rfl ?_
       exact ⟨_, _, _, _, eS, Kd.R_V (by exact Kd.R_mono (R_on (g := b6) (Kd.R_types B8.out a9.out (by decide)) (fun _ hk => hk.2)) (fun _ hk => hk.1.1.1)), Kd.R_V (by exact Kd.R_mono (R_on (g := b6) (Kd.R_types C0.out a9.out (by decide)) (fun _ hk => hk.2)) (fun _ hk => hk.1.1.1)), Kd.S_V (by exact Kd.S_mono (S_on (g := b6) (Kd.S_types x2.out a9.out (by decide)) (fun _ hk => hk.2)) (fun _ hk => hk.1.1.1.1.1)), Kd.S_V (by exact Kd.S_mono (S_on (g := b6) (Kd.S_types x3.out a9.out (by decide)) (fun _ hk => hk.2)) (fun _ hk => hk.1.1.1.1)), bS⟩

end Go.Proofs.Ytjodcfjaedhpeaa.QFnPages
