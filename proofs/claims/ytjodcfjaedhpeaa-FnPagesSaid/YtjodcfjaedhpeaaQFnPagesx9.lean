-- Made out of the translation by a program of this session (a changed copy of the print). Not trusted: Lean checks it.
import Derived.Test.YtjodcfjaedhpeaaQFnPagesx91
import Derived.Test.YtjodcfjaedhpeaaQFnPagesx92
import Derived.Test.YtjodcfjaedhpeaaQFnPagesx93
namespace Go.Proofs.Ytjodcfjaedhpeaa.QFnPages
open Go.RowKit Go.Proofs.YtjodcfjaedhpeaaW.PrintWords Go.Proofs.YtjodcfjaedhpeaaW.PrintLast Go.Proofs.YtjodcfjaedhpeaaW.PrintMore
attribute [local go_sem] max2_int min2_int max_two min_two max_three min_three max_four min_four   -- for this text's walks alone
set_option linter.unusedVariables false
set_option linter.unusedSimpArgs false
set_option maxHeartbeats 64000000
set_option maxRecDepth 100000

theorem spec_ExecToken.calls (k : Nat) (d0 : Option Addr) (d1 : Nat) (a5 : List Int) (d2 : Int) (d3 : Int) (d4 : Int) (d5 : Int) (d6 : Option Addr) (e0 : Nat) (a6 : List (S80)) (e1 : Int) (e2 : Int) (e3 : Int) (e4 : Int) (a7 : Int) (a8 : Option Addr) (a9 : Nat) (a2 : List (S31)) (b0 : Option Addr) (b1 : Nat) (a3 : List (S60)) (b2 : ByteArray) (e5 : Int) (r1 : List Int) (r2 : Int) (r3 : Int) (r4 : Int) (r5 : Int) (r6 : List (S80)) (r7 : Int) (r8 : Int) (r9 : Int) (f0 : Int) (f3 : Int) (f4 : List (S31)) (f5 : List (S60)) (f6 : Bool) (w : World) (e6 : Kd.C (Kd.int .i64) w d0 a5.length a5) (e7 : a5.length ≤ d1) (e8 : Kd.C k80 w d6 a6.length a6) (e9 : a6.length ≤ e0) (b6 : Kd.C k31 w a8 a2.length a2) (b7 : a2.length ≤ a9) (b8 : Kd.C k60 w b0 a3.length a3) (b9 : a3.length ≤ b1) (h : spec_ExecToken.f k a5 d2 d3 d4 d5 a6 e1 e2 e3 e4 a7 a2 a3 b2 e5 = some (r1, r2, r3, r4, r5, r6, r7, r8, r9, f0, f3, f4, f5, f6)) :
  Calls Try.prog 43 #[.agg #[.slice d0 a5.length d1, .int .i64 d2, .int .i64 d3, .int .i64 d4, .int .i64 d5, .slice d6 a6.length e0, .int .i64 e1, .int .i64 e2, .int .i64 e3, .int .i64 e4, .int .i64 a7, .slice a8 a2.length a9, .slice b0 a3.length b1], .agg #[.string b2, .int .i64 e5]] w fun e w' => ∃ v0_ v5_ v11_ v12_ : Value, e = .returned (.tuple #[.agg #[v0_, .int .i64 r2, .int .i64 r3, .int .i64 r4, .int .i64 r5, v5_, .int .i64 r7, .int .i64 r8, .int .i64 r9, .int .i64 f0, .int .i64 f3, v11_, v12_], .bool f6]) ∧ Kd.V (Kd.int .i64) 3 w' w.heap.size (fun k_ => (w.heap.size ≤ k_)) v0_ r1 ∧ Kd.V k80 80 w' w.heap.size (fun k_ => (w.heap.size ≤ k_)) v5_ r6 ∧ Kd.V k31 31 w' w.heap.size (fun k_ => (w.heap.size ≤ k_)) v11_ f4 ∧ Kd.V k60 60 w' w.heap.size (fun k_ => (w.heap.size ≤ k_)) v12_ f5 ∧ Below w.heap.size w w' := by
 by_cases hA1_ : b2.toList ∈ ([[110, 101, 119], [109, 111, 118, 101, 116, 111], [108, 105, 110, 101, 116, 111], [114, 101, 99, 116]] : List (List UInt8))
 ·exact spec_ExecToken.calls1 k d0 d1 a5 d2 d3 d4 d5 d6 e0 a6 e1 e2 e3 e4 a7 a8 a9 a2 b0 b1 a3 b2 e5 r1 r2 r3 r4 r5 r6 r7 r8 r9 f0 f3 f4 f5 f6 w e6 e7 e8 e9 b6 b7 b8 b9 h ⟨hA1_⟩
 by_cases hA2_ : b2.toList ∈ ([[102, 105, 108, 108], [99, 108, 105, 112], [103, 114, 97, 121], [115, 97, 118, 101]] : List (List UInt8))
 ·exact spec_ExecToken.calls2 k d0 d1 a5 d2 d3 d4 d5 d6 e0 a6 e1 e2 e3 e4 a7 a8 a9 a2 b0 b1 a3 b2 e5 r1 r2 r3 r4 r5 r6 r7 r8 r9 f0 f3 f4 f5 f6 w e6 e7 e8 e9 b6 b7 b8 b9 h ⟨hA2_⟩
 exact spec_ExecToken.calls0 k d0 d1 a5 d2 d3 d4 d5 d6 e0 a6 e1 e2 e3 e4 a7 a8 a9 a2 b0 b1 a3 b2 e5 r1 r2 r3 r4 r5 r6 r7 r8 r9 f0 f3 f4 f5 f6 w e6 e7 e8 e9 b6 b7 b8 b9 h ⟨fun z => (List.mem_append.1 z).elim (hA1_) hA2_⟩
end Go.Proofs.Ytjodcfjaedhpeaa.QFnPages
