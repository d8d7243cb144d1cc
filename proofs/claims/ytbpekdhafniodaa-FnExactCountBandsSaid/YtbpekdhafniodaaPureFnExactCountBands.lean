/- The plain law of FnExactCountBands: over numbers and lists, what the printed functions answer, and that the law answers true. -/
import Derived.Test.YtbpekdhafniodaaQFnExactCountBandsx1
import Derived.Test.YtbpekdhafniodaaPlain
namespace Go.Proofs.Ytbpekdhafniodaa.Pure
open Go.RowKit Go.Proofs.Ytbpekdhafniodaa.QFnExactCountBands Go.Proofs.YtbpekdhafniodaaW.PrintWords Go.Proofs.YtbpekdhafniodaaW.PrintLast Go.Proofs.Ytbpekdhafniodaa.Plain

end Go.Proofs.Ytbpekdhafniodaa.Pure
namespace Go.Proofs.Ytbpekdhafniodaa.Pure
open Go.RowKit Go.Proofs.Ytbpekdhafniodaa.QFnExactCountBands Go.Proofs.YtbpekdhafniodaaW.PrintWords Go.Proofs.YtbpekdhafniodaaW.PrintLast Go.Proofs.Ytbpekdhafniodaa.Plain

def isH (a : Int) : Bool := decide (a = 1 ∨ a = 2 ∨ a = 4 ∨ a = 8 ∨ a = 16 ∨ a = 32)
theorem iIsHeight_eq (a : Int) : impl_IsHeight.f a = some (isH a) := by
  unfold impl_IsHeight.f isH
  by_cases h1 : a = 1
  · simp [h1]
  by_cases h2 : a = 2
  · simp [h2]
  by_cases h4 : a = 4
  · simp [h4]
  by_cases h8 : a = 8
  · simp [h8]
  by_cases h16 : a = 16
  · simp [h16]
  by_cases h32 : a = 32
  · simp [h32]
  simp [h1, h2, h4, h8, h16, h32]
theorem sIsHeight_eq (a : Int) : spec_IsHeight.f a = some (isH a) := by
  unfold spec_IsHeight.f isH
  by_cases h1 : a = 1
  · simp [h1]
  by_cases h2 : a = 2
  · simp [h2]
  by_cases h4 : a = 4
  · simp [h4]
  by_cases h8 : a = 8
  · simp [h8]
  by_cases h16 : a = 16
  · simp [h16]
  by_cases h32 : a = 32
  · simp [h32]
  simp [h1, h2, h4, h8, h16, h32]
def cntB (a : Int) : Int := if isH a = true then 32 / a else 0
theorem isH_cases {a : Int} (h : isH a = true) : a = 1 ∨ a = 2 ∨ a = 4 ∨ a = 8 ∨ a = 16 ∨ a = 32 := by simpa [isH] using h
theorem cntB_wrap {a : Int} (h : isH a = true) : ¬ a = 0 ∧ wrap64 ((32 : Int) / a) = 32 / a := by rcases isH_cases h with rfl | rfl | rfl | rfl | rfl | rfl <;> exact ⟨by decide, by unfold wrap64; omega⟩
theorem iCountBands_eq (a : Int) : impl_CountBands.f a = some (cntB a) := by
  unfold impl_CountBands.f cntB
  rw [iIsHeight_eq]
  by_cases h : isH a = true
  · simp [h, cntB_wrap h]
  · simp [h]
theorem sCountBands_eq (a : Int) : spec_CountBands.f a = some (cntB a) := by
  unfold spec_CountBands.f cntB
  rw [sIsHeight_eq]
  by_cases h : isH a = true
  · simp [h, cntB_wrap h]
  · simp [h]

def coord (a : Int) : Bool := inB a (-200) 200
def boxOk (a b c d : Int) : Bool := coord a && (coord b && (coord c && (coord d && (decide (a ≤ c) && decide (b ≤ d)))))
def rowOk (l : List Int) : Bool := decide ((l.length : Int) = 32) && l.all fun v => inB v 0 255
def rowsOk (l : List (List Int)) : Bool := decide ((l.length : Int) ≤ 32) && l.all rowOk
end Go.Proofs.Ytbpekdhafniodaa.Pure
namespace Go.Proofs.Ytbpekdhafniodaa.Pure
open Go.RowKit Go.Proofs.Ytbpekdhafniodaa.QFnExactCountBands Go.Proofs.YtbpekdhafniodaaW.PrintWords Go.Proofs.YtbpekdhafniodaaW.PrintLast Go.Proofs.Ytbpekdhafniodaa.Plain

theorem FnExactCountBands (a : Int) (_ : (Lit.int .i64 a).wf = true) : laws_FnExactCountBands.f a = some true := by
  unfold laws_FnExactCountBands.f
  rw [sCountBands_eq, iCountBands_eq]
  simp
end Go.Proofs.Ytbpekdhafniodaa.Pure
