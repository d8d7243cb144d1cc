/- The plain law of FnExactRunsLength: over numbers and lists, what the printed functions answer, and that the law answers true. -/
import Derived.Test.YtbpekdhafniodaaPFnExactRunsLengthx1
import Derived.Test.YtbpekdhafniodaaPlain
namespace Go.Proofs.Ytbpekdhafniodaa.Pure
open Go.RowKit Go.Proofs.Ytbpekdhafniodaa.PFnExactRunsLength Go.Proofs.YtbpekdhafniodaaW.PrintWords Go.Proofs.YtbpekdhafniodaaW.PrintLast Go.Proofs.Ytbpekdhafniodaa.Plain

theorem szRunS_eq (l : List S71) (a : Int) (h : l.length ≤ maxLen) (h0 : 0 ≤ a) (h1 : a ≤ 1048576) : laws_szRunS.f l a = some (szN l.length a) := by
  rw [maxLen_eq] at h
  unfold laws_szRunS.f szN
  rw [wrap_id (by omega) (by omega)]
  split <;> rfl
def tRun (r : S71) : S69 := ⟨r.f0, r.f1⟩
theorem toRunS_ev (l : List S71) (h : (l.length : Int) ≤ 1048576) : Ev (fun k => laws_toRunS.f k l) (l.map tRun) := by
  have hm : l.length ≤ maxLen := by rw [maxLen_eq]; omega
  simp only [laws_toRunS.f]
  refine Ev.ite (fun _ => Ev.ite (fun _ => ?_) (fun c => absurd (by omega) c)) (fun c => absurd (by omega) c)
  exact ev_fill l tRun (F := fun k s i => laws_toRunS.l0 k l s i) (fun s => by
    simp only [laws_toRunS.l0, end_lt, if_false]
    exact Ev.now _) (fun pre x rest s r e hs h => by
    subst e
    simp only [laws_toRunS.l0, hs, mid_lt, mid_nn, mid_wrap hm, if_true, rd_T71, Int.toNat_natCast, mid_get, laws_toRun.f, Option.bind_some]
    exact h) _ (by simp)
theorem eqRunS_ev (l : List S69) (hm : l.length ≤ maxLen) : Ev (fun k => laws_eqRunS.f k l l) true := by
  simp only [laws_eqRunS.f, if_true]
  refine ev_loop0 l (F := fun k i => laws_eqRunS.l0 k l l i) (fun _ _ => true) ?_ (fun pre x rest e h => ?_)
  · simp only [laws_eqRunS.l0, end_lt, if_false]; exact Ev.now _
  · subst e
    simp only [laws_eqRunS.l0, mid_lt, mid_nn, mid_wrap hm, if_true, laws_eqRun.f, Option.bind_some]
    exact h
end Go.Proofs.Ytbpekdhafniodaa.Pure
namespace Go.Proofs.Ytbpekdhafniodaa.Pure
open Go.RowKit Go.Proofs.Ytbpekdhafniodaa.PFnExactRunsLength Go.Proofs.YtbpekdhafniodaaW.PrintWords Go.Proofs.YtbpekdhafniodaaW.PrintLast Go.Proofs.Ytbpekdhafniodaa.Plain

def coord (a : Int) : Bool := inB a (-200) 200
def boxOk (a b c d : Int) : Bool := coord a && (coord b && (coord c && (coord d && (decide (a ≤ c) && decide (b ≤ d)))))
def rowOk (l : List Int) : Bool := decide ((l.length : Int) = 32) && l.all fun v => inB v 0 255
def rowsOk (l : List (List Int)) : Bool := decide ((l.length : Int) ≤ 32) && l.all rowOk
def runsLen : List S69 → Int → Int
  | [], a => a
  | x :: r, a => runsLen r (wrap64 (a + x.f1))
theorem iRunsLength_ev (l : List S69) (hm : l.length ≤ maxLen) : Ev (fun k => impl_RunsLength.f k l) (runsLen l 0) := by
  simp only [impl_RunsLength.f]
  refine ev_loop l (F := fun k s i => impl_RunsLength.l0 k s l l.length i) (fun _ _ _ => True) (fun _ r s => runsLen r s) ?_ ?_ _ trivial
  · intro s _; simp only [impl_RunsLength.l0, end_lt, if_false]; exact Ev.now _
  · rintro pre x rest s e _ ih
    subst e
    simp only [impl_RunsLength.l0, mid_lt, mid_nn, mid_wrap hm, if_true, rd_T69, Int.toNat_natCast, mid_get]
    exact ih _ trivial
theorem sRunsLength_ev (l : List S69) (hm : l.length ≤ maxLen) : Ev (fun k => spec_RunsLength.f k l) (runsLen l 0) := by
  simp only [spec_RunsLength.f]
  refine ev_loop l (F := fun k s i => spec_RunsLength.l0 k l s i) (fun _ _ _ => True) (fun _ r s => runsLen r s) ?_ ?_ _ trivial
  · intro s _; simp only [spec_RunsLength.l0, end_lt, if_false]; exact Ev.now _
  · rintro pre x rest s e _ ih
    subst e
    simp only [spec_RunsLength.l0, mid_lt, mid_nn, mid_wrap hm, if_true, rd_T69, Int.toNat_natCast, mid_get]
    exact ih _ trivial
end Go.Proofs.Ytbpekdhafniodaa.Pure
namespace Go.Proofs.Ytbpekdhafniodaa.Pure
open Go.RowKit Go.Proofs.Ytbpekdhafniodaa.PFnExactRunsLength Go.Proofs.YtbpekdhafniodaaW.PrintWords Go.Proofs.YtbpekdhafniodaaW.PrintLast Go.Proofs.Ytbpekdhafniodaa.Plain

theorem FnExactRunsLength (l : List S71) (h : l.length ≤ maxLen ∧ ∀ y ∈ l, (((Lit.int .i64 y.f0).wf = true) ∧ ((Lit.int .i64 y.f1).wf = true))) : ∃ k, laws_FnExactRunsLength.f k l = some true := by
  refine Ev.rounds (g := fun k => laws_FnExactRunsLength.f k l) ?_
  simp only [laws_FnExactRunsLength.f, szRunS_eq l 1048576 h.1 (by omega) (by omega), Option.bind_some]
  refine Ev.ite (fun _ => Ev.now _) (fun c => ?_)
  have hl : (l.length : Int) ≤ 1048576 := by rcases szN_tells l.length 1048576 (by omega) with hn | h2 <;> omega
  have hm : (l.map tRun).length ≤ maxLen := by rw [maxLen_eq, List.length_map]; omega
  refine Ev.bind (toRunS_ev l hl) (Ev.bind (sRunsLength_ev _ hm) (Ev.bind (toRunS_ev l hl) (Ev.bind (iRunsLength_ev _ hm) (Ev.ite (fun _ => ?_) (fun c => absurd rfl c)))))
  exact Ev.bind (toRunS_ev l hl) (Ev.bind (eqRunS_ev _ hm) (Ev.now _))
end Go.Proofs.Ytbpekdhafniodaa.Pure
