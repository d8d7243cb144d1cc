/- The plain law of FnExactRunAt: over numbers and lists, what the printed functions answer, and that the law answers true. -/
import Derived.Test.YtbpekdhafniodaaPFnExactRunAtx3
import Derived.Test.YtbpekdhafniodaaPlain
namespace Go.Proofs.Ytbpekdhafniodaa.Pure
open Go.RowKit Go.Proofs.Ytbpekdhafniodaa.PFnExactRunAt Go.Proofs.YtbpekdhafniodaaW.PrintWords Go.Proofs.YtbpekdhafniodaaW.PrintLast Go.Proofs.Ytbpekdhafniodaa.Plain

theorem szRunS_eq (l : List S71) (a : Int) (h : l.length ≤ maxLen) (h0 : 0 ≤ a) (h1 : a ≤ 1048576) : laws_szRunS.f l a = some (szN l.length a) := by
  rw [maxLen_eq] at h
  unfold laws_szRunS.f szN
  rw [wrap_id (by omega) (by omega)]
  split <;> rfl
def tRun (r : S71) : S69 := ⟨r.f0, r.f1⟩
theorem toRunS_ev (l : List S71) (h : (l.length : Int) ≤ 1048576) : Ev (fun k => laws_toRunS.f k l) (l.map tRun) := by
  have hm : l.length ≤ maxLen := by rw [maxLen_eq]; omega
  simp only [laws_toRunS.f]
  refine Ev.ite (fun _ => Ev.ite (fun _ => ?_) (fun c => absurd (by omega) c)) (fun c => absurd (by omega) c)
  exact ev_fill l tRun (F := fun k s i => laws_toRunS.l0 k l s i) (fun s => by
    simp only [laws_toRunS.l0, end_lt, if_false]
    exact Ev.now _) (fun pre x rest s r e hs h => by
    subst e
    simp only [laws_toRunS.l0, hs, mid_lt, mid_nn, mid_wrap hm, if_true, rd_T71, Int.toNat_natCast, mid_get, laws_toRun.f, Option.bind_some]
    exact h) _ (by simp)
theorem eqRunS_ev (l : List S69) (hm : l.length ≤ maxLen) : Ev (fun k => laws_eqRunS.f k l l) true := by
  simp only [laws_eqRunS.f, if_true]
  refine ev_loop0 l (F := fun k i => laws_eqRunS.l0 k l l i) (fun _ _ => true) ?_ (fun pre x rest e h => ?_)
  · simp only [laws_eqRunS.l0, end_lt, if_false]; exact Ev.now _
  · subst e
    simp only [laws_eqRunS.l0, mid_lt, mid_nn, mid_wrap hm, if_true, laws_eqRun.f, Option.bind_some]
    exact h
end Go.Proofs.Ytbpekdhafniodaa.Pure
namespace Go.Proofs.Ytbpekdhafniodaa.Pure
open Go.RowKit Go.Proofs.Ytbpekdhafniodaa.PFnExactRunAt Go.Proofs.YtbpekdhafniodaaW.PrintWords Go.Proofs.YtbpekdhafniodaaW.PrintLast Go.Proofs.Ytbpekdhafniodaa.Plain

theorem within_eq (a b c : Int) : impl_within.f a b c = some (inB a b c) := by unfold impl_within.f inB; by_cases h : b ≤ a <;> simp [h]
theorem l01In_eq (a b c : Int) : spec_l01In.f a b c = some (inB a b c) := by unfold spec_l01In.f inB; by_cases h : b ≤ a <;> simp [h]
def coord (a : Int) : Bool := inB a (-200) 200
def boxOk (a b c d : Int) : Bool := coord a && (coord b && (coord c && (coord d && (decide (a ≤ c) && decide (b ≤ d)))))
def rowOk (l : List Int) : Bool := decide ((l.length : Int) = 32) && l.all fun v => inB v 0 255
def rowsOk (l : List (List Int)) : Bool := decide ((l.length : Int) ≤ 32) && l.all rowOk
def runsFrom : Option Int → List S69 → Bool
  | _, [] => true
  | p, x :: r => inB x.f0 0 255 && (inB x.f1 1 32 && (!(p == some x.f0) && runsFrom (some x.f0) r))
theorem last_get {α : Type} (pre : List α) (y x : α) (rest : List α) (z : α) (hm : ((pre ++ [y]) ++ x :: rest).length ≤ maxLen) :
    wrap64 (((pre ++ [y]).length : Int) - 1) = (pre.length : Int) ∧ ((pre ++ [y]) ++ x :: rest).getD pre.length z = y := by
  rw [maxLen_eq] at hm
  simp at hm
  refine ⟨by rw [wrap_id (by simp <;> omega) (by simp <;> omega)]; simp, by simp [List.getD_eq_getElem?_getD]⟩
theorem iRunsOk_ev (l : List S69) (hm : l.length ≤ maxLen) : Ev (fun k => impl_RunsOk.f k l) (runsFrom none l) := by
  simp only [impl_RunsOk.f]
  refine ev_loop0 l (F := fun k i => impl_RunsOk.l0 k l l l.length i) (fun p r => runsFrom (p.getLast?.map (·.f0)) r) ?_ (fun pre x rest e h => ?_)
  · simp only [impl_RunsOk.l0, end_lt, if_false]; exact Ev.now _
  · subst e
    rw [List.getLast?_append, List.getLast?_singleton] at h
    simp only [impl_RunsOk.l0, mid_lt, mid_nn, mid_wrap hm, if_true, rd_T69, Int.toNat_natCast, mid_get, within_eq, Option.bind_some, runsFrom]
    refine Ev.andB (fun _ => Ev.andB (fun _ => ?_))
    rcases List.eq_nil_or_concat pre with rfl | ⟨q, y, rfl⟩
    · simp only [List.length_nil, Int.ofNat_zero, gt_iff_lt, Int.lt_irrefl, if_false] at h ⊢
      simpa using h
    · obtain ⟨h1, h2⟩ := last_get q y x rest z69 (by simpa using hm)
      rw [List.concat_eq_append] at *
      have c1 : ((q ++ [y]).length : Int) > 0 := by simp <;> omega
      have c2 : (q.length : Int) < (((q ++ [y]) ++ x :: rest).length : Int) := by simp; omega
      simp only [h1, c1, c2, mid_nn, if_true, Int.toNat_natCast, h2, List.getLast?_append, List.getLast?_singleton]
      refine Ev.ite (fun c => Ev.val (by simp [c])) (fun c => ?_)
      have hb : (y.f0 == x.f0) = false := beq_eq_false_iff_ne.2 c
      simpa [hb] using h
theorem sRunsOk_ev (l : List S69) (hm : l.length ≤ maxLen) : Ev (fun k => spec_RunsOk.f k l) (runsFrom none l) := by
  simp only [spec_RunsOk.f]
  refine ev_loop0 l (F := fun k i => spec_RunsOk.l0 k l i) (fun p r => runsFrom (p.getLast?.map (·.f0)) r) ?_ (fun pre x rest e h => ?_)
  · simp only [spec_RunsOk.l0, end_lt, if_false]; exact Ev.now _
  · subst e
    rw [List.getLast?_append, List.getLast?_singleton] at h
    simp only [spec_RunsOk.l0, mid_lt, mid_nn, mid_wrap hm, if_true, rd_T69, Int.toNat_natCast, mid_get, l01In_eq, Option.bind_some, runsFrom]
    refine Ev.andB (fun _ => Ev.andB (fun _ => ?_))
    rcases List.eq_nil_or_concat pre with rfl | ⟨q, y, rfl⟩
    · simp only [List.length_nil, Int.ofNat_zero, gt_iff_lt, Int.lt_irrefl, if_false] at h ⊢
      simpa using h
    · obtain ⟨h1, h2⟩ := last_get q y x rest z69 (by simpa using hm)
      rw [List.concat_eq_append] at *
      have c1 : ((q ++ [y]).length : Int) > 0 := by simp <;> omega
      have c2 : (q.length : Int) < (((q ++ [y]) ++ x :: rest).length : Int) := by simp; omega
      simp only [h1, c1, c2, mid_nn, if_true, Int.toNat_natCast, h2, List.getLast?_append, List.getLast?_singleton]
      refine Ev.ite (fun c => Ev.val (by simp [c])) (fun c => ?_)
      have hb : (y.f0 == x.f0) = false := beq_eq_false_iff_ne.2 (fun e => c e.symm)
      simpa [hb] using h
def runAt : List S69 → Int → Int
  | [], _ => -1
  | x :: r, a => if a < x.f1 then x.f0 else runAt r (wrap64 (a - x.f1))
def runAtF (l : List S69) (a : Int) : Int := if a < 0 then -1 else if runsFrom none l = true then runAt l a else -1
theorem iRunAt_loop (l : List S69) (a : Int) (hm : l.length ≤ maxLen) : Ev (fun k => impl_RunAt.l0 k a l l.length 0) (runAt l a) := by
  refine ev_loop l (F := fun k s i => impl_RunAt.l0 k s l l.length i) (fun _ _ _ => True) (fun _ r s => runAt r s) ?_ ?_ _ trivial
  · intro s _; simp only [impl_RunAt.l0, end_lt, if_false]; exact Ev.now _
  · rintro pre x rest s e _ ih
    subst e
    simp only [impl_RunAt.l0, mid_lt, mid_nn, mid_wrap hm, if_true, rd_T69, Int.toNat_natCast, mid_get, runAt]
    by_cases c : s < x.f1
    · simp only [if_pos c]; exact Ev.now _
    · simp only [if_neg c]; exact ih _ trivial
theorem iRunAt_ev (l : List S69) (a : Int) (hm : l.length ≤ maxLen) : Ev (fun k => impl_RunAt.f k l a) (runAtF l a) := by
  simp only [impl_RunAt.f]
  unfold runAtF
  by_cases c : a < 0
  · simp only [if_pos c]
    exact Ev.up (by simp only [impl_RunAt.j0, if_true]; exact Ev.now _)
  · simp only [if_neg c]
    refine Ev.bind (iRunsOk_ev l hm) (Ev.up ?_)
    cases runsFrom none l
    · simp only [impl_RunAt.j0, Bool.not_false, if_true]; exact Ev.now _
    · simp only [impl_RunAt.j0, Bool.not_true, Bool.false_eq_true, if_false, if_true]; exact iRunAt_loop l a hm
theorem sRunAt_loop (l : List S69) (a : Int) (hm : l.length ≤ maxLen) : Ev (fun k => spec_RunAt.l0 k l a 0) (runAt l a) := by
  refine ev_loop l (F := fun k s i => spec_RunAt.l0 k l s i) (fun _ _ _ => True) (fun _ r s => runAt r s) ?_ ?_ _ trivial
  · intro s _; simp only [spec_RunAt.l0, end_lt, if_false]; exact Ev.now _
  · rintro pre x rest s e _ ih
    subst e
    simp only [spec_RunAt.l0, mid_lt, mid_nn, mid_wrap hm, if_true, rd_T69, Int.toNat_natCast, mid_get, runAt]
    by_cases c : s < x.f1
    · simp only [if_pos c]; exact Ev.now _
    · simp only [if_neg c]; exact ih _ trivial
theorem sRunAt_ev (l : List S69) (a : Int) (hm : l.length ≤ maxLen) : Ev (fun k => spec_RunAt.f k l a) (runAtF l a) := by
  simp only [spec_RunAt.f]
  unfold runAtF
  by_cases c : a < 0
  · simp only [if_pos c]
    exact Ev.up (by simp only [spec_RunAt.j0, if_true]; exact Ev.now _)
  · simp only [if_neg c]
    refine Ev.bind (sRunsOk_ev l hm) (Ev.up ?_)
    cases runsFrom none l
    · simp only [spec_RunAt.j0, Bool.not_false, if_true]; exact Ev.now _
    · simp only [spec_RunAt.j0, Bool.not_true, Bool.false_eq_true, if_false, if_true]; exact sRunAt_loop l a hm

end Go.Proofs.Ytbpekdhafniodaa.Pure
namespace Go.Proofs.Ytbpekdhafniodaa.Pure
open Go.RowKit Go.Proofs.Ytbpekdhafniodaa.PFnExactRunAt Go.Proofs.YtbpekdhafniodaaW.PrintWords Go.Proofs.YtbpekdhafniodaaW.PrintLast Go.Proofs.Ytbpekdhafniodaa.Plain

theorem FnExactRunAt (l : List S71) (a : Int) (h : l.length ≤ maxLen ∧ ∀ y ∈ l, (((Lit.int .i64 y.f0).wf = true) ∧ ((Lit.int .i64 y.f1).wf = true))) (_ : (Lit.int .i64 a).wf = true) : ∃ k, laws_FnExactRunAt.f k l a = some true := by
  refine Ev.rounds (g := fun k => laws_FnExactRunAt.f k l a) ?_
  simp only [laws_FnExactRunAt.f, szRunS_eq l 1048576 h.1 (by omega) (by omega), Option.bind_some]
  refine Ev.ite (fun _ => Ev.now _) (fun c => ?_)
  have hl : (l.length : Int) ≤ 1048576 := by rcases szN_tells l.length 1048576 (by omega) with hn | h2 <;> omega
  have hm : (l.map tRun).length ≤ maxLen := by rw [maxLen_eq, List.length_map]; omega
  refine Ev.bind (toRunS_ev l hl) (Ev.bind (sRunAt_ev _ a hm) (Ev.bind (toRunS_ev l hl) (Ev.bind (iRunAt_ev _ a hm) (Ev.ite (fun _ => ?_) (fun c => absurd rfl c)))))
  exact Ev.bind (toRunS_ev l hl) (Ev.bind (eqRunS_ev _ hm) (Ev.now _))
end Go.Proofs.Ytbpekdhafniodaa.Pure
