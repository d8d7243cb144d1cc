/- The plain law of FnRuns: over numbers and lists, what the printed functions answer, and that the law answers true. -/
import Derived.Test.YtcalgoembdmlkaaQFnRunsx3
import Derived.Test.YtcalgoembdmlkaaPlain
set_option linter.unusedSimpArgs false
set_option linter.unusedVariables false
namespace Go.Proofs.Ytcalgoembdmlkaa.Pure
open Go.RowKit Go.Proofs.Ytcalgoembdmlkaa.QFnRuns Go.Proofs.YtcalgoembdmlkaaW.PrintWords Go.Proofs.YtcalgoembdmlkaaW.PrintLast Go.Proofs.Ytcalgoembdmlkaa.Plain

end Go.Proofs.Ytcalgoembdmlkaa.Pure
namespace Go.Proofs.Ytcalgoembdmlkaa.Pure
open Go.RowKit Go.Proofs.Ytcalgoembdmlkaa.QFnRuns Go.Proofs.YtcalgoembdmlkaaW.PrintWords Go.Proofs.YtcalgoembdmlkaaW.PrintLast Go.Proofs.Ytcalgoembdmlkaa.Plain

theorem within_eq (a b c : Int) : impl_within.f a b c = some (inB a b c) := by unfold impl_within.f inB; by_cases h : b ≤ a <;> simp [h]
def coord (a : Int) : Bool := inB a (-200) 200
def boxOk (a b c d : Int) : Bool := coord a && (coord b && (coord c && (coord d && (decide (a ≤ c) && decide (b ≤ d)))))
def rowOk (l : List Int) : Bool := decide ((l.length : Int) = 32) && l.all fun v => inB v 0 255
def rowsOk (l : List (List Int)) : Bool := decide ((l.length : Int) ≤ 32) && l.all rowOk
def runsLen : List S112 → Int → Int
  | [], a => a
  | x :: r, a => runsLen r (wrap64 (a + x.f1))
theorem iRunsLength_ev (l : List S112) (hm : l.length ≤ maxLen) : Ev (fun k => impl_RunsLength.f k l) (runsLen l 0) := by
  simp only [impl_RunsLength.f]
  refine ev_loop l (F := fun k s i => impl_RunsLength.l0 k s l l.length i) (fun _ _ _ => True) (fun _ r s => runsLen r s) ?_ ?_ _ trivial
  · intro s _; simp only [impl_RunsLength.l0, end_lt, if_false]; exact Ev.now _
  · rintro pre x rest s e _ ih
    subst e
    simp only [impl_RunsLength.l0, mid_lt, mid_nn, mid_wrap hm, if_true, rd_T112, Int.toNat_natCast, mid_get]
    exact ih _ trivial
def runsFrom : Option Int → List S112 → Bool
  | _, [] => true
  | p, x :: r => inB x.f0 0 255 && (inB x.f1 1 32 && (!(p == some x.f0) && runsFrom (some x.f0) r))
theorem last_get {α : Type} (pre : List α) (y x : α) (rest : List α) (z : α) (hm : ((pre ++ [y]) ++ x :: rest).length ≤ maxLen) :
    wrap64 (((pre ++ [y]).length : Int) - 1) = (pre.length : Int) ∧ ((pre ++ [y]) ++ x :: rest).getD pre.length z = y := by
  rw [maxLen_eq] at hm
  simp at hm
  refine ⟨by rw [wrap_id (by simp <;> omega) (by simp <;> omega)]; simp, by simp [List.getD_eq_getElem?_getD]⟩
theorem iRunsOk_ev (l : List S112) (hm : l.length ≤ maxLen) : Ev (fun k => impl_RunsOk.f k l) (runsFrom none l) := by
  simp only [impl_RunsOk.f]
  refine ev_loop0 l (F := fun k i => impl_RunsOk.l0 k l l l.length i) (fun p r => runsFrom (p.getLast?.map (·.f0)) r) ?_ (fun pre x rest e h => ?_)
  · simp only [impl_RunsOk.l0, end_lt, if_false]; exact Ev.now _
  · subst e
    rw [List.getLast?_append, List.getLast?_singleton] at h
    simp only [impl_RunsOk.l0, mid_lt, mid_nn, mid_wrap hm, if_true, rd_T112, Int.toNat_natCast, mid_get, within_eq, Option.bind_some, runsFrom]
    refine Ev.andB (fun _ => Ev.andB (fun _ => ?_))
    rcases List.eq_nil_or_concat pre with rfl | ⟨q, y, rfl⟩
    · simp only [List.length_nil, Int.ofNat_zero, gt_iff_lt, Int.lt_irrefl, if_false] at h ⊢
      simpa using h
    · obtain ⟨h1, h2⟩ := last_get q y x rest z112 (by simpa using hm)
      rw [List.concat_eq_append] at *
      have c1 : ((q ++ [y]).length : Int) > 0 := by simp <;> omega
      have c2 : (q.length : Int) < (((q ++ [y]) ++ x :: rest).length : Int) := by simp; omega
      simp only [h1, c1, c2, mid_nn, if_true, Int.toNat_natCast, h2, List.getLast?_append, List.getLast?_singleton]
      refine Ev.ite (fun c => Ev.val (by simp [c])) (fun c => ?_)
      have hb : (y.f0 == x.f0) = false := beq_eq_false_iff_ne.2 c
      simpa [hb] using h
def runAt : List S112 → Int → Int
  | [], _ => -1
  | x :: r, a => if a < x.f1 then x.f0 else runAt r (wrap64 (a - x.f1))
def runAtF (l : List S112) (a : Int) : Int := if a < 0 then -1 else if runsFrom none l = true then runAt l a else -1
theorem iRunAt_loop (l : List S112) (a : Int) (hm : l.length ≤ maxLen) : Ev (fun k => impl_RunAt.l0 k a l l.length 0) (runAt l a) := by
  refine ev_loop l (F := fun k s i => impl_RunAt.l0 k s l l.length i) (fun _ _ _ => True) (fun _ r s => runAt r s) ?_ ?_ _ trivial
  · intro s _; simp only [impl_RunAt.l0, end_lt, if_false]; exact Ev.now _
  · rintro pre x rest s e _ ih
    subst e
    simp only [impl_RunAt.l0, mid_lt, mid_nn, mid_wrap hm, if_true, rd_T112, Int.toNat_natCast, mid_get, runAt]
    by_cases c : s < x.f1
    · simp only [if_pos c]; exact Ev.now _
    · simp only [if_neg c]; exact ih _ trivial
theorem iRunAt_ev (l : List S112) (a : Int) (hm : l.length ≤ maxLen) : Ev (fun k => impl_RunAt.f k l a) (runAtF l a) := by
  simp only [impl_RunAt.f]
  unfold runAtF
  by_cases c : a < 0
  · simp only [if_pos c]
    exact Ev.up (by simp only [impl_RunAt.j0, if_true]; exact Ev.now _)
  · simp only [if_neg c]
    refine Ev.bind (iRunsOk_ev l hm) (Ev.up ?_)
    cases runsFrom none l
    · simp only [impl_RunAt.j0, Bool.not_false, if_true]; exact Ev.now _
    · simp only [impl_RunAt.j0, Bool.not_true, Bool.false_eq_true, if_false, if_true]; exact iRunAt_loop l a hm
def stepR (s : List S112) (v : Int) : List S112 :=
  match s.getLast? with
  | some r => if r.f0 = v then s.dropLast ++ [⟨r.f0, r.f1 + 1⟩] else s ++ [⟨v, 1⟩]
  | none => [⟨v, 1⟩]
def runsGo : List Int → List S112 → List S112
  | [], s => s
  | v :: r, s => if inB v 0 255 = true then runsGo r (stepR s v) else []
def runsOf (l : List Int) : List S112 := if (l.length : Int) > 32 then [] else runsGo l []
/-- What holds of the runs so far: no more than there were values, each at least one. -/
def RunsInv (n : Nat) (s : List S112) : Prop := s.length ≤ n ∧ ∀ r ∈ s, 1 ≤ r.f1 ∧ r.f1 ≤ n
theorem stepR_inv {n : Nat} {s : List S112} (v : Int) (h : RunsInv n s) : RunsInv (n + 1) (stepR s v) := by
  obtain ⟨h1, h2⟩ := h
  unfold stepR
  cases e : s.getLast? with
  | none => exact ⟨by simp, by simp; omega⟩
  | some r =>
    have hr : r ∈ s := List.mem_of_getLast? e
    have hr2 := h2 r hr
    have hne : s ≠ [] := by rintro rfl; simp at e
    have hpos : 0 < s.length := List.length_pos_iff.2 hne
    simp only
    split
    · refine ⟨by simp; omega, fun q hq => ?_⟩
      rcases List.mem_append.1 hq with hq | hq
      · have := h2 q ((List.dropLast_sublist s).subset hq); omega
      · rw [List.mem_singleton] at hq; subst hq; simp; omega
    · refine ⟨by simp; omega, fun q hq => ?_⟩
      rcases List.mem_append.1 hq with hq | hq
      · have := h2 q hq; omega
      · rw [List.mem_singleton] at hq; subst hq; simp; omega
theorem runsGo_inv : ∀ (l : List Int) (n : Nat) (s : List S112), RunsInv n s → RunsInv (n + l.length) (runsGo l s)
  | [], n, s, h => by simpa [runsGo] using h
  | v :: r, n, s, h => by
    unfold runsGo
    split
    · have := runsGo_inv r (n + 1) _ (stepR_inv v h)
      rw [List.length_cons]
      rwa [show n + (r.length + 1) = n + 1 + r.length by omega]
    · exact ⟨by simp, by simp⟩
theorem runsOf_inv (l : List Int) : RunsInv 32 (runsOf l) := by
  unfold runsOf
  split
  · exact ⟨by simp, by simp⟩
  · have h := runsGo_inv l 0 [] ⟨by simp, by simp⟩
    refine ⟨by have := h.1; omega, fun r hr => by have := h.2 r hr; omega⟩
/-- One value: what both programs do, in one word. -/
theorem step_round {β : Type} {n : Nat} (s : List S112) (hs : RunsInv n s) (hn : n ≤ 32) (v : Int) (G : Nat → List S112 → Option β) (r : β) (h : Ev (fun k => G k (stepR s v)) r) :
    Ev (fun k => if (s.length : Int) > 0 then (if 0 ≤ (wrap64 ((s.length : Int) - 1)) then (if (wrap64 ((s.length : Int) - 1)) < (s.length : Int) then (if ((rd_T112 s (wrap64 ((s.length : Int) - 1))).f0) = v then (G k (s.set ((wrap64 ((s.length : Int) - 1)) : Int).toNat (⟨(rd_T112 s (wrap64 ((s.length : Int) - 1))).f0, wrap64 (((rd_T112 s (wrap64 ((s.length : Int) - 1))).f1) + 1)⟩ : S112))) else (if s.length < 8796093022208 then (G k (s ++ [(⟨v, 1⟩ : S112)])) else (none))) else (none)) else (none)) else (if s.length < 8796093022208 then (G k (s ++ [(⟨v, 1⟩ : S112)])) else (none))) r := by
  have hsl := hs.1
  have c4 : s.length < 8796093022208 := by omega
  rcases List.eq_nil_or_concat s with rfl | ⟨q, y, rfl⟩
  · have c0 : ¬ (([] : List S112).length : Int) > 0 := by simp
    simp only [if_neg c0, if_pos c4]
    exact h
  · rw [List.concat_eq_append] at *
    have c0 : ((q ++ [y]).length : Int) > 0 := by simp <;> omega
    have e1 : wrap64 (((q ++ [y]).length : Int) - 1) = (q.length : Int) := by rw [wrap_id (by simp <;> omega) (by omega)]; simp
    have c2 : (q.length : Int) < ((q ++ [y]).length : Int) := by simp <;> omega
    have e2 : rd_T112 (q ++ [y]) (q.length : Int) = y := by simp [rd_T112, List.getD_eq_getElem?_getD]
    have hy := hs.2 y (by simp)
    have e3 : wrap64 (y.f1 + 1) = y.f1 + 1 := wrap_id (by omega) (by omega)
    have e4 : (q ++ [y]).set q.length (⟨y.f0, y.f1 + 1⟩ : S112) = q ++ [⟨y.f0, y.f1 + 1⟩] := by rw [List.set_append_right _ _ (Nat.le_refl _)]; simp
    simp only [if_pos c0, e1, mid_nn, if_true, if_pos c2, e2, e3, Int.toNat_natCast, e4, if_pos c4]
    unfold stepR at h
    simp only [List.getLast?_append, List.getLast?_singleton, Option.some_or, List.dropLast_concat] at h
    by_cases c : y.f0 = v
    · simp only [if_pos c] at h ⊢; exact h
    · simp only [if_neg c] at h ⊢; exact h
theorem iRunsOf_ev (l : List Int) : Ev (fun k => impl_RunsOf.f k l) (runsOf l) := by
  simp only [impl_RunsOf.f]
  unfold runsOf
  by_cases c : (l.length : Int) > 32
  · simp only [if_pos c]; exact Ev.now _
  · simp only [if_neg c]
    have hm : l.length ≤ maxLen := by rw [maxLen_eq]; omega
    refine ev_loop l (F := fun k s i => impl_RunsOf.l0 k s l l.length i) (fun p _ s => RunsInv p.length s) (fun _ r s => runsGo r s) ?_ ?_ [] ⟨by simp, by simp⟩
    · intro s _; simp only [impl_RunsOf.l0, end_lt, if_false]; exact Ev.now _
    · rintro pre x rest s e hI ih
      have hn : pre.length ≤ 32 := by rw [e] at c; simp at c; omega
      clear c
      subst e
      simp only [impl_RunsOf.l0, mid_lt, mid_nn, mid_wrap hm, if_true, rd, Int.toNat_natCast, mid_get, within_eq, Option.bind_some, runsGo]
      by_cases cx : inB x 0 255 = true
      · simp only [if_pos cx]
        exact step_round s hI hn x (fun k s' => impl_RunsOf.l0 k s' (pre ++ x :: rest) ((pre ++ x :: rest).length : Int) ((pre ++ [x]).length : Int)) _ (ih _ (by rw [List.length_append]; exact stepR_inv x hI))
      · simp only [if_neg cx]; exact Ev.now _
end Go.Proofs.Ytcalgoembdmlkaa.Pure
namespace Go.Proofs.Ytcalgoembdmlkaa.Pure
open Go.RowKit Go.Proofs.Ytcalgoembdmlkaa.QFnRuns Go.Proofs.YtcalgoembdmlkaaW.PrintWords Go.Proofs.YtcalgoembdmlkaaW.PrintLast Go.Proofs.Ytcalgoembdmlkaa.Plain

theorem runs_all : ∀ (l : List S112) (p : Option Int), runsFrom p l = true → ∀ x ∈ l, 1 ≤ x.f1 ∧ x.f1 ≤ 32
  | [], _, _, _, h => by simp at h
  | y :: r, p, h, x, hx => by
    simp only [runsFrom, Bool.and_eq_true, inB_iff] at h
    rcases List.mem_cons.1 hx with rfl | hx
    · exact h.2.1
    · exact runs_all r _ h.2.2.2 x hx
/-- A value put n times. -/
theorem ev_rep {β : Type} {F : Nat → List Int → Int → Option β} (v : Int) (n : Int) {r : β} (s0 : List Int) (hn : 0 ≤ n) (hb : (s0.length : Int) + n ≤ 32)
    (hnil : Ev (fun k => F (k + 1) (s0 ++ List.replicate n.toNat v) n) r)
    (hcons : ∀ s i, 0 ≤ i → i < n → s.length ≤ 32 → Ev (fun k => F k (s ++ [v]) (i + 1)) r → Ev (fun k => F (k + 1) s i) r) : Ev (fun k => F k s0 0) r := by
  have main : ∀ (m : Nat) (s : List Int) (i : Int), 0 ≤ i → i + m = n → s.length + m ≤ 32 → s ++ List.replicate m v = s0 ++ List.replicate n.toNat v → Ev (fun k => F k s i) r := by
    intro m
    induction m with
    | zero =>
      intro s i h0 h1 h2 h3
      have e : i = n := by omega
      have e2 : s = s0 ++ List.replicate n.toNat v := by simpa using h3
      subst e e2
      exact Ev.up hnil
    | succ m ih =>
      intro s i h0 h1 h2 h3
      refine Ev.up (hcons s i h0 (by omega) (by omega) (ih _ _ (by omega) (by omega) (by simp; omega) ?_))
      rw [← h3, List.append_assoc]
      rfl
  exact main n.toNat s0 0 (by omega) (by omega) (by omega) rfl
def rowGo : List S112 → List Int → List Int
  | [], s => s
  | x :: r, s => if (s.length : Int) + x.f1 > 32 then [] else rowGo r (s ++ List.replicate x.f1.toNat x.f0)
def rowOf (l : List S112) : List Int := if runsFrom none l = true then rowGo l [] else []
def sumR : List S112 → Int
  | [] => 0
  | x :: r => x.f1 + sumR r
theorem sumR_nn : ∀ l : List S112, (∀ x ∈ l, 1 ≤ x.f1 ∧ x.f1 ≤ 32) → 0 ≤ sumR l ∧ sumR l ≤ 32 * l.length
  | [], _ => by simp [sumR]
  | x :: r, h => by
    have h1 := h x (by simp)
    have h2 := sumR_nn r (fun y hy => h y (by simp [hy]))
    simp only [sumR, List.length_cons]
    omega
theorem runsLen_sum : ∀ (l : List S112) (a : Int), (∀ x ∈ l, 1 ≤ x.f1 ∧ x.f1 ≤ 32) → 0 ≤ a → a + 32 * l.length ≤ 4611686018427387904 → runsLen l a = a + sumR l
  | [], a, _, _, _ => by simp [runsLen, sumR]
  | x :: r, a, h, h0, h1 => by
    have hx := h x (by simp)
    rw [List.length_cons] at h1
    simp only [runsLen, sumR]
    rw [wrap_id (by omega) (by omega), runsLen_sum r _ (fun y hy => h y (by simp [hy])) (by omega) (by omega)]
    omega
theorem rowGo_big : ∀ (l : List S112) (s : List Int), (∀ x ∈ l, 1 ≤ x.f1 ∧ x.f1 ≤ 32) → s.length ≤ 32 → (s.length : Int) + sumR l > 32 → rowGo l s = []
  | [], s, _, h, c => by simp [sumR] at c; omega
  | x :: r, s, h, hs, c => by
    have hx := h x (by simp)
    simp only [sumR] at c
    unfold rowGo
    split
    · rfl
    · refine rowGo_big r _ (fun y hy => h y (by simp [hy])) (by simp; omega) (by simp; omega)
theorem rowGo_len : ∀ (l : List S112) (s : List Int), (∀ x ∈ l, 1 ≤ x.f1 ∧ x.f1 ≤ 32) → s.length ≤ 32 → (rowGo l s).length ≤ 32
  | [], s, _, h => by simpa [rowGo] using h
  | x :: r, s, h, hs => by
    have hx := h x (by simp)
    unfold rowGo
    split
    · simp
    · exact rowGo_len r _ (fun y hy => h y (by simp [hy])) (by simp; omega)
theorem rowOf_len (l : List S112) : (rowOf l).length ≤ 32 := by
  unfold rowOf
  split
  case isTrue c => exact rowGo_len l [] (runs_all l none c) (by simp)
  case isFalse => simp
theorem iRowOf_loop (l : List S112) (hall : ∀ x ∈ l, 1 ≤ x.f1 ∧ x.f1 ≤ 32) (hm : l.length ≤ maxLen) (ht : sumR l ≤ 32) : Ev (fun k => impl_RowOf.l0 k [] l l.length 0) (rowGo l []) := by
  refine ev_loop l (F := fun k s i => impl_RowOf.l0 k s l l.length i) (fun _ r s => (s.length : Int) + sumR r ≤ 32) (fun _ r s => rowGo r s) ?_ ?_ [] (by simpa using ht)
  · intro s _; simp only [impl_RowOf.l0, end_lt, if_false]; exact Ev.now _
  · rintro pre x rest s e hs ih
    have hx := hall x (by rw [e]; simp)
    have hr := sumR_nn rest (fun y hy => hall y (by rw [e]; simp [hy]))
    simp only [sumR] at hs
    subst e
    simp only [impl_RowOf.l0, mid_lt, mid_nn, mid_wrap hm, if_true, rd_T112, Int.toNat_natCast, mid_get, rowGo]
    simp only [if_neg (show ¬ (s.length : Int) + x.f1 > 32 by omega)]
    refine ev_rep (F := fun k s j => impl_RowOf.l1 k s j (pre ++ x :: rest) ((pre ++ x :: rest).length : Int) pre.length x.f0 x.f1) x.f0 x.f1 s (by omega) (by omega) ?_ ?_
    · simp only [impl_RowOf.l1, Int.lt_irrefl, if_false, mid_wrap hm]
      exact ih _ (by simp; omega)
    · intro s' i h0 h1 hs' h
      have c4 : s'.length < 17592186044416 := by omega
      have hw2 : wrap64 (i + 1) = i + 1 := wrap_id (by omega) (by omega)
      simp only [impl_RowOf.l1, if_pos h1, if_pos c4, hw2]; exact h
theorem iRowOf_ev (l : List S112) (hl : (l.length : Int) ≤ 1048576) : Ev (fun k => impl_RowOf.f k l) (rowOf l) := by
  have hm : l.length ≤ maxLen := by rw [maxLen_eq]; omega
  simp only [impl_RowOf.f]
  unfold rowOf
  refine Ev.bind (iRunsOk_ev l hm) ?_
  by_cases c : runsFrom none l = true
  · have hall := runs_all l none c
    simp only [if_pos c]
    refine Ev.bind (iRunsLength_ev l hm) (Ev.up ?_)
    rw [runsLen_sum l 0 hall (by omega) (by omega)]
    have hr := sumR_nn l hall
    by_cases ct : sumR l > 32
    · have ct' : (0 : Int) + sumR l > 32 := by omega
      simp only [impl_RowOf.j0, decide_eq_true ct', if_true]
      exact Ev.val (rowGo_big l [] hall (by simp) (by simpa using ct)).symm
    · have ct' : ¬ (0 : Int) + sumR l > 32 := by omega
      simp only [impl_RowOf.j0, decide_eq_false ct', Bool.false_eq_true, if_false]
      exact iRowOf_loop l hall hm (by omega)
  · simp only [if_neg c]
    exact Ev.up (by simp only [impl_RowOf.j0, if_true]; exact Ev.now _)
end Go.Proofs.Ytcalgoembdmlkaa.Pure
namespace Go.Proofs.Ytcalgoembdmlkaa.Pure
open Go.RowKit Go.Proofs.Ytcalgoembdmlkaa.QFnRuns Go.Proofs.YtcalgoembdmlkaaW.PrintWords Go.Proofs.YtcalgoembdmlkaaW.PrintLast Go.Proofs.Ytcalgoembdmlkaa.Plain

def expR : List S112 → List Int
  | [] => []
  | x :: r => List.replicate x.f1.toNat x.f0 ++ expR r
theorem expR_app : ∀ q t : List S112, expR (q ++ t) = expR q ++ expR t
  | [], t => rfl
  | x :: q, t => by simp [expR, expR_app q t]
theorem runsFrom_app (x : S112) : ∀ (q : List S112) (p : Option Int), runsFrom p (q ++ [x]) = (runsFrom p q && (inB x.f0 0 255 && (inB x.f1 1 32 && !((match q.getLast? with | some y => some y.f0 | none => p) == some x.f0))))
  | [], p => by simp [runsFrom]
  | y :: q, p => by
    have h := runsFrom_app x q (some y.f0)
    simp only [List.cons_append, runsFrom, h]
    cases q with
    | nil => simp [Bool.and_assoc]
    | cons z q => simp [List.getLast?_cons, Bool.and_assoc]
theorem stepR_exp {n : Nat} {s : List S112} (v : Int) (hv : inB v 0 255 = true) (hI : RunsInv n s) (hn : n ≤ 31) (hr : runsFrom none s = true) : expR (stepR s v) = expR s ++ [v] ∧ runsFrom none (stepR s v) = true := by
  have h1 : inB 1 1 32 = true := by decide
  rcases List.eq_nil_or_concat s with rfl | ⟨q, y, rfl⟩
  · simp [stepR, expR, runsFrom, hv, h1]
  · rw [List.concat_eq_append] at *
    have hy := hI.2 y (by simp)
    have hall := runs_all _ _ hr y (by simp)
    rw [runsFrom_app] at hr
    unfold stepR
    simp only [List.getLast?_append, List.getLast?_singleton, Option.some_or, List.dropLast_concat]
    by_cases c : y.f0 = v
    · rw [if_pos c]
      refine ⟨?_, ?_⟩
      · simp only [expR_app, expR, List.append_nil, List.append_assoc]
        rw [show (y.f1 + 1).toNat = y.f1.toNat + 1 by omega, List.replicate_succ', c]
      · rw [runsFrom_app]
        simp only [Bool.and_eq_true] at hr ⊢
        refine ⟨hr.1, hr.2.1, ?_, hr.2.2.2⟩
        rw [inB_iff]; omega
    · rw [if_neg c]
      refine ⟨?_, ?_⟩
      · simp only [expR_app, expR, List.append_nil]
        rfl
      · rw [runsFrom_app, runsFrom_app, hr]
        simp [hv, h1, c]
theorem runsGo_exp : ∀ (l : List Int) (n : Nat) (s : List S112), (∀ v ∈ l, inB v 0 255 = true) → RunsInv n s → n + l.length ≤ 32 → runsFrom none s = true → expR (runsGo l s) = expR s ++ l ∧ runsFrom none (runsGo l s) = true
  | [], n, s, _, _, _, hr => by simp [runsGo, hr]
  | v :: r, n, s, hv, hI, hn, hr => by
    rw [List.length_cons] at hn
    have h0 := hv v (by simp)
    have hs := stepR_exp v h0 hI (by omega) hr
    have h2 := runsGo_exp r (n + 1) (stepR s v) (fun x hx => hv x (by simp [hx])) (stepR_inv v hI) (by omega) hs.2
    unfold runsGo
    rw [if_pos h0]
    refine ⟨?_, h2.2⟩
    rw [h2.1, hs.1]; simp
theorem rowGo_exp : ∀ (l : List S112) (s : List Int), (∀ x ∈ l, 1 ≤ x.f1 ∧ x.f1 ≤ 32) → s.length + (expR l).length ≤ 32 → rowGo l s = s ++ expR l
  | [], s, _, _ => by simp [rowGo, expR]
  | x :: r, s, h, hn => by
    have hx := h x (by simp)
    simp only [expR, List.length_append, List.length_replicate] at hn
    unfold rowGo
    rw [if_neg (by omega), rowGo_exp r _ (fun y hy => h y (by simp [hy])) (by simp; omega)]
    simp [expR]
theorem rowOk_vals {r : List Int} (h : rowOk r = true) : r.length = 32 ∧ ∀ v ∈ r, inB v 0 255 = true := by
  unfold rowOk at h
  simp only [Bool.and_eq_true, decide_eq_true_eq, List.all_eq_true] at h
  exact ⟨by omega, h.2⟩
theorem rowOf_runsOf {r : List Int} (h : rowOk r = true) : rowOf (runsOf r) = r := by
  obtain ⟨hl, hv⟩ := rowOk_vals h
  unfold runsOf
  rw [if_neg (by omega)]
  have hg := runsGo_exp r 0 [] hv ⟨by simp, by simp⟩ (by omega) rfl
  unfold rowOf
  rw [if_pos hg.2, rowGo_exp _ _ (runs_all _ _ hg.2) (by rw [hg.1]; simp [expR]; omega), hg.1]
  simp [expR]
theorem and255 (x : Int) : 0 ≤ Go.bits .and .i64 x 255 ∧ Go.bits .and .i64 x 255 ≤ 255 := by
  have h : ((BitVec.ofInt 64 x) &&& (BitVec.ofInt 64 255)).toNat ≤ 255 := by
    rw [BitVec.toNat_and]; exact Nat.le_trans Nat.and_le_right (by decide)
  have e : Go.bits .and .i64 x 255 = IntKind.wrap .i64 (((BitVec.ofInt 64 x) &&& (BitVec.ofInt 64 255)).toNat : Int) := rfl
  rw [e]
  generalize ((BitVec.ofInt 64 x) &&& (BitVec.ofInt 64 255)).toNat = n at h
  have e2 : IntKind.wrap .i64 (n : Int) = n := by
    have e3 : IntKind.wrap .i64 (n : Int) = if ((true && decide ((n : Int) % 2 ^ 64 ≥ 2 ^ 63)) = true) then (n : Int) % 2 ^ 64 - 2 ^ 64 else (n : Int) % 2 ^ 64 := rfl
    rw [e3]
    have c : ¬ ((true && decide ((n : Int) % 2 ^ 64 ≥ 2 ^ 63)) = true) := by simp; omega
    rw [if_neg c]; omega
  rw [e2]; omega
theorem byte_ok (b : List Int) (i h : Int) (hb : (b.length : Int) ≤ 1048576) (h0 : 0 ≤ i) (h1 : i ≤ 1048576) : ∃ v i' h', spec_l01Byte.f b i h = some (v, i', h') ∧ 0 ≤ v ∧ v ≤ 255 ∧ 0 ≤ i' ∧ i' ≤ 1048576 := by
  unfold spec_l01Byte.f
  by_cases c : i < (b.length : Int)
  · rw [if_pos c, if_pos h0]
    have hw : wrap64 (i + 1) = i + 1 := wrap_id (by omega) (by omega)
    exact ⟨_, _, _, rfl, (and255 _).1, (and255 _).2, by rw [hw]; omega, by rw [hw]; omega⟩
  · rw [if_neg c]
    exact ⟨_, _, _, rfl, (and255 _).1, (and255 _).2, h0, h1⟩
theorem below_ok (b : List Int) (i h n : Int) (hn : 0 < n) (hn2 : n ≤ 256) (hb : (b.length : Int) ≤ 1048576) (h0 : 0 ≤ i) (h1 : i ≤ 1048576) : ∃ v i' h', spec_l01Below.f b i h n = some (v, i', h') ∧ 0 ≤ v ∧ v < n ∧ 0 ≤ i' ∧ i' ≤ 1048576 := by
  obtain ⟨v, i', h', e, g0, g1, g2, g3⟩ := byte_ok b i h hb h0 h1
  unfold spec_l01Below.f
  rw [if_neg (by omega), if_pos hn2, e]
  refine ⟨Int.tmod v n, i', h', ?_, Int.tmod_nonneg _ g0, Int.tmod_lt_of_pos _ hn, g2, g3⟩
  simp only [Option.bind_some]
  rw [if_neg (by omega)]
theorem once_ok (b : List Int) (i h n : Int) (hn : 0 < n) (hn2 : n ≤ 256) (hb : (b.length : Int) ≤ 1048576) (h0 : 0 ≤ i) (h1 : i ≤ 1048576) : ∃ v i' h', spec_l01Once.f b i h n = some (v, i', h') ∧ 0 ≤ i' ∧ i' ≤ 1048576 := by
  obtain ⟨v, i', h', e, _, _, g2, g3⟩ := below_ok b i h n hn hn2 hb h0 h1
  unfold spec_l01Once.f
  rw [e]
  exact ⟨_, _, _, rfl, g2, g3⟩
theorem pick_ok (b : List Int) (i h : Int) (l : List Int) (hn : 0 < l.length) (hn2 : l.length ≤ 256) (hb : (b.length : Int) ≤ 1048576) (h0 : 0 ≤ i) (h1 : i ≤ 1048576) : ∃ v i' h', spec_l01PickInt.f b i h l = some (v, i', h') ∧ v ∈ l ∧ 0 ≤ i' ∧ i' ≤ 1048576 := by
  obtain ⟨v, i', h', e, g0, g1, g2, g3⟩ := below_ok b i h l.length (by omega) (by omega) hb h0 h1
  unfold spec_l01PickInt.f
  rw [e]
  simp only [Option.bind_some, if_pos g0, if_pos g1]
  refine ⟨_, _, _, rfl, ?_, g2, g3⟩
  have hv : v.toNat < l.length := by omega
  have e2 : rd l v = l[v.toNat] := by simp [rd, List.getD_eq_getElem?_getD, List.getElem?_eq_getElem hv]
  rw [e2]
  exact List.getElem_mem hv
theorem new_ok (b : List Int) (hb : (b.length : Int) ≤ 1048576) : ∃ h', Ev (fun k => spec_l01New.f k b) (b, 0, h') := by
  simp only [spec_l01New.f]
  have main : ∀ (m : Nat) (i : Nat) (h : Int), 4001 - i = m → ∃ h', Ev (fun k => spec_l01New.l0 k b h (i : Int)) (b, 0, h') := by
    intro m
    induction m with
    | zero =>
      intro i h hm
      refine ⟨h, Ev.up ?_⟩
      simp only [spec_l01New.l0, if_neg (show ¬ (i : Int) < 4000 by omega)]
      exact Ev.ite (fun _ => Ev.now _) (fun _ => Ev.now _)
    | succ m ih =>
      intro i h hm
      by_cases c : (i : Int) < (b.length : Int)
      · by_cases c2 : (i : Int) < 4000
        · have hw : wrap64 ((i : Int) + 1) = ((i + 1 : Nat) : Int) := by rw [wrap_id (by omega) (by omega)]; simp
          obtain ⟨h', e⟩ := ih (i + 1) (Go.bits .and .i64 (wrap64 ((wrap64 ((wrap64 (h * 131)) + (wrap64 (rd b (i : Int))))) + 7)) 1073741823) (by omega)
          refine ⟨h', Ev.up ?_⟩
          simp only [spec_l01New.l0, if_pos c, if_pos c2, mid_nn, if_true, hw]
          exact e
        · refine ⟨h, Ev.up ?_⟩
          simp only [spec_l01New.l0, if_pos c, if_neg c2]; exact Ev.now _
      · refine ⟨h, Ev.up ?_⟩
        simp only [spec_l01New.l0, if_neg c]; exact Ev.now _
  exact main 4001 0 _ rfl
theorem row_ok (b : List Int) (hb : (b.length : Int) ≤ 1048576) (x5 : List (List Int)) (x6 x7 : Int) : ∀ (m : Nat) (s : List Int) (g i h : Int), 32 - s.length = m → s.length ≤ 32 → (∀ v ∈ s, inB v 0 255 = true) → inB g 0 255 = true → 0 ≤ i → i ≤ 1048576 →
    ∃ r i' h', rowOk r = true ∧ 0 ≤ i' ∧ i' ≤ 1048576 ∧ ∀ V, Ev (fun k => if x5.length < 5864062014805 then (spec_l11Rows.l0 k (x5 ++ [r]) x6 (wrap64 (x7 + 1)) b i' h') else none) V → Ev (fun k => spec_l11Rows.l1 k x5 x6 x7 s g b i h) V
  | 0, s, g, i, h, hm, hs, hv, hg, h0, h1 => by
    refine ⟨s, i, h, ?_, h0, h1, fun V hV => Ev.up ?_⟩
    · unfold rowOk
      simp only [Bool.and_eq_true, decide_eq_true_eq, List.all_eq_true]
      exact ⟨by omega, hv⟩
    · simp only [spec_l11Rows.l1, if_neg (show ¬ (s.length : Int) < 32 by omega)]
      exact hV
  | m + 1, s, g, i, h, hm, hs, hv, hg, h0, h1 => by
    have hlt : (s.length : Int) < 32 := by omega
    have hs8 : s.length < 17592186044416 := by omega
    obtain ⟨o, i1, h1', e1, a1, a2⟩ := once_ok b i h 5 (by omega) (by omega) hb h0 h1
    cases o with
    | true =>
      obtain ⟨v, i2, h2', e2, b0, b1, b2, b3⟩ := below_ok b i1 h1' 256 (by omega) (by omega) hb a1 a2
      obtain ⟨u, i3, h3', e3, c1, c2, c3⟩ := pick_ok b i2 h2' [0, 255, 128, v] (by simp) (by simp) hb b2 b3
      have hu : inB u 0 255 = true := by
        rw [inB_iff]
        simp only [List.mem_cons, List.not_mem_nil, or_false] at c1
        omega
      obtain ⟨r, i', h', k1, k2, k3, k4⟩ := row_ok b hb x5 x6 x7 m (s ++ [u]) u i3 h3' (by simp; omega) (by simp; omega) (fun z hz => by
        rcases List.mem_append.1 hz with hz | hz
        · exact hv z hz
        · rw [List.mem_singleton] at hz; rw [hz]; exact hu) hu c2 c3
      refine ⟨r, i', h', k1, k2, k3, fun V hV => Ev.up ?_⟩
      simp only [spec_l11Rows.l1, if_pos hlt, e1, Option.bind_some, if_true, e2, e3, if_pos hs8]
      exact k4 V hV
    | false =>
      obtain ⟨r, i', h', k1, k2, k3, k4⟩ := row_ok b hb x5 x6 x7 m (s ++ [g]) g i1 h1' (by simp; omega) (by simp; omega) (fun z hz => by
        rcases List.mem_append.1 hz with hz | hz
        · exact hv z hz
        · rw [List.mem_singleton] at hz; rw [hz]; exact hg) hg a1 a2
      refine ⟨r, i', h', k1, k2, k3, fun V hV => Ev.up ?_⟩
      simp only [spec_l11Rows.l1, if_pos hlt, e1, Option.bind_some, Bool.false_eq_true, if_false, if_pos hs8]
      exact k4 V hV
theorem rows_ok (b : List Int) (hb : (b.length : Int) ≤ 1048576) (n : Int) (hn : n ≤ 32) : ∀ (m : Nat) (s : List (List Int)) (i h : Int), (n - s.length).toNat = m → (s.length : Int) ≤ n → (∀ r ∈ s, rowOk r = true) → 0 ≤ i → i ≤ 1048576 →
    ∃ M i' h', (∀ r ∈ M, rowOk r = true) ∧ (M.length : Int) ≤ n ∧ Ev (fun k => spec_l11Rows.l0 k s n (s.length : Int) b i h) (M, i', h')
  | 0, s, i, h, hm, hs, hv, h0, h1 => by
    refine ⟨s, i, h, hv, hs, Ev.up ?_⟩
    simp only [spec_l11Rows.l0, if_neg (show ¬ (s.length : Int) < n by omega)]
    exact Ev.now _
  | m + 1, s, i, h, hm, hs, hv, h0, h1 => by
    have hlt : (s.length : Int) < n := by omega
    have hs8 : s.length < 5864062014805 := by omega
    obtain ⟨g, i1, h1', e1, b0, b1, a1, a2⟩ := below_ok b i h 256 (by omega) (by omega) hb h0 h1
    obtain ⟨r, i2, h2', k1, k2, k3, k4⟩ := row_ok b hb s n s.length 32 [] g i1 h1' rfl (by simp) (by simp) (by rw [inB_iff]; omega) a1 a2
    have hw : wrap64 ((s.length : Int) + 1) = ((s ++ [r]).length : Int) := by rw [wrap_id (by omega) (by omega)]; simp
    obtain ⟨M, i', h', f1, f2, f3⟩ := rows_ok b hb n hn m (s ++ [r]) i2 h2' (by simp; omega) (by simp; omega) (fun z hz => by
      rcases List.mem_append.1 hz with hz | hz
      · exact hv z hz
      · rw [List.mem_singleton] at hz; rw [hz]; exact k1) k2 k3
    refine ⟨M, i', h', f1, f2, Ev.up ?_⟩
    simp only [spec_l11Rows.l0, if_pos hlt, e1, Option.bind_some]
    refine k4 _ ?_
    simp only [if_pos hs8, hw]
    exact f3
theorem rows_ok2 (b : List Int) (hb : (b.length : Int) ≤ 1048576) (n : Int) (hn : n ≤ 32) : ∀ (m : Nat) (s : List (List Int)) (i h : Int), (n - s.length).toNat = m → (s.length : Int) ≤ n → (∀ r ∈ s, rowOk r = true) → 0 ≤ i → i ≤ 1048576 →
    ∃ M i' h', (∀ r ∈ M, rowOk r = true) ∧ (M.length : Int) ≤ n ∧ 0 ≤ i' ∧ i' ≤ 1048576 ∧ Ev (fun k => spec_l11Rows.l0 k s n (s.length : Int) b i h) (M, i', h')
  | 0, s, i, h, hm, hs, hv, h0, h1 => by
    refine ⟨s, i, h, hv, hs, h0, h1, Ev.up ?_⟩
    simp only [spec_l11Rows.l0, if_neg (show ¬ (s.length : Int) < n by omega)]
    exact Ev.now _
  | m + 1, s, i, h, hm, hs, hv, h0, h1 => by
    have hlt : (s.length : Int) < n := by omega
    have hs8 : s.length < 5864062014805 := by omega
    obtain ⟨g, i1, h1', e1, b0, b1, a1, a2⟩ := below_ok b i h 256 (by omega) (by omega) hb h0 h1
    obtain ⟨r, i2, h2', k1, k2, k3, k4⟩ := row_ok b hb s n s.length 32 [] g i1 h1' rfl (by simp) (by simp) (by rw [inB_iff]; omega) a1 a2
    have hw : wrap64 ((s.length : Int) + 1) = ((s ++ [r]).length : Int) := by rw [wrap_id (by omega) (by omega)]; simp
    obtain ⟨M, i', h', f1, f2, f4, f5, f3⟩ := rows_ok2 b hb n hn m (s ++ [r]) i2 h2' (by simp; omega) (by simp; omega) (fun z hz => by
      rcases List.mem_append.1 hz with hz | hz
      · exact hv z hz
      · rw [List.mem_singleton] at hz; rw [hz]; exact k1) k2 k3
    refine ⟨M, i', h', f1, f2, f4, f5, Ev.up ?_⟩
    simp only [spec_l11Rows.l0, if_pos hlt, e1, Option.bind_some]
    refine k4 _ ?_
    simp only [if_pos hs8, hw]
    exact f3
theorem sameInts_ev (l : List Int) (hm : l.length ≤ maxLen) : Ev (fun k => laws_sameInts.f k l l) true := by
  simp only [laws_sameInts.f, if_true]
  refine ev_loop0 l (F := fun k i => laws_sameInts.l0 k l l i) (fun _ _ => true) ?_ (fun pre x rest e h => ?_)
  · simp only [laws_sameInts.l0, end_lt, if_false]; exact Ev.now _
  · subst e
    simp only [laws_sameInts.l0, mid_lt, mid_nn, mid_wrap hm, if_true]
    exact h
end Go.Proofs.Ytcalgoembdmlkaa.Pure
namespace Go.Proofs.Ytcalgoembdmlkaa.Pure
open Go.RowKit Go.Proofs.Ytcalgoembdmlkaa.QFnRuns Go.Proofs.YtcalgoembdmlkaaW.PrintWords Go.Proofs.YtcalgoembdmlkaaW.PrintLast Go.Proofs.Ytcalgoembdmlkaa.Plain

theorem below_big (b : List Int) (i h n : Int) (hn : 256 < n) (hb : (b.length : Int) ≤ 1048576) (h0 : 0 ≤ i) (h1 : i ≤ 1048576) : ∃ v i' h', spec_l01Below.f b i h n = some (v, i', h') ∧ 0 ≤ v ∧ v < n ∧ 0 ≤ i' ∧ i' ≤ 1048576 := by
  obtain ⟨v1, i1, g1, e1, a0, a1, a2, a3⟩ := byte_ok b i h hb h0 h1
  obtain ⟨v2, i2, g2, e2, b0, b1, b2, b3⟩ := byte_ok b i1 g1 hb a2 a3
  obtain ⟨v3, i3, g3, e3, c0, c1, c2, c3⟩ := byte_ok b i2 g2 hb b2 b3
  obtain ⟨v4, i4, g4, e4, d0, d1, d2, d3⟩ := byte_ok b i3 g3 hb c2 c3
  unfold spec_l01Below.f
  rw [if_neg (by omega), if_neg (by omega), e1]
  simp only [Option.bind_some, e2, e3, e4]
  rw [if_neg (by omega)]
  have hw : wrap64 (wrap64 (wrap64 (wrap64 (v1 * 16777216) + wrap64 (v2 * 65536)) + wrap64 (v3 * 256)) + v4) = v1 * 16777216 + v2 * 65536 + v3 * 256 + v4 := by
    rw [wrap_id (x := v1 * 16777216) (by omega) (by omega), wrap_id (x := v2 * 65536) (by omega) (by omega), wrap_id (x := v3 * 256) (by omega) (by omega), wrap_id (x := v1 * 16777216 + v2 * 65536) (by omega) (by omega), wrap_id (x := v1 * 16777216 + v2 * 65536 + v3 * 256) (by omega) (by omega)]
    exact wrap_id (by omega) (by omega)
  rw [hw]
  exact ⟨_, _, _, rfl, Int.tmod_nonneg _ (by omega), Int.tmod_lt_of_pos _ (by omega), d2, d3⟩
theorem places_loop (b : List Int) (hb : (b.length : Int) ≤ 1048576) : ∀ (m : Nat) (s : List Int) (i h : Int), 12 - s.length = m → s.length ≤ 12 → (∀ p ∈ s, 0 ≤ p ∧ p < 10000) → 0 ≤ i → i ≤ 1048576 →
    ∃ M, (∀ p ∈ M, 0 ≤ p ∧ p < 10000) ∧ M.length = 12 ∧ Ev (fun k => spec_DrawPlaces.l0 k s (s.length : Int) b i h) M
  | 0, s, i, h, hm, hs, hv, h0, h1 => by
    refine ⟨s, hv, by omega, Ev.up ?_⟩
    simp only [spec_DrawPlaces.l0, if_neg (show ¬ (s.length : Int) < 12 by omega)]
    exact Ev.now _
  | m + 1, s, i, h, hm, hs, hv, h0, h1 => by
    have hlt : (s.length : Int) < 12 := by omega
    have hs8 : s.length < 17592186044416 := by omega
    obtain ⟨x, i1, g1, e1, a1, a2, a3, a4⟩ := below_big b i h 10000 (by omega) hb h0 h1
    have hw : wrap64 ((s.length : Int) + 1) = ((s ++ [x]).length : Int) := by rw [wrap_id (by omega) (by omega)]; simp
    obtain ⟨M, f1, f2, f5⟩ := places_loop b hb m (s ++ [x]) i1 g1 (by simp; omega) (by simp; omega) (fun z hz => by
      rcases List.mem_append.1 hz with hz | hz
      · exact hv z hz
      · rw [List.mem_singleton] at hz; rw [hz]; exact ⟨a1, a2⟩) a3 a4
    refine ⟨M, f1, f2, Ev.up ?_⟩
    simp only [spec_DrawPlaces.l0, if_pos hlt, e1, Option.bind_some, if_pos hs8, hw]
    exact f5
theorem drawPlaces_ok (b : List Int) (hb : (b.length : Int) ≤ 1048576) : ∃ M : List Int, (∀ p ∈ M, 0 ≤ p ∧ p < 10000) ∧ M.length = 12 ∧ Ev (fun k => spec_DrawPlaces.f k b) M := by
  obtain ⟨h0, e0⟩ := new_ok b hb
  obtain ⟨M, f1, f2, f3⟩ := places_loop b hb 12 [] 0 h0 rfl (by simp) (by simp) (by omega) (by omega)
  refine ⟨M, f1, f2, ?_⟩
  simp only [spec_DrawPlaces.f]
  exact Ev.bind e0 f3
end Go.Proofs.Ytcalgoembdmlkaa.Pure
namespace Go.Proofs.Ytcalgoembdmlkaa.Pure
open Go.RowKit Go.Proofs.Ytcalgoembdmlkaa.QFnRuns Go.Proofs.YtcalgoembdmlkaaW.PrintWords Go.Proofs.YtcalgoembdmlkaaW.PrintLast Go.Proofs.Ytcalgoembdmlkaa.Plain

theorem runs_facts {r : List Int} (hl : r.length ≤ 32) (hv : ∀ v ∈ r, inB v 0 255 = true) : runsFrom none (runsOf r) = true ∧ expR (runsOf r) = r ∧ rowOf (runsOf r) = r := by
  have hg := runsGo_exp r 0 [] hv ⟨by simp, by simp⟩ (by omega) rfl
  have e : runsOf r = runsGo r [] := by unfold runsOf; rw [if_neg (by omega)]
  have e2 : expR (runsGo r []) = r := by rw [hg.1]; simp [expR]
  rw [e]
  refine ⟨hg.2, e2, ?_⟩
  unfold rowOf
  rw [if_pos hg.2, rowGo_exp _ _ (runs_all _ _ hg.2) (by rw [e2]; simpa using hl), e2]
  simp
theorem expR_len : ∀ l : List S112, (∀ x ∈ l, 1 ≤ x.f1 ∧ x.f1 ≤ 32) → ((expR l).length : Int) = sumR l
  | [], _ => rfl
  | x :: r, h => by
    have hx := h x (by simp)
    have ih := expR_len r (fun y hy => h y (by simp [hy]))
    simp only [expR, sumR, List.length_append, List.length_replicate]
    omega
theorem runAt_in : ∀ (l : List S112) (a : Int), (∀ x ∈ l, 1 ≤ x.f1 ∧ x.f1 ≤ 32) → 0 ≤ a → a ≤ 1000 → runAt l a = if a < ((expR l).length : Int) then rd (expR l) a else -1
  | [], a, _, h0, _ => by simp [runAt, expR]; omega
  | x :: r, a, h, h0, h1 => by
    have hx := h x (by simp)
    have hr : ∀ y ∈ r, 1 ≤ y.f1 ∧ y.f1 ≤ 32 := fun y hy => h y (by simp [hy])
    simp only [runAt, expR, List.length_append, List.length_replicate]
    by_cases c : a < x.f1
    · rw [if_pos c, if_pos (by omega)]
      unfold rd
      rw [List.getD_eq_getElem?_getD, List.getElem?_append_left (by rw [List.length_replicate]; omega), List.getElem?_replicate, if_pos (by omega)]
      rfl
    · rw [if_neg c, wrap_id (by omega) (by omega), runAt_in r (a - x.f1) hr (by omega) (by omega)]
      by_cases k : a - x.f1 < ((expR r).length : Int)
      · rw [if_pos k, if_pos (by omega)]
        unfold rd
        rw [List.getD_eq_getElem?_getD, List.getD_eq_getElem?_getD, List.getElem?_append_right (by rw [List.length_replicate]; omega), List.length_replicate, show (a - x.f1).toNat = a.toNat - x.f1.toNat by omega]
      · rw [if_neg k, if_neg (by omega)]
theorem l14Row_ok (b : List Int) (hb : (b.length : Int) ≤ 1048576) (i h : Int) (h0 : 0 ≤ i) (h1 : i ≤ 1048576) : ∃ r i' h', r.length ≤ 32 ∧ (∀ v ∈ r, inB v 0 255 = true) ∧ Ev (fun k => spec_l14Row.f k b i h) (r, i', h') := by
  obtain ⟨n, i1, g1, e1, n0, n1, a1, a2⟩ := below_ok b i h 2 (by omega) (by omega) hb h0 h1
  have hrows := rows_ok2 b hb n (by omega) n.toNat [] i1 g1 (by simp) (by simpa using n0) (by simp) a1 a2
  obtain ⟨M, i2, g2, f1, f2, f4, f5, f3⟩ := hrows
  have hw : wrap64 ((1 : Int) + 1) = 2 := wrap_id (by omega) (by omega)
  have e2 : Ev (fun k => spec_l11Rows.f k b i h 1) (M, i2, g2) := by
    simp only [spec_l11Rows.f, hw, e1, Option.bind_some]
    exact f3
  by_cases c : (M.length : Int) = 0
  · refine ⟨[], i2, g2, by simp, by simp, ?_⟩
    simp only [spec_l14Row.f]
    refine Ev.bind e2 ?_
    simp only [if_pos c]
    exact Ev.now _
  · have hM : 0 < M.length := by omega
    have hr0 : rd_L3 M 0 = M[0] := by
      unfold rd_L3
      rw [List.getD_eq_getElem?_getD]
      show (M[0]?).getD [] = M[0]
      rw [List.getElem?_eq_getElem hM]; rfl
    have hro := rowOk_vals (f1 M[0] (List.getElem_mem hM))
    obtain ⟨m, i3, g3, e3, m0, m1, b1, b2⟩ := below_ok b i2 g2 33 (by omega) (by omega) hb f4 f5
    refine ⟨M[0].take m.toNat, i3, g3, ?_, fun v hv => hro.2 v (List.mem_of_mem_take hv), ?_⟩
    · rw [List.length_take]; omega
    · simp only [spec_l14Row.f]
      refine Ev.bind e2 ?_
      simp only [if_neg c, if_pos (show (0 : Int) < (M.length : Int) by omega), e3, Option.bind_some, if_pos m0, hr0, if_pos (show m ≤ (M[0].length : Int) by omega)]
      exact Ev.now _
theorem drawRow_ok (b : List Int) (hb : (b.length : Int) ≤ 1048576) : ∃ r, r.length ≤ 32 ∧ (∀ v ∈ r, inB v 0 255 = true) ∧ Ev (fun k => spec_DrawRow.f k b) r := by
  obtain ⟨h0, e0⟩ := new_ok b hb
  obtain ⟨r, i', h', f1, f2, f3⟩ := l14Row_ok b hb 0 h0 (by omega) (by omega)
  refine ⟨r, f1, f2, ?_⟩
  have hc : spec_l05Copy.f r = some r := by
    have c : r.length < 17592186044416 := by omega
    simp [spec_l05Copy.f, c]
  simp only [spec_DrawRow.f]
  refine Ev.bind e0 (Ev.bind f3 ?_)
  simp only [hc, Option.bind_some]
  exact Ev.now _
theorem FnRuns (l : List Int) (h : l.length ≤ maxLen ∧ ∀ y ∈ l, ((Lit.int .u8 y).wf = true)) : ∃ k, laws_FnRuns.f k l = some true := by
  refine Ev.rounds (g := fun k => laws_FnRuns.f k l) ?_
  simp only [laws_FnRuns.f, laws_big.f, Option.bind_some]
  by_cases c : (l.length : Int) > 1048576
  · simp only [decide_eq_true c, if_true]; exact Ev.now _
  · simp only [decide_eq_false c, Bool.false_eq_true, if_false]
    obtain ⟨r, hrl, hrv, hrE⟩ := drawRow_ok l (by omega)
    obtain ⟨P, hP, hPl, hPe⟩ := drawPlaces_ok l (by omega)
    obtain ⟨g1, g2, g3⟩ := runs_facts hrl hrv
    have hall := runs_all _ _ g1
    have hInv := runsOf_inv r
    have hl := hInv.1
    have hm : (runsOf r).length ≤ maxLen := by rw [maxLen_eq]; omega
    have hlen : runsLen (runsOf r) 0 = (r.length : Int) := by
      rw [runsLen_sum _ 0 hall (by omega) (by omega), ← expR_len _ hall, g2]; omega
    have hAt : ∀ a : Int, 0 ≤ a → a ≤ 1000 → runAtF (runsOf r) a = if a < (r.length : Int) then rd r a else -1 := fun a h0 h1 => by
      unfold runAtF
      rw [if_neg (by omega), if_pos g1, runAt_in _ a hall h0 h1, g2]
    refine Ev.bind hrE (Ev.bind hPe (Ev.bind (iRunsOf_ev r) (Ev.bind (iRunsOk_ev _ hm) ?_)))
    simp only [g1, if_true]
    refine Ev.bind (iRunsLength_ev _ hm) ?_
    simp only [hlen, if_true]
    have hRow := iRowOf_ev (runsOf r) (by omega)
    rw [g3] at hRow
    refine Ev.bind hRow (Ev.bind (sameInts_ev r (by rw [maxLen_eq]; omega)) ?_)
    refine Ev.up ?_
    simp only [laws_FnRuns.j0, Bool.not_true, Bool.false_eq_true, if_false]
    refine Ev.ite (fun z => ?_) (fun z => ?_)
    · refine Ev.bind (iRunAt_ev _ 0 hm) ?_
      rw [hAt 0 (by omega) (by omega), if_neg (by omega)]
      exact Ev.now _
    · have hP0 : (0 : Int) < (P.length : Int) := by omega
      have hp0 : 0 ≤ rd P 0 := by
        have e : rd P 0 = P[0]'(by omega) := by simp [rd, List.getD_eq_getElem?_getD, List.getElem?_eq_getElem (show 0 < P.length by omega)]
        rw [e]; exact (hP _ (List.getElem_mem _)).1
      have x0 := Int.tmod_nonneg (r.length : Int) hp0
      have x1 := Int.tmod_lt_of_pos (rd P 0) (show (0 : Int) < (r.length : Int) by omega)
      generalize Int.tmod (rd P 0) (r.length : Int) = x at x0 x1 ⊢
      simp only [if_pos hP0]
      refine Ev.bind (iRunAt_ev _ x hm) ?_
      rw [hAt x x0 (by omega), if_pos x1]
      simp only [if_pos x0, if_pos x1, if_true]
      refine Ev.bind (iRunAt_ev _ _ hm) ?_
      rw [hAt (r.length : Int) (by omega) (by omega), if_neg (Int.lt_irrefl _)]
      exact Ev.now _
end Go.Proofs.Ytcalgoembdmlkaa.Pure
