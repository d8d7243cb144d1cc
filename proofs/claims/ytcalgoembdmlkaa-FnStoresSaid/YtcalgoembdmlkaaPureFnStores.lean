/- The plain law of FnStores: over numbers and lists, what the printed functions answer, and that the law answers true. -/
import Derived.Test.YtcalgoembdmlkaaQFnStoresx5
import Derived.Test.YtcalgoembdmlkaaPlain
set_option linter.unusedSimpArgs false
set_option linter.unusedVariables false
namespace Go.Proofs.Ytcalgoembdmlkaa.Pure
open Go.RowKit Go.Proofs.Ytcalgoembdmlkaa.QFnStores Go.Proofs.YtcalgoembdmlkaaW.PrintWords Go.Proofs.YtcalgoembdmlkaaW.PrintLast Go.Proofs.Ytcalgoembdmlkaa.Plain

end Go.Proofs.Ytcalgoembdmlkaa.Pure
namespace Go.Proofs.Ytcalgoembdmlkaa.Pure
open Go.RowKit Go.Proofs.Ytcalgoembdmlkaa.QFnStores Go.Proofs.YtcalgoembdmlkaaW.PrintWords Go.Proofs.YtcalgoembdmlkaaW.PrintLast Go.Proofs.Ytcalgoembdmlkaa.Plain

end Go.Proofs.Ytcalgoembdmlkaa.Pure
namespace Go.Proofs.Ytcalgoembdmlkaa.Pure
open Go.RowKit Go.Proofs.Ytcalgoembdmlkaa.QFnStores Go.Proofs.YtcalgoembdmlkaaW.PrintWords Go.Proofs.YtcalgoembdmlkaaW.PrintLast Go.Proofs.Ytcalgoembdmlkaa.Plain

theorem within_eq (a b c : Int) : impl_within.f a b c = some (inB a b c) := by unfold impl_within.f inB; by_cases h : b ≤ a <;> simp [h]
def coord (a : Int) : Bool := inB a (-200) 200
def boxOk (a b c d : Int) : Bool := coord a && (coord b && (coord c && (coord d && (decide (a ≤ c) && decide (b ≤ d)))))
def rowOk (l : List Int) : Bool := decide ((l.length : Int) = 32) && l.all fun v => inB v 0 255
def rowsOk (l : List (List Int)) : Bool := decide ((l.length : Int) ≤ 32) && l.all rowOk
theorem rowOk_ev (l : List Int) : Ev (fun k => impl_rowOk.f k l) (rowOk l) := by
  simp only [impl_rowOk.f]
  refine Ev.andP (fun c => ?_)
  have hm : l.length ≤ maxLen := by rw [maxLen_eq]; omega
  clear c
  refine ev_loop0 l (F := fun k i => impl_rowOk.l0 k l l.length i) (fun _ r => r.all fun v => inB v 0 255) ?_ (fun pre x rest e h => ?_)
  · simp only [impl_rowOk.l0, end_lt, if_false]; exact Ev.now _
  · subst e
    simp only [impl_rowOk.l0, mid_lt, mid_nn, mid_wrap hm, if_true, rd, Int.toNat_natCast, mid_get, within_eq, Option.bind_some]
    exact Ev.andB (fun _ => h)
theorem iRowsOk_ev (l : List (List Int)) : Ev (fun k => impl_RowsOk.f k l) (rowsOk l) := by
  simp only [impl_RowsOk.f, rowsOk]
  refine Ev.ite (fun c => Ev.val (by simp; omega)) (fun c => ?_)
  have hm : l.length ≤ maxLen := by rw [maxLen_eq]; omega
  have hd : decide ((l.length : Int) ≤ 32) = true := by simp; omega
  rw [hd, Bool.true_and]
  clear c hd
  refine ev_loop0 l (F := fun k i => impl_RowsOk.l0 k l l.length i) (fun _ r => r.all rowOk) ?_ (fun pre x rest e h => ?_)
  · simp only [impl_RowsOk.l0, end_lt, if_false]; exact Ev.now _
  · subst e
    simp only [impl_RowsOk.l0, mid_lt, mid_nn, mid_wrap hm, if_true, rd_L2, Int.toNat_natCast, mid_get]
    exact Ev.bind (rowOk_ev x) (Ev.andB (fun _ => h))
theorem eqInts_ev (a b : List Int) (hm : a.length ≤ maxLen) : Ev (fun k => slices_Equal_int_int.f k a b) (decide (a = b)) := by
  simp only [slices_Equal_int_int.f]
  by_cases hl : (a.length : Int) = (b.length : Int)
  · simp only [if_pos hl]
    refine ev_loop2 a b (by omega) (F := fun k i => slices_Equal_int_int.l0 k a b a.length i) (fun x y => decide (x = y)) ?_ (fun pre x rest pre' y rest' e e' hp hr h => ?_)
    · simp only [slices_Equal_int_int.l0, end_lt, if_false]; exact Ev.now _
    · clear hl
      subst e e'
      simp only [slices_Equal_int_int.l0, mid_lt, mid_lt' hp, mid_nn, mid_wrap hm, if_true, rd, Int.toNat_natCast, mid_get, mid_get' hp]
      by_cases c : x = y
      · simp only [if_pos c]; simpa [c] using h
      · simp only [if_neg c]; exact Ev.val (by simp [c])
  · simp only [if_neg hl]; exact Ev.val (by simp; rintro rfl; exact hl rfl)
theorem iSameRows_ev (a b : List (List Int)) (hm : a.length ≤ maxLen) (hx : ∀ x ∈ a, x.length ≤ maxLen) : Ev (fun k => impl_SameRows.f k a b) (decide (a = b)) := by
  simp only [impl_SameRows.f, slices_EqualFunc_int_int_int_int.f]
  refine Ev.bind (a := decide (a = b)) ?_ (Ev.now _)
  by_cases hl : (a.length : Int) = (b.length : Int)
  · simp only [if_pos hl]
    refine ev_loop2 a b (by omega) (F := fun k i => slices_EqualFunc_int_int_int_int.l0 k b a a.length i) (fun x y => decide (x = y)) ?_ (fun pre x rest pre' y rest' e e' hp hr h => ?_)
    · simp only [slices_EqualFunc_int_int_int_int.l0, end_lt, if_false]; exact Ev.now _
    · have hxx := hx x (by rw [e]; simp)
      clear hl
      subst e e'
      simp only [slices_EqualFunc_int_int_int_int.l0, mid_lt, mid_lt' hp, mid_nn, mid_wrap hm, if_true, rd_L2, Int.toNat_natCast, mid_get, mid_get' hp, impl_SameRows_1.f]
      refine Ev.bind (Ev.bind (eqInts_ev x y hxx) (Ev.now _)) ?_
      by_cases c : x = y
      · simp only [c, decide_true, if_true]; simpa [c] using h
      · simp only [c, decide_false, Bool.false_eq_true, if_false]; exact Ev.val (by simp [c])
  · simp only [if_neg hl]; exact Ev.val (by simp; rintro rfl; exact hl rfl)
def runsLen : List S112 → Int → Int
  | [], a => a
  | x :: r, a => runsLen r (wrap64 (a + x.f1))
theorem iRunsLength_ev (l : List S112) (hm : l.length ≤ maxLen) : Ev (fun k => impl_RunsLength.f k l) (runsLen l 0) := by
  simp only [impl_RunsLength.f]
  refine ev_loop l (F := fun k s i => impl_RunsLength.l0 k s l l.length i) (fun _ _ _ => True) (fun _ r s => runsLen r s) ?_ ?_ _ trivial
  · intro s _; simp only [impl_RunsLength.l0, end_lt, if_false]; exact Ev.now _
  · rintro pre x rest s e _ ih
    subst e
    simp only [impl_RunsLength.l0, mid_lt, mid_nn, mid_wrap hm, if_true, rd_T112, Int.toNat_natCast, mid_get]
    exact ih _ trivial
def runsFrom : Option Int → List S112 → Bool
  | _, [] => true
  | p, x :: r => inB x.f0 0 255 && (inB x.f1 1 32 && (!(p == some x.f0) && runsFrom (some x.f0) r))
theorem last_get {α : Type} (pre : List α) (y x : α) (rest : List α) (z : α) (hm : ((pre ++ [y]) ++ x :: rest).length ≤ maxLen) :
    wrap64 (((pre ++ [y]).length : Int) - 1) = (pre.length : Int) ∧ ((pre ++ [y]) ++ x :: rest).getD pre.length z = y := by
  rw [maxLen_eq] at hm
  simp at hm
  refine ⟨by rw [wrap_id (by simp <;> omega) (by simp <;> omega)]; simp, by simp [List.getD_eq_getElem?_getD]⟩
theorem iRunsOk_ev (l : List S112) (hm : l.length ≤ maxLen) : Ev (fun k => impl_RunsOk.f k l) (runsFrom none l) := by
  simp only [impl_RunsOk.f]
  refine ev_loop0 l (F := fun k i => impl_RunsOk.l0 k l l l.length i) (fun p r => runsFrom (p.getLast?.map (·.f0)) r) ?_ (fun pre x rest e h => ?_)
  · simp only [impl_RunsOk.l0, end_lt, if_false]; exact Ev.now _
  · subst e
    rw [List.getLast?_append, List.getLast?_singleton] at h
    simp only [impl_RunsOk.l0, mid_lt, mid_nn, mid_wrap hm, if_true, rd_T112, Int.toNat_natCast, mid_get, within_eq, Option.bind_some, runsFrom]
    refine Ev.andB (fun _ => Ev.andB (fun _ => ?_))
    rcases List.eq_nil_or_concat pre with rfl | ⟨q, y, rfl⟩
    · simp only [List.length_nil, Int.ofNat_zero, gt_iff_lt, Int.lt_irrefl, if_false] at h ⊢
      simpa using h
    · obtain ⟨h1, h2⟩ := last_get q y x rest z112 (by simpa using hm)
      rw [List.concat_eq_append] at *
      have c1 : ((q ++ [y]).length : Int) > 0 := by simp <;> omega
      have c2 : (q.length : Int) < (((q ++ [y]) ++ x :: rest).length : Int) := by simp; omega
      simp only [h1, c1, c2, mid_nn, if_true, Int.toNat_natCast, h2, List.getLast?_append, List.getLast?_singleton]
      refine Ev.ite (fun c => Ev.val (by simp [c])) (fun c => ?_)
      have hb : (y.f0 == x.f0) = false := beq_eq_false_iff_ne.2 c
      simpa [hb] using h
def storeSize : List S40 → Int → Int
  | [], a => a
  | x :: r, a => storeSize r (wrap64 (a + wrap64 (1 + (x.f1.length : Int))))
theorem wrap_assoc (a b : Int) : wrap64 (wrap64 (a + 1) + b) = wrap64 (a + wrap64 (1 + b)) := by unfold wrap64; omega
theorem iStoreSize_ev (l : List S40) (hm : l.length ≤ maxLen) : Ev (fun k => impl_StoreSize.f k l) (storeSize l 0) := by
  simp only [impl_StoreSize.f]
  refine ev_loop l (F := fun k s i => impl_StoreSize.l0 k s l l.length i) (fun _ _ _ => True) (fun _ r s => storeSize r s) ?_ ?_ _ trivial
  · intro s _; simp only [impl_StoreSize.l0, end_lt, if_false]; exact Ev.now _
  · rintro pre x rest s e _ ih
    subst e
    simp only [impl_StoreSize.l0, mid_lt, mid_nn, mid_wrap hm, if_true, rd_T40, Int.toNat_natCast, mid_get]
    exact ih _ trivial
def stepR (s : List S112) (v : Int) : List S112 :=
  match s.getLast? with
  | some r => if r.f0 = v then s.dropLast ++ [⟨r.f0, r.f1 + 1⟩] else s ++ [⟨v, 1⟩]
  | none => [⟨v, 1⟩]
def runsGo : List Int → List S112 → List S112
  | [], s => s
  | v :: r, s => if inB v 0 255 = true then runsGo r (stepR s v) else []
def runsOf (l : List Int) : List S112 := if (l.length : Int) > 32 then [] else runsGo l []
/-- What holds of the runs so far: no more than there were values, each at least one. -/
def RunsInv (n : Nat) (s : List S112) : Prop := s.length ≤ n ∧ ∀ r ∈ s, 1 ≤ r.f1 ∧ r.f1 ≤ n
theorem stepR_inv {n : Nat} {s : List S112} (v : Int) (h : RunsInv n s) : RunsInv (n + 1) (stepR s v) := by
  obtain ⟨h1, h2⟩ := h
  unfold stepR
  cases e : s.getLast? with
  | none => exact ⟨by simp, by simp; omega⟩
  | some r =>
    have hr : r ∈ s := List.mem_of_getLast? e
    have hr2 := h2 r hr
    have hne : s ≠ [] := by rintro rfl; simp at e
    have hpos : 0 < s.length := List.length_pos_iff.2 hne
    simp only
    split
    · refine ⟨by simp; omega, fun q hq => ?_⟩
      rcases List.mem_append.1 hq with hq | hq
      · have := h2 q ((List.dropLast_sublist s).subset hq); omega
      · rw [List.mem_singleton] at hq; subst hq; simp; omega
    · refine ⟨by simp; omega, fun q hq => ?_⟩
      rcases List.mem_append.1 hq with hq | hq
      · have := h2 q hq; omega
      · rw [List.mem_singleton] at hq; subst hq; simp; omega
theorem runsGo_inv : ∀ (l : List Int) (n : Nat) (s : List S112), RunsInv n s → RunsInv (n + l.length) (runsGo l s)
  | [], n, s, h => by simpa [runsGo] using h
  | v :: r, n, s, h => by
    unfold runsGo
    split
    · have := runsGo_inv r (n + 1) _ (stepR_inv v h)
      rw [List.length_cons]
      rwa [show n + (r.length + 1) = n + 1 + r.length by omega]
    · exact ⟨by simp, by simp⟩
theorem runsOf_inv (l : List Int) : RunsInv 32 (runsOf l) := by
  unfold runsOf
  split
  · exact ⟨by simp, by simp⟩
  · have h := runsGo_inv l 0 [] ⟨by simp, by simp⟩
    refine ⟨by have := h.1; omega, fun r hr => by have := h.2 r hr; omega⟩
/-- One value: what both programs do, in one word. -/
theorem step_round {β : Type} {n : Nat} (s : List S112) (hs : RunsInv n s) (hn : n ≤ 32) (v : Int) (G : Nat → List S112 → Option β) (r : β) (h : Ev (fun k => G k (stepR s v)) r) :
    Ev (fun k => if (s.length : Int) > 0 then (if 0 ≤ (wrap64 ((s.length : Int) - 1)) then (if (wrap64 ((s.length : Int) - 1)) < (s.length : Int) then (if ((rd_T112 s (wrap64 ((s.length : Int) - 1))).f0) = v then (G k (s.set ((wrap64 ((s.length : Int) - 1)) : Int).toNat (⟨(rd_T112 s (wrap64 ((s.length : Int) - 1))).f0, wrap64 (((rd_T112 s (wrap64 ((s.length : Int) - 1))).f1) + 1)⟩ : S112))) else (if s.length < 8796093022208 then (G k (s ++ [(⟨v, 1⟩ : S112)])) else (none))) else (none)) else (none)) else (if s.length < 8796093022208 then (G k (s ++ [(⟨v, 1⟩ : S112)])) else (none))) r := by
  have hsl := hs.1
  have c4 : s.length < 8796093022208 := by omega
  rcases List.eq_nil_or_concat s with rfl | ⟨q, y, rfl⟩
  · have c0 : ¬ (([] : List S112).length : Int) > 0 := by simp
    simp only [if_neg c0, if_pos c4]
    exact h
  · rw [List.concat_eq_append] at *
    have c0 : ((q ++ [y]).length : Int) > 0 := by simp <;> omega
    have e1 : wrap64 (((q ++ [y]).length : Int) - 1) = (q.length : Int) := by rw [wrap_id (by simp <;> omega) (by omega)]; simp
    have c2 : (q.length : Int) < ((q ++ [y]).length : Int) := by simp <;> omega
    have e2 : rd_T112 (q ++ [y]) (q.length : Int) = y := by simp [rd_T112, List.getD_eq_getElem?_getD]
    have hy := hs.2 y (by simp)
    have e3 : wrap64 (y.f1 + 1) = y.f1 + 1 := wrap_id (by omega) (by omega)
    have e4 : (q ++ [y]).set q.length (⟨y.f0, y.f1 + 1⟩ : S112) = q ++ [⟨y.f0, y.f1 + 1⟩] := by rw [List.set_append_right _ _ (Nat.le_refl _)]; simp
    simp only [if_pos c0, e1, mid_nn, if_true, if_pos c2, e2, e3, Int.toNat_natCast, e4, if_pos c4]
    unfold stepR at h
    simp only [List.getLast?_append, List.getLast?_singleton, Option.some_or, List.dropLast_concat] at h
    by_cases c : y.f0 = v
    · simp only [if_pos c] at h ⊢; exact h
    · simp only [if_neg c] at h ⊢; exact h
theorem iRunsOf_ev (l : List Int) : Ev (fun k => impl_RunsOf.f k l) (runsOf l) := by
  simp only [impl_RunsOf.f]
  unfold runsOf
  by_cases c : (l.length : Int) > 32
  · simp only [if_pos c]; exact Ev.now _
  · simp only [if_neg c]
    have hm : l.length ≤ maxLen := by rw [maxLen_eq]; omega
    refine ev_loop l (F := fun k s i => impl_RunsOf.l0 k s l l.length i) (fun p _ s => RunsInv p.length s) (fun _ r s => runsGo r s) ?_ ?_ [] ⟨by simp, by simp⟩
    · intro s _; simp only [impl_RunsOf.l0, end_lt, if_false]; exact Ev.now _
    · rintro pre x rest s e hI ih
      have hn : pre.length ≤ 32 := by rw [e] at c; simp at c; omega
      clear c
      subst e
      simp only [impl_RunsOf.l0, mid_lt, mid_nn, mid_wrap hm, if_true, rd, Int.toNat_natCast, mid_get, within_eq, Option.bind_some, runsGo]
      by_cases cx : inB x 0 255 = true
      · simp only [if_pos cx]
        exact step_round s hI hn x (fun k s' => impl_RunsOf.l0 k s' (pre ++ x :: rest) ((pre ++ x :: rest).length : Int) ((pre ++ [x]).length : Int)) _ (ih _ (by rw [List.length_append]; exact stepR_inv x hI))
      · simp only [if_neg cx]; exact Ev.now _
end Go.Proofs.Ytcalgoembdmlkaa.Pure
namespace Go.Proofs.Ytcalgoembdmlkaa.Pure
open Go.RowKit Go.Proofs.Ytcalgoembdmlkaa.QFnStores Go.Proofs.YtcalgoembdmlkaaW.PrintWords Go.Proofs.YtcalgoembdmlkaaW.PrintLast Go.Proofs.Ytcalgoembdmlkaa.Plain

theorem runs_all : ∀ (l : List S112) (p : Option Int), runsFrom p l = true → ∀ x ∈ l, 1 ≤ x.f1 ∧ x.f1 ≤ 32
  | [], _, _, _, h => by simp at h
  | y :: r, p, h, x, hx => by
    simp only [runsFrom, Bool.and_eq_true, inB_iff] at h
    rcases List.mem_cons.1 hx with rfl | hx
    · exact h.2.1
    · exact runs_all r _ h.2.2.2 x hx
/-- A value put n times. -/
theorem ev_rep {β : Type} {F : Nat → List Int → Int → Option β} (v : Int) (n : Int) {r : β} (s0 : List Int) (hn : 0 ≤ n) (hb : (s0.length : Int) + n ≤ 32)
    (hnil : Ev (fun k => F (k + 1) (s0 ++ List.replicate n.toNat v) n) r)
    (hcons : ∀ s i, 0 ≤ i → i < n → s.length ≤ 32 → Ev (fun k => F k (s ++ [v]) (i + 1)) r → Ev (fun k => F (k + 1) s i) r) : Ev (fun k => F k s0 0) r := by
  have main : ∀ (m : Nat) (s : List Int) (i : Int), 0 ≤ i → i + m = n → s.length + m ≤ 32 → s ++ List.replicate m v = s0 ++ List.replicate n.toNat v → Ev (fun k => F k s i) r := by
    intro m
    induction m with
    | zero =>
      intro s i h0 h1 h2 h3
      have e : i = n := by omega
      have e2 : s = s0 ++ List.replicate n.toNat v := by simpa using h3
      subst e e2
      exact Ev.up hnil
    | succ m ih =>
      intro s i h0 h1 h2 h3
      refine Ev.up (hcons s i h0 (by omega) (by omega) (ih _ _ (by omega) (by omega) (by simp; omega) ?_))
      rw [← h3, List.append_assoc]
      rfl
  exact main n.toNat s0 0 (by omega) (by omega) (by omega) rfl
def rowGo : List S112 → List Int → List Int
  | [], s => s
  | x :: r, s => if (s.length : Int) + x.f1 > 32 then [] else rowGo r (s ++ List.replicate x.f1.toNat x.f0)
def rowOf (l : List S112) : List Int := if runsFrom none l = true then rowGo l [] else []
def sumR : List S112 → Int
  | [] => 0
  | x :: r => x.f1 + sumR r
theorem sumR_nn : ∀ l : List S112, (∀ x ∈ l, 1 ≤ x.f1 ∧ x.f1 ≤ 32) → 0 ≤ sumR l ∧ sumR l ≤ 32 * l.length
  | [], _ => by simp [sumR]
  | x :: r, h => by
    have h1 := h x (by simp)
    have h2 := sumR_nn r (fun y hy => h y (by simp [hy]))
    simp only [sumR, List.length_cons]
    omega
theorem runsLen_sum : ∀ (l : List S112) (a : Int), (∀ x ∈ l, 1 ≤ x.f1 ∧ x.f1 ≤ 32) → 0 ≤ a → a + 32 * l.length ≤ 4611686018427387904 → runsLen l a = a + sumR l
  | [], a, _, _, _ => by simp [runsLen, sumR]
  | x :: r, a, h, h0, h1 => by
    have hx := h x (by simp)
    rw [List.length_cons] at h1
    simp only [runsLen, sumR]
    rw [wrap_id (by omega) (by omega), runsLen_sum r _ (fun y hy => h y (by simp [hy])) (by omega) (by omega)]
    omega
theorem rowGo_big : ∀ (l : List S112) (s : List Int), (∀ x ∈ l, 1 ≤ x.f1 ∧ x.f1 ≤ 32) → s.length ≤ 32 → (s.length : Int) + sumR l > 32 → rowGo l s = []
  | [], s, _, h, c => by simp [sumR] at c; omega
  | x :: r, s, h, hs, c => by
    have hx := h x (by simp)
    simp only [sumR] at c
    unfold rowGo
    split
    · rfl
    · refine rowGo_big r _ (fun y hy => h y (by simp [hy])) (by simp; omega) (by simp; omega)
theorem rowGo_len : ∀ (l : List S112) (s : List Int), (∀ x ∈ l, 1 ≤ x.f1 ∧ x.f1 ≤ 32) → s.length ≤ 32 → (rowGo l s).length ≤ 32
  | [], s, _, h => by simpa [rowGo] using h
  | x :: r, s, h, hs => by
    have hx := h x (by simp)
    unfold rowGo
    split
    · simp
    · exact rowGo_len r _ (fun y hy => h y (by simp [hy])) (by simp; omega)
theorem rowOf_len (l : List S112) : (rowOf l).length ≤ 32 := by
  unfold rowOf
  split
  case isTrue c => exact rowGo_len l [] (runs_all l none c) (by simp)
  case isFalse => simp
theorem iRowOf_loop (l : List S112) (hall : ∀ x ∈ l, 1 ≤ x.f1 ∧ x.f1 ≤ 32) (hm : l.length ≤ maxLen) (ht : sumR l ≤ 32) : Ev (fun k => impl_RowOf.l0 k [] l l.length 0) (rowGo l []) := by
  refine ev_loop l (F := fun k s i => impl_RowOf.l0 k s l l.length i) (fun _ r s => (s.length : Int) + sumR r ≤ 32) (fun _ r s => rowGo r s) ?_ ?_ [] (by simpa using ht)
  · intro s _; simp only [impl_RowOf.l0, end_lt, if_false]; exact Ev.now _
  · rintro pre x rest s e hs ih
    have hx := hall x (by rw [e]; simp)
    have hr := sumR_nn rest (fun y hy => hall y (by rw [e]; simp [hy]))
    simp only [sumR] at hs
    subst e
    simp only [impl_RowOf.l0, mid_lt, mid_nn, mid_wrap hm, if_true, rd_T112, Int.toNat_natCast, mid_get, rowGo]
    simp only [if_neg (show ¬ (s.length : Int) + x.f1 > 32 by omega)]
    refine ev_rep (F := fun k s j => impl_RowOf.l1 k s j (pre ++ x :: rest) ((pre ++ x :: rest).length : Int) pre.length x.f0 x.f1) x.f0 x.f1 s (by omega) (by omega) ?_ ?_
    · simp only [impl_RowOf.l1, Int.lt_irrefl, if_false, mid_wrap hm]
      exact ih _ (by simp; omega)
    · intro s' i h0 h1 hs' h
      have c4 : s'.length < 17592186044416 := by omega
      have hw2 : wrap64 (i + 1) = i + 1 := wrap_id (by omega) (by omega)
      simp only [impl_RowOf.l1, if_pos h1, if_pos c4, hw2]; exact h
theorem iRowOf_ev (l : List S112) (hl : (l.length : Int) ≤ 1048576) : Ev (fun k => impl_RowOf.f k l) (rowOf l) := by
  have hm : l.length ≤ maxLen := by rw [maxLen_eq]; omega
  simp only [impl_RowOf.f]
  unfold rowOf
  refine Ev.bind (iRunsOk_ev l hm) ?_
  by_cases c : runsFrom none l = true
  · have hall := runs_all l none c
    simp only [if_pos c]
    refine Ev.bind (iRunsLength_ev l hm) (Ev.up ?_)
    rw [runsLen_sum l 0 hall (by omega) (by omega)]
    have hr := sumR_nn l hall
    by_cases ct : sumR l > 32
    · have ct' : (0 : Int) + sumR l > 32 := by omega
      simp only [impl_RowOf.j0, decide_eq_true ct', if_true]
      exact Ev.val (rowGo_big l [] hall (by simp) (by simpa using ct)).symm
    · have ct' : ¬ (0 : Int) + sumR l > 32 := by omega
      simp only [impl_RowOf.j0, decide_eq_false ct', Bool.false_eq_true, if_false]
      exact iRowOf_loop l hall hm (by omega)
  · simp only [if_neg c]
    exact Ev.up (by simp only [impl_RowOf.j0, if_true]; exact Ev.now _)
def flatR : List S112 → List Int
  | [] => []
  | x :: r => x.f0 :: x.f1 :: flatR r
theorem flatR_len : ∀ l : List S112, (flatR l).length = 2 * l.length
  | [] => rfl
  | x :: r => by simp [flatR, flatR_len r]; omega
def packRow (l : List Int) : Bool × List Int := if rowOk l = true then (if 2 * ((runsOf l).length : Int) ≥ 32 then (true, l) else (false, flatR (runsOf l))) else (false, [])
theorem rowOk_len {l : List Int} (h : rowOk l = true) : l.length = 32 := by unfold rowOk at h; simp at h; omega
theorem packRow_len (l : List Int) : (packRow l).2.length ≤ 32 := by
  unfold packRow
  split
  case isTrue c =>
    split
    · simp [rowOk_len c]
    · rw [flatR_len]; omega
  case isFalse => simp
theorem clone_eq (l : List Int) (h : l.length ≤ 64) : slices_Clone_int_int.f l = some l := by
  have c : l.length < 17592186044416 := by omega
  simp [slices_Clone_int_int.f, c]
theorem iPackRow_ev (l : List Int) : Ev (fun k => impl_PackRow.f k l) (packRow l) := by
  simp only [impl_PackRow.f]
  unfold packRow
  refine Ev.bind (rowOk_ev l) (Ev.ite (fun c => ?_) (fun c => ?_))
  · rw [if_pos c]
    refine Ev.bind (iRunsOf_ev l) ?_
    have hR := (runsOf_inv l).1
    have hl := rowOk_len c
    generalize runsOf l = q at hR ⊢
    have hm : q.length ≤ maxLen := by rw [maxLen_eq]; omega
    refine ev_loop q (F := fun k s i => impl_PackRow.l0 k l s q q.length i) (fun p _ s => s.length = 2 * p.length) (fun _ r s => if 2 * (q.length : Int) ≥ 32 then (true, l) else (false, s ++ flatR r)) ?_ ?_ [] rfl
    · intro s hs
      simp only [impl_PackRow.l0, end_lt, if_false, clone_eq l (by omega), Option.bind_some]
      by_cases cn : (s.length : Int) < 32
      · simp only [if_pos cn]; rw [if_neg (by omega)]; exact Ev.val (by simp [flatR])
      · simp only [if_neg cn]; rw [if_pos (by omega)]; exact Ev.now _
    · rintro pre x rest s e hs ih
      have hql : (q.length : Int) = (pre ++ x :: rest).length := by rw [e]
      have hq2 : q.length ≤ 32 := hR
      subst e
      have hp : pre.length < 32 := by simp at hR; omega
      have c4 : s.length + [x.f0, x.f1].length < 17592186044416 := by simp; omega
      simp only [impl_PackRow.l0, mid_lt, mid_nn, mid_wrap hm, if_true, rd_T112, Int.toNat_natCast, mid_get, Option.bind_some, if_pos c4]
      have := ih (s ++ [x.f0, x.f1]) (by simp; omega)
      simpa [flatR] using this
  · rw [if_neg c]; exact Ev.now _
end Go.Proofs.Ytcalgoembdmlkaa.Pure
namespace Go.Proofs.Ytcalgoembdmlkaa.Pure
open Go.RowKit Go.Proofs.Ytcalgoembdmlkaa.QFnStores Go.Proofs.YtcalgoembdmlkaaW.PrintWords Go.Proofs.YtcalgoembdmlkaaW.PrintLast Go.Proofs.Ytcalgoembdmlkaa.Plain

abbrev BoxT := Int × Int × Int × Int
theorem mx_self (a : Int) : mx a a = a := by unfold mx; split <;> rfl
theorem mn_self (a : Int) : mn a a = a := by unfold mn; split <;> rfl
theorem mx_comm (a b : Int) : mx a b = mx b a := by unfold mx; omega
theorem mn_comm (a b : Int) : mn a b = mn b a := by unfold mn; omega
def meet (p q : BoxT) : BoxT := if boxOk p.1 p.2.1 p.2.2.1 p.2.2.2 = true ∧ boxOk q.1 q.2.1 q.2.2.1 q.2.2.2 = true ∧ mx p.1 q.1 < mn p.2.2.1 q.2.2.1 ∧ mx p.2.1 q.2.1 < mn p.2.2.2 q.2.2.2 then (mx p.1 q.1, mx p.2.1 q.2.1, mn p.2.2.1 q.2.2.1, mn p.2.2.2 q.2.2.2) else (0, 0, 0, 0)
/-- A loop that counts from lo to hi. -/
theorem ev_range {σ β : Type} {F : Nat → σ → Int → Option β} (lo hi : Int) (hlh : lo ≤ hi) (Inv : Int → σ → Prop) (r : β)
    (hnil : ∀ s, Inv hi s → Ev (fun k => F (k + 1) s hi) r)
    (hcons : ∀ i s, lo ≤ i → i < hi → Inv i s → (∀ s', Inv (i + 1) s' → Ev (fun k => F k s' (i + 1)) r) → Ev (fun k => F (k + 1) s i) r) :
    ∀ s, Inv lo s → Ev (fun k => F k s lo) r := by
  have main : ∀ (n : Nat) (i : Int) (s : σ), lo ≤ i → i + n = hi → Inv i s → Ev (fun k => F k s i) r := by
    intro n
    induction n with
    | zero =>
      intro i s h0 h1 hI
      have e : i = hi := by omega
      subst e
      exact Ev.up (hnil s hI)
    | succ n ih =>
      intro i s h0 h1 hI
      exact Ev.up (hcons i s h0 (by omega) hI (fun s' hI' => ih (i + 1) s' (by omega) (by omega) hI'))
  intro s hI
  exact main (hi - lo).toNat lo s (by omega) (by omega) hI
def inPage (p : BoxT) : Prop := 0 ≤ p.1 ∧ p.1 ≤ p.2.2.1 ∧ p.2.2.1 ≤ 32 ∧ 0 ≤ p.2.1 ∧ p.2.1 ≤ p.2.2.2 ∧ p.2.2.2 ≤ 32
theorem meet_page (p : BoxT) : inPage (meet p (0, 0, 32, 32)) := by
  unfold meet
  by_cases c : boxOk p.1 p.2.1 p.2.2.1 p.2.2.2 = true ∧ boxOk 0 0 32 32 = true ∧ mx p.1 0 < mn p.2.2.1 32 ∧ mx p.2.1 0 < mn p.2.2.2 32
  · rw [if_pos c]
    obtain ⟨_, _, h3, h4⟩ := c
    unfold inPage
    simp only
    unfold mx mn at *
    omega
  · rw [if_neg c]; simp [inPage]
def cntD (p : BoxT) : Int := if boxOk p.1 p.2.1 p.2.2.1 p.2.2.2 = true then wrap64 (wrap64 (p.2.2.1 - p.1) * wrap64 (p.2.2.2 - p.2.1)) else 0
end Go.Proofs.Ytcalgoembdmlkaa.Pure
namespace Go.Proofs.Ytcalgoembdmlkaa.Pure
open Go.RowKit Go.Proofs.Ytcalgoembdmlkaa.QFnStores Go.Proofs.YtcalgoembdmlkaaW.PrintWords Go.Proofs.YtcalgoembdmlkaaW.PrintLast Go.Proofs.Ytcalgoembdmlkaa.Plain

section
variable {α : Type} (mk : Int → α → α) (ln : α → Int)
def mkAll : Int → List α → List α
  | _, [] => []
  | a, x :: r => mk a x :: mkAll (a + ln x) r
def lnAll : List α → Int
  | [] => 0
  | x :: r => ln x + lnAll r
theorem mkAll_length : ∀ (a : Int) (l : List α), (mkAll mk ln a l).length = l.length
  | _, [] => rfl
  | a, x :: r => by simp [mkAll, mkAll_length (a + ln x) r]
theorem lnAll_nn : ∀ l : List α, (∀ x ∈ l, 0 ≤ ln x) → 0 ≤ lnAll ln l
  | [], _ => Int.le_refl _
  | x :: r, h => by
    have h1 := h x (by simp)
    have h2 := lnAll_nn r (fun y hy => h y (by simp [hy]))
    unfold lnAll; omega
theorem lnAll_le : ∀ l : List α, (∀ x ∈ l, ln x ≤ 4194304) → lnAll ln l ≤ 4194304 * l.length
  | [], _ => by simp [lnAll]
  | x :: r, h => by
    have h1 := h x (by simp)
    have h2 := lnAll_le r (fun y hy => h y (by simp [hy]))
    unfold lnAll; rw [List.length_cons]; omega
theorem ev_mark (xs : List α) {F : Nat → List α → Int → Int → Option (Int × List α)} (a : Int) (hn : ∀ x ∈ xs, 0 ≤ ln x)
    (hnil : ∀ s b, s.length = xs.length → Ev (fun k => F (k + 1) s b (xs.length : Int)) (b, s))
    (hcons : ∀ (done : List α) x rest b, done.length + (rest.length + 1) = xs.length → x ∈ xs → a ≤ b → b + ln x ≤ a + lnAll ln xs → ∀ r, Ev (fun k => F k (done ++ mk b x :: rest) (b + ln x) ((done.length : Int) + 1)) r → Ev (fun k => F (k + 1) (done ++ x :: rest) b (done.length : Int)) r) :
    Ev (fun k => F k xs a 0) (a + lnAll ln xs, mkAll mk ln a xs) := by
  have main : ∀ (rest done : List α) (b : Int), done.length + rest.length = xs.length → (∀ x ∈ rest, x ∈ xs) → a ≤ b → b + lnAll ln rest = a + lnAll ln xs → Ev (fun k => F k (done ++ rest) b (done.length : Int)) (a + lnAll ln xs, done ++ mkAll mk ln b rest) := by
    intro rest
    induction rest with
    | nil =>
      intro done b hl _ _ hb
      have h := hnil (done ++ []) b (by simpa using hl)
      have e : (done.length : Int) = xs.length := by simp at hl; omega
      have e2 : b = a + lnAll ln xs := by simpa [lnAll] using hb
      rw [e, ← e2]
      simpa [mkAll] using Ev.up (g := fun k => F k (done ++ []) b (xs.length : Int)) h
    | cons x rest ih =>
      intro done b hl hm hab hb
      have hx := hm x (by simp)
      have h0 := hn x hx
      have h1 := lnAll_nn ln rest (fun y hy => hn y (hm y (by simp [hy])))
      have hb' : ln x + lnAll ln rest + b = a + lnAll ln xs := by simp only [lnAll] at hb; omega
      refine Ev.up (hcons done x rest b (by simpa using hl) hx hab (by omega) _ ?_)
      have h := ih (done ++ [mk b x]) (b + ln x) (by simp at hl ⊢; omega) (fun y hy => hm y (by simp [hy])) (by omega) (by omega)
      have e : ((done ++ [mk b x]).length : Int) = (done.length : Int) + 1 := by simp
      rw [e] at h
      simpa [mkAll] using h
  simpa using main xs [] a (by simp) (fun _ h => h) (Int.le_refl _) rfl
theorem ev_held (xs : List α) {F : Nat → Int → Int → Option Int} (a : Int) (hn : ∀ x ∈ xs, 0 ≤ ln x)
    (hnil : ∀ b, Ev (fun k => F (k + 1) b ((mkAll mk ln a xs).length : Int)) b)
    (hcons : ∀ pre x rest b, mkAll mk ln a xs = pre ++ mk b x :: rest → x ∈ xs → a ≤ b → b + ln x ≤ a + lnAll ln xs → ∀ r, Ev (fun k => F k (b + ln x) ((pre.length : Int) + 1)) r → Ev (fun k => F (k + 1) b (pre.length : Int)) r) :
    Ev (fun k => F k a 0) (a + lnAll ln xs) := by
  have main : ∀ (rest : List α) (pre : List α) (b : Int), mkAll mk ln a xs = pre ++ mkAll mk ln b rest → (∀ x ∈ rest, x ∈ xs) → a ≤ b → b + lnAll ln rest = a + lnAll ln xs → Ev (fun k => F k b (pre.length : Int)) (a + lnAll ln xs) := by
    intro rest
    induction rest with
    | nil =>
      intro pre b he _ _ hb
      have e : mkAll mk ln a xs = pre := by simpa [mkAll] using he
      have e2 : b = a + lnAll ln xs := by simpa [lnAll] using hb
      have h := hnil b
      rw [e] at h
      rw [← e2]
      exact Ev.up h
    | cons x rest ih =>
      intro pre b he hm hab hb
      have hx := hm x (by simp)
      have h0 := hn x hx
      have h1 := lnAll_nn ln rest (fun y hy => hn y (hm y (by simp [hy])))
      have hb' : ln x + lnAll ln rest + b = a + lnAll ln xs := by simp only [lnAll] at hb; omega
      refine Ev.up (hcons pre x (mkAll mk ln (b + ln x) rest) b he hx hab (by omega) _ ?_)
      have h := ih (pre ++ [mk b x]) (b + ln x) (by rw [he]; simp [mkAll]) (fun y hy => hm y (by simp [hy])) (by omega) (by omega)
      have e : ((pre ++ [mk b x]).length : Int) = (pre.length : Int) + 1 := by simp
      rw [e] at h
      exact h
  simpa using main xs [] a rfl (fun _ h => h) (Int.le_refl _) rfl
end
theorem set_mid {α : Type} (done rest : List α) (x y : α) : (done ++ x :: rest).set done.length y = done ++ y :: rest := by
  rw [List.set_append_right _ _ (Nat.le_refl _), Nat.sub_self]; rfl
theorem mid_lt2 {α : Type} (done rest : List α) (x : α) : ((done.length : Int) < ((done ++ x :: rest).length : Int)) = True := mid_lt
theorem mid_w2 {n : Nat} (h : n + 1 ≤ maxLen) : wrap64 ((n : Int) + 1) = (n : Int) + 1 := by rw [maxLen_eq] at h; exact wrap_id (by omega) (by omega)
end Go.Proofs.Ytcalgoembdmlkaa.Pure
namespace Go.Proofs.Ytcalgoembdmlkaa.Pure
open Go.RowKit Go.Proofs.Ytcalgoembdmlkaa.QFnStores Go.Proofs.YtcalgoembdmlkaaW.PrintWords Go.Proofs.YtcalgoembdmlkaaW.PrintLast Go.Proofs.Ytcalgoembdmlkaa.Plain

def pk (l : List Int) : S40 := ⟨(packRow l).1, (packRow l).2⟩
def packRows (l : List (List Int)) : List S40 := if rowsOk l = true then l.map pk else []
theorem rowsOk_len {l : List (List Int)} (h : rowsOk l = true) : l.length ≤ 32 := by unfold rowsOk at h; simp at h; omega
theorem packRows_len (l : List (List Int)) : (packRows l).length ≤ 32 := by
  unfold packRows
  split
  · rename_i h; rw [List.length_map]; exact rowsOk_len h
  · simp
theorem packRows_row {l : List (List Int)} {x : S40} (h : x ∈ packRows l) : x.f1.length ≤ 32 := by
  unfold packRows at h
  split at h
  · obtain ⟨y, _, rfl⟩ := List.mem_map.1 h; exact packRow_len y
  · simp at h
theorem iPackRows_ev (l : List (List Int)) (hm : l.length ≤ maxLen) : Ev (fun k => impl_PackRows.f k l) (packRows l) := by
  simp only [impl_PackRows.f]
  unfold packRows
  refine Ev.bind (iRowsOk_ev l) (Ev.ite (fun c => ?_) (fun c => ?_))
  · rw [if_pos c]
    have h32 := rowsOk_len c
    have h := ev_loop l (F := fun k (s : List S40) i => impl_PackRows.l0 k s l l.length i) (fun pre _ s => s = pre.map pk) (fun _ _ _ => l.map pk) ?_ ?_ [] rfl
    · exact h
    · rintro s rfl; simp only [impl_PackRows.l0, end_lt, if_false]; exact Ev.now _
    · rintro pre x rest s e rfl ih
      have hs : (pre.map pk).length < 4398046511104 := by rw [e] at h32; simp at h32 ⊢; omega
      have ih' := ih ((pre ++ [x]).map pk) rfl
      clear c ih
      have e' := e
      rw [e'] at hm
      have hget : (rd_L2 l (pre.length : Int)) = x := by rw [e]; exact mid_get _
      have hlt : ((pre.length : Int) < (l.length : Int)) := by rw [e]; simp; omega
      have hw := mid_wrap (pre := pre) (rest := rest) (x := x) hm
      simp only [impl_PackRows.l0, if_pos hlt, mid_nn, if_true, hget, hw, if_pos hs]
      refine Ev.bind (iPackRow_ev x) ?_
      simpa [pk] using ih'
  · rw [if_neg c]; exact Ev.now _
end Go.Proofs.Ytcalgoembdmlkaa.Pure
namespace Go.Proofs.Ytcalgoembdmlkaa.Pure
open Go.RowKit Go.Proofs.Ytcalgoembdmlkaa.QFnStores Go.Proofs.YtcalgoembdmlkaaW.PrintWords Go.Proofs.YtcalgoembdmlkaaW.PrintLast Go.Proofs.Ytcalgoembdmlkaa.Plain

def prs : List Int → List S112
  | a :: b :: r => ⟨a, b⟩ :: prs r
  | _ => []
theorem prs_len : ∀ l : List Int, 2 * (prs l).length ≤ l.length
  | [] => by simp [prs]
  | [_] => by simp [prs]
  | a :: b :: r => by have := prs_len r; simp only [prs, List.length_cons]; omega
def unpR (row : List Int) (raw : Bool) (d : List Int) : List Int × Bool := if rowOk row = true then (if packRow row = (raw, d) then (row, true) else ([], false)) else ([], false)
def unp (raw : Bool) (d : List Int) : List Int × Bool := unpR (if raw = true then d else rowOf (prs d)) raw d
theorem unpR_ok {row : List Int} {raw : Bool} {d : List Int} : (unpR row raw d).1.length ≤ 32 ∧ ((unpR row raw d).2 = true → (unpR row raw d).1.length = 32) := by
  unfold unpR
  split
  · rename_i c
    have h := rowOk_len c
    split
    · simp; omega
    · simp
  · simp
theorem unp_len (raw : Bool) (d : List Int) : (unp raw d).1.length ≤ 32 ∧ ((unp raw d).2 = true → (unp raw d).1.length = 32) := unpR_ok
theorem packRow_even {row d : List Int} (h : packRow row = (false, d)) : d.length % 2 = 0 := by
  unfold packRow at h
  split at h
  · split at h
    · simp at h
    · simp only [Prod.mk.injEq, true_and] at h
      rw [← h, flatR_len]; omega
  · simp only [Prod.mk.injEq, true_and] at h
    rw [← h]; rfl
theorem unp_odd {d : List Int} (h : d.length % 2 ≠ 0) : unp false d = ([], false) := by
  unfold unp unpR
  simp only [Bool.false_eq_true, if_false]
  split
  · split
    · rename_i c; exact absurd (packRow_even c) h
    · rfl
  · rfl
theorem same_loop {F : Nat → Int → Option Bool} {l1 l2 : List Int}
    (hend : Ev (fun k => F (k + 1) (l1.length : Int)) true)
    (hstep : ∀ (p1 p2 : List Int) a b r1 r2, l1 = p1 ++ a :: r1 → l2 = p2 ++ b :: r2 → p1.length = p2.length → (a = b → Ev (fun k => F k ((p1.length : Int) + 1)) (decide (r1 = r2))) → Ev (fun k => F (k + 1) (p1.length : Int)) (decide (a :: r1 = b :: r2))) (hl : l1.length = l2.length) :
    Ev (fun k => F k 0) (decide (l1 = l2)) := by
  have main : ∀ (r1 r2 p1 p2 : List Int), l1 = p1 ++ r1 → l2 = p2 ++ r2 → p1.length = p2.length → Ev (fun k => F k (p1.length : Int)) (decide (r1 = r2)) := by
    intro r1
    induction r1 with
    | nil =>
      intro r2 p1 p2 e1 e2 hp
      have hr : r2 = [] := by
        rw [e1, e2] at hl; simp at hl
        exact List.eq_nil_of_length_eq_zero (by omega)
      subst hr
      have e : p1.length = l1.length := by rw [e1]; simp
      rw [e]
      exact Ev.up (by simpa using hend)
    | cons a r1 ih =>
      intro r2 p1 p2 e1 e2 hp
      cases r2 with
      | nil => rw [e1, e2] at hl; simp at hl; omega
      | cons b r2 =>
        refine Ev.up (hstep p1 p2 a b r1 r2 e1 e2 hp (fun _ => ?_))
        have h := ih r2 (p1 ++ [a]) (p2 ++ [b]) (by simp [e1]) (by simp [e2]) (by simp [hp])
        have e : ((p1 ++ [a]).length : Int) = (p1.length : Int) + 1 := by simp
        rw [e] at h
        exact h
  simpa using main l1 l2 [] [] rfl rfl rfl
theorem equal_ev (l1 l2 : List Int) (hm : (l1.length : Int) ≤ 1048576) : Ev (fun k => slices_Equal_int_int.f k l1 l2) (decide (l1 = l2)) := by
  simp only [slices_Equal_int_int.f]
  by_cases c : (l1.length : Int) = (l2.length : Int)
  · simp only [if_pos c]
    refine same_loop (F := fun k i => slices_Equal_int_int.l0 k l1 l2 l1.length i) ?_ ?_ (by omega)
    · simp only [slices_Equal_int_int.l0, Int.lt_irrefl, if_false]; exact Ev.now _
    · intro p1 p2 a b r1 r2 e1 e2 hp h
      have h1 : (p1.length : Int) < (l1.length : Int) := by rw [e1]; simp; omega
      have h2 : (p1.length : Int) < (l2.length : Int) := by rw [e2, hp]; simp; omega
      have g1 : rd l1 (p1.length : Int) = a := by rw [e1]; exact mid_get _
      have g2 : rd l2 (p1.length : Int) = b := by rw [e2, hp]; exact mid_get _
      have hw : wrap64 ((p1.length : Int) + 1) = (p1.length : Int) + 1 := wrap_id (by omega) (by omega)
      simp only [slices_Equal_int_int.l0, if_pos h1, mid_nn, if_true, if_pos h2, g1, g2, hw]
      refine Ev.ite (fun e => ?_) (fun e => Ev.val (by simp [e]))
      have h3 := h e
      subst e
      simpa using h3
  · simp only [if_neg c]
    exact Ev.val (by rw [decide_eq_false]; intro e; rw [e] at c; exact c rfl)
theorem iUnpJ (row : List Int) (raw : Bool) (d : List Int) : Ev (fun k => impl_UnpackRow.j1 k row raw d) (unpR row raw d) := by
  refine Ev.up ?_
  simp only [impl_UnpackRow.j1]
  unfold unpR
  refine Ev.bind (rowOk_ev row) (Ev.ite (fun c => ?_) (fun c => ?_))
  · rw [if_pos c]
    refine Ev.bind (iPackRow_ev row) ?_
    have hl := packRow_len row
    generalize packRow row = Q at hl ⊢
    obtain ⟨q1, q2⟩ := Q
    simp only at hl ⊢
    by_cases e : q1 = raw
    · subst e
      simp only [bne_self_eq_false, Bool.false_eq_true, if_false]
      refine Ev.bind (equal_ev q2 d (by omega)) ?_
      by_cases e2 : q2 = d
      · subst e2
        simp only [decide_true, if_true]; exact Ev.now _
      · simp only [decide_eq_false e2, Bool.false_eq_true, if_false]
        rw [if_neg (by simpa using e2)]; exact Ev.now _
    · have cb : (q1 != raw) = true := by simpa using e
      simp only [cb, if_true]
      rw [if_neg (by simp [e])]; exact Ev.now _
  · rw [if_neg c]; exact Ev.now _
theorem iUnpL (d T : List Int) (R : List S112) (hd : (d.length : Int) ≤ 1048576) (V : List Int × Bool)
    (hk : Ev (fun k => (impl_RowOf.f k R).bind fun t => (impl_UnpackRow.j1 k t false d)) V) :
    ∀ (n : Nat) (rest pre : List Int) (s : List S112), rest.length = 2 * n → d = pre ++ rest → s.length ≤ pre.length → s ++ prs rest = R → Ev (fun k => impl_UnpackRow.l0 k s (pre.length : Int) false d) V
  | 0, rest, pre, s, hn, e, hs, hR => by
    have hr : rest = [] := List.eq_nil_of_length_eq_zero (by omega)
    subst hr
    have e2 : s = R := by simpa [prs] using hR
    have e3 : pre.length = d.length := by rw [e]; simp
    refine Ev.up ?_
    simp only [impl_UnpackRow.l0, e3, Int.lt_irrefl, if_false, e2]
    exact hk
  | n + 1, [], pre, s, hn, _, _, _ => by simp at hn
  | n + 1, [_], pre, s, hn, _, _, _ => by simp at hn; omega
  | n + 1, a :: b :: r, pre, s, hn, e, hs, hR => by
    have hdl : (pre.length : Int) + 2 + r.length = d.length := by rw [e]; simp; omega
    refine Ev.up ?_
    have h1 : (pre.length : Int) < (d.length : Int) := by omega
    have w1 : wrap64 ((pre.length : Int) + 1) = ((pre ++ [a]).length : Int) := by rw [wrap_id (by omega) (by omega)]; simp
    have w2 : wrap64 ((pre.length : Int) + 2) = ((pre ++ [a, b]).length : Int) := by rw [wrap_id (by omega) (by omega)]; simp
    have h2 : ((pre ++ [a]).length : Int) < (d.length : Int) := by simp; omega
    have hs8 : s.length < 8796093022208 := by omega
    have g1 : rd d (pre.length : Int) = a := by rw [e]; exact mid_get _
    have g2 : rd d ((pre ++ [a]).length : Int) = b := by rw [e, show pre ++ a :: b :: r = (pre ++ [a]) ++ b :: r by simp]; exact mid_get _
    simp only [impl_UnpackRow.l0, if_pos h1, mid_nn, if_true, w1, w2, if_pos h2, if_pos hs8, g1, g2]
    exact iUnpL d T R hd V hk n r (pre ++ [a, b]) (s ++ [⟨a, b⟩]) (by simp at hn; omega) (by simp [e]) (by simp; omega) (by rw [← hR]; simp [prs])
theorem iUnpackRow_ev (raw : Bool) (d : List Int) (hd : (d.length : Int) ≤ 1048576) : Ev (fun k => impl_UnpackRow.f k raw d) (unp raw d) := by
  have hc : slices_Clone_int_int.f d = some d := by
    have c : d.length < 17592186044416 := by omega
    simp [slices_Clone_int_int.f, c]
  simp only [impl_UnpackRow.f, hc, Option.bind_some]
  cases raw with
  | true => simp only [if_true]; exact iUnpJ d true d
  | false =>
    simp only [Bool.false_eq_true, if_false]
    refine Ev.ite (fun c => ?_) (fun c => ?_)
    · have hp := prs_len d
      refine iUnpL d [] (prs d) hd _ ?_ (d.length / 2) d [] [] (by omega) rfl (by simp) (by simp)
      exact Ev.bind (iRowOf_ev (prs d) (by omega)) (iUnpJ _ false d)
    · rw [unp_odd (by omega)]; exact Ev.now _
def unpGo : List S40 → List (List Int) → List (List Int) × Bool
  | [], s => (s, true)
  | x :: r, s => if (unp x.f0 x.f1).2 = true then unpGo r (s ++ [(unp x.f0 x.f1).1]) else ([], false)
def unpRows (l : List S40) : List (List Int) × Bool := if (l.length : Int) > 32 then ([], false) else unpGo l []
theorem unpGo_len : ∀ (l : List S40) (s : List (List Int)), (∀ x ∈ s, x.length = 32) → (unpGo l s).1.length ≤ s.length + l.length ∧ ∀ x ∈ (unpGo l s).1, x.length = 32
  | [], s, h => by simp only [unpGo]; exact ⟨by simp, h⟩
  | x :: r, s, h => by
    unfold unpGo
    split
    · rename_i c
      have h1 := (unp_len x.f0 x.f1).2 c
      have h2 := unpGo_len r (s ++ [(unp x.f0 x.f1).1]) (fun y hy => by
        rcases List.mem_append.1 hy with g | g
        · exact h y g
        · rw [List.mem_singleton] at g; rw [g]; exact h1)
      refine ⟨?_, h2.2⟩
      have := h2.1
      simp at this ⊢; omega
    · simp
theorem unpRows_len (l : List S40) : (unpRows l).1.length ≤ 32 ∧ ∀ x ∈ (unpRows l).1, x.length = 32 := by
  unfold unpRows
  split
  · simp
  · have h := unpGo_len l [] (by simp)
    refine ⟨?_, h.2⟩
    have := h.1
    simp at this; omega
theorem iUnpackRows_ev (l : List S40) (hx : ∀ x ∈ l, (x.f1.length : Int) ≤ 1048576) : Ev (fun k => impl_UnpackRows.f k l) (unpRows l) := by
  simp only [impl_UnpackRows.f]
  unfold unpRows
  refine Ev.ite (fun c => by rw [if_pos c]; exact Ev.now _) (fun c => ?_)
  rw [if_neg c]
  have hm : l.length ≤ maxLen := by rw [maxLen_eq]; omega
  refine ev_loop l (F := fun k s i => impl_UnpackRows.l0 k s l l.length i) (fun pre _ s => s.length ≤ pre.length) (fun _ r s => unpGo r s) ?_ ?_ [] (by simp)
  · intro s _; simp only [impl_UnpackRows.l0, end_lt, if_false]; exact Ev.val (by simp [unpGo])
  · rintro pre x rest s e hs ih
    have hxx := hx x (by rw [e]; simp)
    have hs8 : s.length < 5864062014805 := by rw [e] at c; simp at c; omega
    clear c
    subst e
    simp only [impl_UnpackRows.l0, mid_lt, mid_nn, mid_wrap hm, if_true, rd_T40, Int.toNat_natCast, mid_get, if_pos hs8]
    refine Ev.bind (iUnpackRow_ev x.f0 x.f1 hxx) ?_
    simp only [unpGo]
    by_cases o : (unp x.f0 x.f1).2 = true
    · rw [if_pos o]; simp only [o, if_true]; exact ih _ (by simp; omega)
    · rw [if_neg o]; simp only [o, Bool.false_eq_true, if_false]; exact Ev.now _
end Go.Proofs.Ytcalgoembdmlkaa.Pure
namespace Go.Proofs.Ytcalgoembdmlkaa.Pure
open Go.RowKit Go.Proofs.Ytcalgoembdmlkaa.QFnStores Go.Proofs.YtcalgoembdmlkaaW.PrintWords Go.Proofs.YtcalgoembdmlkaaW.PrintLast Go.Proofs.Ytcalgoembdmlkaa.Plain

def expR : List S112 → List Int
  | [] => []
  | x :: r => List.replicate x.f1.toNat x.f0 ++ expR r
theorem expR_app : ∀ q t : List S112, expR (q ++ t) = expR q ++ expR t
  | [], t => rfl
  | x :: q, t => by simp [expR, expR_app q t]
theorem runsFrom_app (x : S112) : ∀ (q : List S112) (p : Option Int), runsFrom p (q ++ [x]) = (runsFrom p q && (inB x.f0 0 255 && (inB x.f1 1 32 && !((match q.getLast? with | some y => some y.f0 | none => p) == some x.f0))))
  | [], p => by simp [runsFrom]
  | y :: q, p => by
    have h := runsFrom_app x q (some y.f0)
    simp only [List.cons_append, runsFrom, h]
    cases q with
    | nil => simp [Bool.and_assoc]
    | cons z q => simp [List.getLast?_cons, Bool.and_assoc]
theorem stepR_exp {n : Nat} {s : List S112} (v : Int) (hv : inB v 0 255 = true) (hI : RunsInv n s) (hn : n ≤ 31) (hr : runsFrom none s = true) : expR (stepR s v) = expR s ++ [v] ∧ runsFrom none (stepR s v) = true := by
  have h1 : inB 1 1 32 = true := by decide
  rcases List.eq_nil_or_concat s with rfl | ⟨q, y, rfl⟩
  · simp [stepR, expR, runsFrom, hv, h1]
  · rw [List.concat_eq_append] at *
    have hy := hI.2 y (by simp)
    have hall := runs_all _ _ hr y (by simp)
    rw [runsFrom_app] at hr
    unfold stepR
    simp only [List.getLast?_append, List.getLast?_singleton, Option.some_or, List.dropLast_concat]
    by_cases c : y.f0 = v
    · rw [if_pos c]
      refine ⟨?_, ?_⟩
      · simp only [expR_app, expR, List.append_nil, List.append_assoc]
        rw [show (y.f1 + 1).toNat = y.f1.toNat + 1 by omega, List.replicate_succ', c]
      · rw [runsFrom_app]
        simp only [Bool.and_eq_true] at hr ⊢
        refine ⟨hr.1, hr.2.1, ?_, hr.2.2.2⟩
        rw [inB_iff]; omega
    · rw [if_neg c]
      refine ⟨?_, ?_⟩
      · simp only [expR_app, expR, List.append_nil]
        rfl
      · rw [runsFrom_app, runsFrom_app, hr]
        simp [hv, h1, c]
theorem runsGo_exp : ∀ (l : List Int) (n : Nat) (s : List S112), (∀ v ∈ l, inB v 0 255 = true) → RunsInv n s → n + l.length ≤ 32 → runsFrom none s = true → expR (runsGo l s) = expR s ++ l ∧ runsFrom none (runsGo l s) = true
  | [], n, s, _, _, _, hr => by simp [runsGo, hr]
  | v :: r, n, s, hv, hI, hn, hr => by
    rw [List.length_cons] at hn
    have h0 := hv v (by simp)
    have hs := stepR_exp v h0 hI (by omega) hr
    have h2 := runsGo_exp r (n + 1) (stepR s v) (fun x hx => hv x (by simp [hx])) (stepR_inv v hI) (by omega) hs.2
    unfold runsGo
    rw [if_pos h0]
    refine ⟨?_, h2.2⟩
    rw [h2.1, hs.1]; simp
theorem rowGo_exp : ∀ (l : List S112) (s : List Int), (∀ x ∈ l, 1 ≤ x.f1 ∧ x.f1 ≤ 32) → s.length + (expR l).length ≤ 32 → rowGo l s = s ++ expR l
  | [], s, _, _ => by simp [rowGo, expR]
  | x :: r, s, h, hn => by
    have hx := h x (by simp)
    simp only [expR, List.length_append, List.length_replicate] at hn
    unfold rowGo
    rw [if_neg (by omega), rowGo_exp r _ (fun y hy => h y (by simp [hy])) (by simp; omega)]
    simp [expR]
theorem rowOk_vals {r : List Int} (h : rowOk r = true) : r.length = 32 ∧ ∀ v ∈ r, inB v 0 255 = true := by
  unfold rowOk at h
  simp only [Bool.and_eq_true, decide_eq_true_eq, List.all_eq_true] at h
  exact ⟨by omega, h.2⟩
theorem rowOf_runsOf {r : List Int} (h : rowOk r = true) : rowOf (runsOf r) = r := by
  obtain ⟨hl, hv⟩ := rowOk_vals h
  unfold runsOf
  rw [if_neg (by omega)]
  have hg := runsGo_exp r 0 [] hv ⟨by simp, by simp⟩ (by omega) rfl
  unfold rowOf
  rw [if_pos hg.2, rowGo_exp _ _ (runs_all _ _ hg.2) (by rw [hg.1]; simp [expR]; omega), hg.1]
  simp [expR]
theorem prs_flatR : ∀ l : List S112, prs (flatR l) = l
  | [] => rfl
  | x :: r => by simp [flatR, prs, prs_flatR r]
theorem unp_pack {r : List Int} (h : rowOk r = true) : unp (packRow r).1 (packRow r).2 = (r, true) := by
  have e : (if (packRow r).1 = true then (packRow r).2 else rowOf (prs (packRow r).2)) = r := by
    unfold packRow
    rw [if_pos h]
    split
    · simp
    · simp only [Bool.false_eq_true, if_false, prs_flatR]; exact rowOf_runsOf h
  unfold unp
  rw [e]
  unfold unpR
  rw [if_pos h, if_pos rfl]
theorem unpGo_pack : ∀ (M s : List (List Int)), (∀ r ∈ M, rowOk r = true) → unpGo (M.map pk) s = (s ++ M, true)
  | [], s, _ => by simp [unpGo]
  | r :: M, s, h => by
    have hr : unp (pk r).f0 (pk r).f1 = (r, true) := unp_pack (h r (by simp))
    rw [List.map_cons, unpGo, hr]
    simp only [if_true]
    rw [unpGo_pack M (s ++ [r]) (fun y hy => h y (by simp [hy]))]
    simp
theorem and255 (x : Int) : 0 ≤ Go.bits .and .i64 x 255 ∧ Go.bits .and .i64 x 255 ≤ 255 := by
  have h : ((BitVec.ofInt 64 x) &&& (BitVec.ofInt 64 255)).toNat ≤ 255 := by
    rw [BitVec.toNat_and]; exact Nat.le_trans Nat.and_le_right (by decide)
  have e : Go.bits .and .i64 x 255 = IntKind.wrap .i64 (((BitVec.ofInt 64 x) &&& (BitVec.ofInt 64 255)).toNat : Int) := rfl
  rw [e]
  generalize ((BitVec.ofInt 64 x) &&& (BitVec.ofInt 64 255)).toNat = n at h
  have e2 : IntKind.wrap .i64 (n : Int) = n := by
    have e3 : IntKind.wrap .i64 (n : Int) = if ((true && decide ((n : Int) % 2 ^ 64 ≥ 2 ^ 63)) = true) then (n : Int) % 2 ^ 64 - 2 ^ 64 else (n : Int) % 2 ^ 64 := rfl
    rw [e3]
    have c : ¬ ((true && decide ((n : Int) % 2 ^ 64 ≥ 2 ^ 63)) = true) := by simp; omega
    rw [if_neg c]; omega
  rw [e2]; omega
theorem byte_ok (b : List Int) (i h : Int) (hb : (b.length : Int) ≤ 1048576) (h0 : 0 ≤ i) (h1 : i ≤ 1048576) : ∃ v i' h', spec_l01Byte.f b i h = some (v, i', h') ∧ 0 ≤ v ∧ v ≤ 255 ∧ 0 ≤ i' ∧ i' ≤ 1048576 := by
  unfold spec_l01Byte.f
  by_cases c : i < (b.length : Int)
  · rw [if_pos c, if_pos h0]
    have hw : wrap64 (i + 1) = i + 1 := wrap_id (by omega) (by omega)
    exact ⟨_, _, _, rfl, (and255 _).1, (and255 _).2, by rw [hw]; omega, by rw [hw]; omega⟩
  · rw [if_neg c]
    exact ⟨_, _, _, rfl, (and255 _).1, (and255 _).2, h0, h1⟩
theorem below_ok (b : List Int) (i h n : Int) (hn : 0 < n) (hn2 : n ≤ 256) (hb : (b.length : Int) ≤ 1048576) (h0 : 0 ≤ i) (h1 : i ≤ 1048576) : ∃ v i' h', spec_l01Below.f b i h n = some (v, i', h') ∧ 0 ≤ v ∧ v < n ∧ 0 ≤ i' ∧ i' ≤ 1048576 := by
  obtain ⟨v, i', h', e, g0, g1, g2, g3⟩ := byte_ok b i h hb h0 h1
  unfold spec_l01Below.f
  rw [if_neg (by omega), if_pos hn2, e]
  refine ⟨Int.tmod v n, i', h', ?_, Int.tmod_nonneg _ g0, Int.tmod_lt_of_pos _ hn, g2, g3⟩
  simp only [Option.bind_some]
  rw [if_neg (by omega)]
theorem once_ok (b : List Int) (i h n : Int) (hn : 0 < n) (hn2 : n ≤ 256) (hb : (b.length : Int) ≤ 1048576) (h0 : 0 ≤ i) (h1 : i ≤ 1048576) : ∃ v i' h', spec_l01Once.f b i h n = some (v, i', h') ∧ 0 ≤ i' ∧ i' ≤ 1048576 := by
  obtain ⟨v, i', h', e, _, _, g2, g3⟩ := below_ok b i h n hn hn2 hb h0 h1
  unfold spec_l01Once.f
  rw [e]
  exact ⟨_, _, _, rfl, g2, g3⟩
theorem pick_ok (b : List Int) (i h : Int) (l : List Int) (hn : 0 < l.length) (hn2 : l.length ≤ 256) (hb : (b.length : Int) ≤ 1048576) (h0 : 0 ≤ i) (h1 : i ≤ 1048576) : ∃ v i' h', spec_l01PickInt.f b i h l = some (v, i', h') ∧ v ∈ l ∧ 0 ≤ i' ∧ i' ≤ 1048576 := by
  obtain ⟨v, i', h', e, g0, g1, g2, g3⟩ := below_ok b i h l.length (by omega) (by omega) hb h0 h1
  unfold spec_l01PickInt.f
  rw [e]
  simp only [Option.bind_some, if_pos g0, if_pos g1]
  refine ⟨_, _, _, rfl, ?_, g2, g3⟩
  have hv : v.toNat < l.length := by omega
  have e2 : rd l v = l[v.toNat] := by simp [rd, List.getD_eq_getElem?_getD, List.getElem?_eq_getElem hv]
  rw [e2]
  exact List.getElem_mem hv
theorem new_ok (b : List Int) (hb : (b.length : Int) ≤ 1048576) : ∃ h', Ev (fun k => spec_l01New.f k b) (b, 0, h') := by
  simp only [spec_l01New.f]
  have main : ∀ (m : Nat) (i : Nat) (h : Int), 4001 - i = m → ∃ h', Ev (fun k => spec_l01New.l0 k b h (i : Int)) (b, 0, h') := by
    intro m
    induction m with
    | zero =>
      intro i h hm
      refine ⟨h, Ev.up ?_⟩
      simp only [spec_l01New.l0, if_neg (show ¬ (i : Int) < 4000 by omega)]
      exact Ev.ite (fun _ => Ev.now _) (fun _ => Ev.now _)
    | succ m ih =>
      intro i h hm
      by_cases c : (i : Int) < (b.length : Int)
      · by_cases c2 : (i : Int) < 4000
        · have hw : wrap64 ((i : Int) + 1) = ((i + 1 : Nat) : Int) := by rw [wrap_id (by omega) (by omega)]; simp
          obtain ⟨h', e⟩ := ih (i + 1) (Go.bits .and .i64 (wrap64 ((wrap64 ((wrap64 (h * 131)) + (wrap64 (rd b (i : Int))))) + 7)) 1073741823) (by omega)
          refine ⟨h', Ev.up ?_⟩
          simp only [spec_l01New.l0, if_pos c, if_pos c2, mid_nn, if_true, hw]
          exact e
        · refine ⟨h, Ev.up ?_⟩
          simp only [spec_l01New.l0, if_pos c, if_neg c2]; exact Ev.now _
      · refine ⟨h, Ev.up ?_⟩
        simp only [spec_l01New.l0, if_neg c]; exact Ev.now _
  exact main 4001 0 _ rfl
theorem row_ok (b : List Int) (hb : (b.length : Int) ≤ 1048576) (x5 : List (List Int)) (x6 x7 : Int) : ∀ (m : Nat) (s : List Int) (g i h : Int), 32 - s.length = m → s.length ≤ 32 → (∀ v ∈ s, inB v 0 255 = true) → inB g 0 255 = true → 0 ≤ i → i ≤ 1048576 →
    ∃ r i' h', rowOk r = true ∧ 0 ≤ i' ∧ i' ≤ 1048576 ∧ ∀ V, Ev (fun k => if x5.length < 5864062014805 then (spec_l11Rows.l0 k (x5 ++ [r]) x6 (wrap64 (x7 + 1)) b i' h') else none) V → Ev (fun k => spec_l11Rows.l1 k x5 x6 x7 s g b i h) V
  | 0, s, g, i, h, hm, hs, hv, hg, h0, h1 => by
    refine ⟨s, i, h, ?_, h0, h1, fun V hV => Ev.up ?_⟩
    · unfold rowOk
      simp only [Bool.and_eq_true, decide_eq_true_eq, List.all_eq_true]
      exact ⟨by omega, hv⟩
    · simp only [spec_l11Rows.l1, if_neg (show ¬ (s.length : Int) < 32 by omega)]
      exact hV
  | m + 1, s, g, i, h, hm, hs, hv, hg, h0, h1 => by
    have hlt : (s.length : Int) < 32 := by omega
    have hs8 : s.length < 17592186044416 := by omega
    obtain ⟨o, i1, h1', e1, a1, a2⟩ := once_ok b i h 5 (by omega) (by omega) hb h0 h1
    cases o with
    | true =>
      obtain ⟨v, i2, h2', e2, b0, b1, b2, b3⟩ := below_ok b i1 h1' 256 (by omega) (by omega) hb a1 a2
      obtain ⟨u, i3, h3', e3, c1, c2, c3⟩ := pick_ok b i2 h2' [0, 255, 128, v] (by simp) (by simp) hb b2 b3
      have hu : inB u 0 255 = true := by
        rw [inB_iff]
        simp only [List.mem_cons, List.not_mem_nil, or_false] at c1
        omega
      obtain ⟨r, i', h', k1, k2, k3, k4⟩ := row_ok b hb x5 x6 x7 m (s ++ [u]) u i3 h3' (by simp; omega) (by simp; omega) (fun z hz => by
        rcases List.mem_append.1 hz with hz | hz
        · exact hv z hz
        · rw [List.mem_singleton] at hz; rw [hz]; exact hu) hu c2 c3
      refine ⟨r, i', h', k1, k2, k3, fun V hV => Ev.up ?_⟩
      simp only [spec_l11Rows.l1, if_pos hlt, e1, Option.bind_some, if_true, e2, e3, if_pos hs8]
      exact k4 V hV
    | false =>
      obtain ⟨r, i', h', k1, k2, k3, k4⟩ := row_ok b hb x5 x6 x7 m (s ++ [g]) g i1 h1' (by simp; omega) (by simp; omega) (fun z hz => by
        rcases List.mem_append.1 hz with hz | hz
        · exact hv z hz
        · rw [List.mem_singleton] at hz; rw [hz]; exact hg) hg a1 a2
      refine ⟨r, i', h', k1, k2, k3, fun V hV => Ev.up ?_⟩
      simp only [spec_l11Rows.l1, if_pos hlt, e1, Option.bind_some, Bool.false_eq_true, if_false, if_pos hs8]
      exact k4 V hV
theorem rows_ok (b : List Int) (hb : (b.length : Int) ≤ 1048576) (n : Int) (hn : n ≤ 32) : ∀ (m : Nat) (s : List (List Int)) (i h : Int), (n - s.length).toNat = m → (s.length : Int) ≤ n → (∀ r ∈ s, rowOk r = true) → 0 ≤ i → i ≤ 1048576 →
    ∃ M i' h', (∀ r ∈ M, rowOk r = true) ∧ (M.length : Int) ≤ n ∧ Ev (fun k => spec_l11Rows.l0 k s n (s.length : Int) b i h) (M, i', h')
  | 0, s, i, h, hm, hs, hv, h0, h1 => by
    refine ⟨s, i, h, hv, hs, Ev.up ?_⟩
    simp only [spec_l11Rows.l0, if_neg (show ¬ (s.length : Int) < n by omega)]
    exact Ev.now _
  | m + 1, s, i, h, hm, hs, hv, h0, h1 => by
    have hlt : (s.length : Int) < n := by omega
    have hs8 : s.length < 5864062014805 := by omega
    obtain ⟨g, i1, h1', e1, b0, b1, a1, a2⟩ := below_ok b i h 256 (by omega) (by omega) hb h0 h1
    obtain ⟨r, i2, h2', k1, k2, k3, k4⟩ := row_ok b hb s n s.length 32 [] g i1 h1' rfl (by simp) (by simp) (by rw [inB_iff]; omega) a1 a2
    have hw : wrap64 ((s.length : Int) + 1) = ((s ++ [r]).length : Int) := by rw [wrap_id (by omega) (by omega)]; simp
    obtain ⟨M, i', h', f1, f2, f3⟩ := rows_ok b hb n hn m (s ++ [r]) i2 h2' (by simp; omega) (by simp; omega) (fun z hz => by
      rcases List.mem_append.1 hz with hz | hz
      · exact hv z hz
      · rw [List.mem_singleton] at hz; rw [hz]; exact k1) k2 k3
    refine ⟨M, i', h', f1, f2, Ev.up ?_⟩
    simp only [spec_l11Rows.l0, if_pos hlt, e1, Option.bind_some]
    refine k4 _ ?_
    simp only [if_pos hs8, hw]
    exact f3
theorem drawRows_ok (b : List Int) (hb : (b.length : Int) ≤ 1048576) : ∃ M, (∀ r ∈ M, rowOk r = true) ∧ M.length ≤ 6 ∧ Ev (fun k => spec_DrawRows.f k b) M := by
  obtain ⟨h0, e0⟩ := new_ok b hb
  obtain ⟨n, i1, h1, e1, n0, n1, a1, a2⟩ := below_ok b 0 h0 7 (by omega) (by omega) hb (by omega) (by omega)
  obtain ⟨M, i', h', f1, f2, f3⟩ := rows_ok b hb n (by omega) n.toNat [] i1 h1 (by simp) (by simpa using n0) (by simp) a1 a2
  refine ⟨M, f1, by omega, ?_⟩
  have hw : wrap64 ((6 : Int) + 1) = 7 := wrap_id (by omega) (by omega)
  have e2 : Ev (fun k => spec_l11Rows.f k b 0 h0 6) (M, i', h') := by
    simp only [spec_l11Rows.f, hw, e1, Option.bind_some]
    exact f3
  simp only [spec_DrawRows.f]
  exact Ev.bind e0 (Ev.bind e2 (Ev.now _))
theorem sameInts_ev (l : List Int) (hm : l.length ≤ maxLen) : Ev (fun k => laws_sameInts.f k l l) true := by
  simp only [laws_sameInts.f, if_true]
  refine ev_loop0 l (F := fun k i => laws_sameInts.l0 k l l i) (fun _ _ => true) ?_ (fun pre x rest e h => ?_)
  · simp only [laws_sameInts.l0, end_lt, if_false]; exact Ev.now _
  · subst e
    simp only [laws_sameInts.l0, mid_lt, mid_nn, mid_wrap hm, if_true]
    exact h
theorem storeSize_le : ∀ (l : List S40) (a : Int), (∀ x ∈ l, x.f1.length ≤ 32) → 0 ≤ a → a + 33 * l.length ≤ 1000000 → 0 ≤ storeSize l a ∧ storeSize l a ≤ a + 33 * l.length
  | [], a, _, h0, _ => by simp only [storeSize]; simp; omega
  | x :: r, a, hx, h0, h1 => by
    have h2 := hx x (by simp)
    rw [List.length_cons] at h1
    have hw : wrap64 (a + wrap64 (1 + (x.f1.length : Int))) = a + (1 + (x.f1.length : Int)) := by
      rw [wrap_id (x := 1 + (x.f1.length : Int)) (by omega) (by omega)]; exact wrap_id (by omega) (by omega)
    have h3 := storeSize_le r (a + (1 + (x.f1.length : Int))) (fun y hy => hx y (by simp [hy])) (by omega) (by omega)
    simp only [storeSize, hw]
    rw [List.length_cons]
    omega
theorem FnStores (l : List Int) (h : l.length ≤ maxLen ∧ ∀ y ∈ l, ((Lit.int .u8 y).wf = true)) : ∃ k, laws_FnStores.f k l = some true := by
  refine Ev.rounds (g := fun k => laws_FnStores.f k l) ?_
  simp only [laws_FnStores.f, laws_big.f, Option.bind_some]
  by_cases c : (l.length : Int) > 1048576
  · simp only [decide_eq_true c, if_true]; exact Ev.now _
  · simp only [decide_eq_false c, Bool.false_eq_true, if_false]
    obtain ⟨M, hM, hl, hD⟩ := drawRows_ok l (by omega)
    have hm : M.length ≤ maxLen := by rw [maxLen_eq]; omega
    have ho : rowsOk M = true := by
      unfold rowsOk
      simp only [Bool.and_eq_true, decide_eq_true_eq, List.all_eq_true]
      exact ⟨by omega, hM⟩
    have hp : packRows M = M.map pk := by unfold packRows; rw [if_pos ho]
    have hPl : ((M.map pk).length : Int) = M.length := by rw [List.length_map]
    have hPm : (M.map pk).length ≤ maxLen := by rw [List.length_map]; exact hm
    have hPx : ∀ x ∈ M.map pk, x.f1.length ≤ 32 := fun x hx => by rw [← hp] at hx; exact packRows_row hx
    have hU : unpRows (M.map pk) = (M, true) := by
      unfold unpRows
      rw [if_neg (by omega), unpGo_pack M [] hM]; rfl
    have hI := iPackRows_ev M hm
    rw [hp] at hI
    have hV := iUnpackRows_ev (M.map pk) (fun x hx => by have := hPx x hx; omega)
    rw [hU] at hV
    refine Ev.bind hD (Ev.bind hI (Ev.bind hV ?_))
    have main : ∀ (rest pre : List (List Int)), M = pre ++ rest → Ev (fun k => laws_FnStores.l0 k M (M.map pk) M true (pre.length : Int)) true := by
      intro rest
      induction rest with
      | nil =>
        intro pre e
        have e2 : pre.length = M.length := by rw [e]; simp
        refine Ev.up ?_
        simp only [laws_FnStores.l0, hPl, e2, Int.lt_irrefl, if_false, if_true]
        have hS := iSameRows_ev M M hm (fun x hx => by have := (rowOk_vals (hM x hx)).1; rw [maxLen_eq]; omega)
        have hs2 := storeSize_le (M.map pk) 0 hPx (by omega) (by omega)
        refine Ev.bind hS ?_
        simp only [decide_true, if_true]
        refine Ev.bind (iStoreSize_ev (M.map pk) hPm) (Ev.val ?_)
        have hw : wrap64 ((M.length : Int) * 33) = (M.length : Int) * 33 := wrap_id (by omega) (by omega)
        rw [hw]
        exact decide_eq_true (by omega)
      | cons r rest ih =>
        intro pre e
        have hlt : (pre.length : Int) < (M.length : Int) := by rw [e]; simp; omega
        have hr := hM r (by rw [e]; simp)
        have g1 : rd_T40 (M.map pk) (pre.length : Int) = pk r := by
          have em : M.map pk = pre.map pk ++ pk r :: rest.map pk := by rw [e]; simp
          rw [em]
          have h9 := mid_get (pre := pre.map pk) (rest := rest.map pk) (x := pk r) z40
          rw [List.length_map] at h9
          exact h9
        have g2 : rd_L2 M (pre.length : Int) = r := by rw [e]; exact mid_get _
        have hw : wrap64 ((pre.length : Int) + 1) = ((pre ++ [r]).length : Int) := by rw [wrap_id (by omega) (by omega)]; simp
        have hk := packRow_len r
        have hu := iUnpackRow_ev (pk r).f0 (pk r).f1 (by show ((packRow r).2.length : Int) ≤ _; omega)
        rw [show unp (pk r).f0 (pk r).f1 = (r, true) from unp_pack hr] at hu
        refine Ev.up ?_
        simp only [laws_FnStores.l0, hPl, if_pos hlt, mid_nn, if_true, g1, g2, hw]
        refine Ev.bind hu ?_
        simp only [if_true, if_neg (show ¬ (pre.length : Int) ≥ (M.length : Int) by omega)]
        refine Ev.bind (sameInts_ev r (by have := (rowOk_vals hr).1; rw [maxLen_eq]; omega)) ?_
        simp only [if_true]
        rw [show (fun k => if ((pk r).f1.length : Int) > 32 then some false else laws_FnStores.l0 k M (List.map pk M) M true ((pre ++ [r]).length : Int)) = fun k => laws_FnStores.l0 k M (List.map pk M) M true ((pre ++ [r]).length : Int) from funext fun k => if_neg (by show ¬ ((packRow r).2.length : Int) > 32; omega)]
        exact ih (pre ++ [r]) (by rw [e]; simp)
    exact main M [] rfl
end Go.Proofs.Ytcalgoembdmlkaa.Pure
