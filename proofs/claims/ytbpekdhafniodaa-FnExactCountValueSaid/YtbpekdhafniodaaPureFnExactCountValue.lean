/- The plain law of FnExactCountValue: over numbers and lists, what the printed functions answer, and that the law answers true. -/
import Derived.Test.YtbpekdhafniodaaQFnExactCountValuex2
import Derived.Test.YtbpekdhafniodaaPlain
namespace Go.Proofs.Ytbpekdhafniodaa.Pure
open Go.RowKit Go.Proofs.Ytbpekdhafniodaa.QFnExactCountValue Go.Proofs.YtbpekdhafniodaaW.PrintWords Go.Proofs.YtbpekdhafniodaaW.PrintLast Go.Proofs.Ytbpekdhafniodaa.Plain

theorem szIntS_eq (l : List Int) (a : Int) (h : l.length ≤ maxLen) (h0 : 0 ≤ a) (h1 : a ≤ 1048576) : laws_szIntS.f l a = some (szN l.length a) := by
  rw [maxLen_eq] at h
  unfold laws_szIntS.f szN
  rw [wrap_id (by omega) (by omega)]
  split <;> rfl
def szSS (l : List (List Int)) (a : Int) : Int := if szN l.length a < 0 then -1 else szL (fun x a => szN x.length a) l (szN l.length a)
theorem szSS_tells (l : List (List Int)) (a : Int) (h0 : 0 ≤ a) (h1 : a ≤ 1048576) : szSS l a = -1 ∨ (0 ≤ szSS l a ∧ szSS l a ≤ a ∧ (l.length : Int) ≤ a ∧ ∀ x ∈ l, (x.length : Int) ≤ 1048576) := by
  unfold szSS
  rcases szN_tells l.length a h0 with h | ⟨h2, h3, h4⟩
  · rw [h]; exact .inl rfl
  · rw [if_neg (by omega)]
    rcases szL_tells (f := fun (x : List Int) a => szN x.length a) (P := fun x => (x.length : Int) ≤ 1048576) (fun x a h0 h1 => by rcases szN_tells x.length a h0 with h | ⟨h5, h6, h7⟩; exact .inl h; exact .inr ⟨h5, h6, by omega⟩) l _ h2 (by omega) with h | ⟨h5, h6, h7⟩
    · exact .inl h
    · exact .inr ⟨h5, by omega, h4, h7⟩
theorem szIntSS_ev (l : List (List Int)) (a : Int) (h : l.length ≤ maxLen) (hx : ∀ x ∈ l, x.length ≤ maxLen) (h0 : 0 ≤ a) (h1 : a ≤ 1048576) : Ev (fun k => laws_szIntSS.f k l a) (szSS l a) := by
  have h' := h
  rw [maxLen_eq] at h'
  simp only [laws_szIntSS.f]
  rw [wrap_id (by omega) (by omega)]
  have hn : szN l.length a = if a - (l.length : Int) < 0 then -1 else a - (l.length : Int) := rfl
  unfold szSS
  rw [hn]
  by_cases c : a - (l.length : Int) < 0
  · simp only [if_pos c]; exact Ev.val rfl
  · simp only [if_neg c]
    refine ev_loop l (F := fun k s i => laws_szIntSS.l0 k l s i) (fun _ _ s => 0 ≤ s ∧ s ≤ 1048576) (fun _ r s => szL (fun x a => szN x.length a) r s) ?_ ?_ (a - (l.length : Int)) ⟨by omega, by omega⟩
    · intro s _
      simp only [laws_szIntSS.l0, end_lt, if_false, szL]
      exact Ev.now _
    · rintro pre x rest s e ⟨hs0, hs1⟩ ih
      have hxx := hx x (by rw [e]; simp)
      subst e
      simp only [laws_szIntSS.l0, mid_lt, mid_nn, mid_wrap h, if_true, rd_L1, Int.toNat_natCast, mid_get, szIntS_eq x s hxx hs0 hs1, Option.bind_some, szL]
      rcases szN_tells x.length s hs0 with hn | ⟨h2, h3, h4⟩
      · rw [hn]; exact Ev.now _
      · have c2 : ¬ szN x.length s < 0 := by omega
        simp only [if_neg c2]
        exact ih _ ⟨h2, by omega⟩
theorem toIntS_ev (l : List Int) (h : (l.length : Int) ≤ 1048576) : Ev (fun k => laws_toIntS.f k l) l := by
  have hm : l.length ≤ maxLen := by rw [maxLen_eq]; omega
  simp only [laws_toIntS.f]
  refine Ev.ite (fun _ => Ev.ite (fun _ => ?_) (fun c => absurd (by omega) c)) (fun c => absurd (by omega) c)
  have := ev_fill l id (F := fun k s i => laws_toIntS.l0 k l s i) (fun s => by
    simp only [laws_toIntS.l0, end_lt, if_false]
    exact Ev.now _) (fun pre x rest s r e hs h => by
    subst e
    simp only [laws_toIntS.l0, hs, mid_lt, mid_nn, mid_wrap hm, if_true, rd, Int.toNat_natCast, mid_get]
    exact h) (List.replicate ((l.length : Int) : Int).toNat 0) (by simp)
  simpa using this
theorem toIntSS_ev (l : List (List Int)) (h : (l.length : Int) ≤ 1048576) (hx : ∀ x ∈ l, (x.length : Int) ≤ 1048576) : Ev (fun k => laws_toIntSS.f k l) l := by
  have hm : l.length ≤ maxLen := by rw [maxLen_eq]; omega
  simp only [laws_toIntSS.f]
  refine Ev.ite (fun _ => Ev.ite (fun _ => ?_) (fun c => absurd (by omega) c)) (fun c => absurd (by omega) c)
  have := ev_fill l id (F := fun k s i => laws_toIntSS.l0 k l s i) (fun s => by
    simp only [laws_toIntSS.l0, end_lt, if_false]
    exact Ev.now _) (fun pre x rest s r e hs h => by
    have hxx := hx x (by rw [e]; simp)
    subst e
    simp only [laws_toIntSS.l0, hs, mid_lt, mid_nn, mid_wrap hm, if_true, rd_L1, Int.toNat_natCast, mid_get]
    exact Ev.bind (toIntS_ev x hxx) h) (List.replicate ((l.length : Int) : Int).toNat []) (by simp)
  simpa using this
theorem eqIntS_ev (l : List Int) (hm : l.length ≤ maxLen) : Ev (fun k => laws_eqIntS.f k l l) true := by
  simp only [laws_eqIntS.f, if_true]
  refine ev_loop0 l (F := fun k i => laws_eqIntS.l0 k l l i) (fun _ _ => true) ?_ (fun pre x rest e h => ?_)
  · simp only [laws_eqIntS.l0, end_lt, if_false]; exact Ev.now _
  · subst e
    simp only [laws_eqIntS.l0, mid_lt, mid_nn, mid_wrap hm, if_true]
    exact h
theorem eqIntSS_ev (l : List (List Int)) (hm : l.length ≤ maxLen) (hx : ∀ x ∈ l, x.length ≤ maxLen) : Ev (fun k => laws_eqIntSS.f k l l) true := by
  simp only [laws_eqIntSS.f, if_true]
  refine ev_loop0 l (F := fun k i => laws_eqIntSS.l0 k l l i) (fun _ _ => true) ?_ (fun pre x rest e h => ?_)
  · simp only [laws_eqIntSS.l0, end_lt, if_false]; exact Ev.now _
  · have hxx := hx x (by rw [e]; simp)
    subst e
    simp only [laws_eqIntSS.l0, mid_lt, mid_nn, mid_wrap hm, if_true, rd_L1, Int.toNat_natCast, mid_get]
    exact Ev.bind (eqIntS_ev x hxx) h
end Go.Proofs.Ytbpekdhafniodaa.Pure
namespace Go.Proofs.Ytbpekdhafniodaa.Pure
open Go.RowKit Go.Proofs.Ytbpekdhafniodaa.QFnExactCountValue Go.Proofs.YtbpekdhafniodaaW.PrintWords Go.Proofs.YtbpekdhafniodaaW.PrintLast Go.Proofs.Ytbpekdhafniodaa.Plain

def coord (a : Int) : Bool := inB a (-200) 200
def boxOk (a b c d : Int) : Bool := coord a && (coord b && (coord c && (coord d && (decide (a ≤ c) && decide (b ≤ d)))))
def rowOk (l : List Int) : Bool := decide ((l.length : Int) = 32) && l.all fun v => inB v 0 255
def rowsOk (l : List (List Int)) : Bool := decide ((l.length : Int) ≤ 32) && l.all rowOk
def cntV (v : Int) : List Int → Int → Int
  | [], s => s
  | x :: r, s => cntV v r (if x = v then wrap64 (s + 1) else s)
def cntVV (v : Int) : List (List Int) → Int → Int
  | [], s => s
  | x :: r, s => cntVV v r (cntV v x s)
theorem iCountValue_in (v j : Int) (xs : List (List Int)) (n : Int) (row : List Int) (r : Int) (hm : row.length ≤ maxLen) (s : Int)
    (H : Ev (fun k => impl_CountValue.l0 k v (cntV v row s) xs n (wrap64 (j + 1))) r) : Ev (fun k => impl_CountValue.l1 k v s xs n j row row.length 0) r := by
  refine ev_loop row (F := fun k s i => impl_CountValue.l1 k v s xs n j row row.length i) (fun _ rest s' => cntV v rest s' = cntV v row s) (fun _ _ _ => r) ?_ ?_ s rfl
  · intro s' hs
    simp only [impl_CountValue.l1, end_lt, if_false]
    have : s' = cntV v row s := hs
    rw [this]
    exact H
  · rintro pre x rest s' e hs ih
    rw [e] at hm
    rw [← hs] at H ih
    clear hs
    subst e
    simp only [impl_CountValue.l1, mid_lt, mid_nn, mid_wrap hm, if_true, rd, Int.toNat_natCast, mid_get]
    by_cases c : x = v
    · simp only [if_pos c]; exact ih _ (by simp [cntV, c])
    · simp only [if_neg c]; exact ih _ (by simp [cntV, c])
theorem iCountValue_ev (v : Int) (l : List (List Int)) (hm : l.length ≤ maxLen) (hx : ∀ x ∈ l, x.length ≤ maxLen) : Ev (fun k => impl_CountValue.f k l v) (cntVV v l 0) := by
  simp only [impl_CountValue.f]
  refine ev_loop l (F := fun k s i => impl_CountValue.l0 k v s l l.length i) (fun _ _ _ => True) (fun _ r s => cntVV v r s) ?_ ?_ _ trivial
  · intro s _; simp only [impl_CountValue.l0, end_lt, if_false]; exact Ev.now _
  · rintro pre x rest s e _ ih
    have hxx := hx x (by rw [e]; simp)
    subst e
    simp only [impl_CountValue.l0, mid_lt, mid_nn, if_true, rd_L1, Int.toNat_natCast, mid_get, cntVV]
    exact iCountValue_in v _ _ _ x _ hxx s (by simp only [mid_wrap hm]; exact ih _ trivial)
theorem sCountValue_in (v : Int) (pre : List (List Int)) (row : List Int) (post : List (List Int)) (r : Int) (hm : row.length ≤ maxLen) (s : Int)
    (H : Ev (fun k => spec_CountValue.l0 k (pre ++ row :: post) v (cntV v row s) (wrap64 ((pre.length : Int) + 1))) r) : Ev (fun k => spec_CountValue.l1 k (pre ++ row :: post) v s pre.length 0) r := by
  refine ev_loop row (F := fun k s i => spec_CountValue.l1 k (pre ++ row :: post) v s pre.length i) (fun _ rest s' => cntV v rest s' = cntV v row s) (fun _ _ _ => r) ?_ ?_ s rfl
  · intro s' hs
    simp only [spec_CountValue.l1, mid_lt, mid_nn, if_true, rd_L1, Int.toNat_natCast, mid_get, end_lt, if_false]
    have : s' = cntV v row s := hs
    rw [this]
    exact H
  · rintro p x rest s' e hs ih
    rw [e] at hm
    rw [← hs] at H ih
    clear hs
    subst e
    simp only [spec_CountValue.l1, mid_lt, mid_nn, if_true, rd_L1, Int.toNat_natCast, mid_get, mid_wrap hm, rd]
    by_cases c : x = v
    · simp only [if_pos c]; exact ih _ (by simp [cntV, c])
    · simp only [if_neg c]; exact ih _ (by simp [cntV, c])
theorem sCountValue_ev (v : Int) (l : List (List Int)) (hm : l.length ≤ maxLen) (hx : ∀ x ∈ l, x.length ≤ maxLen) : Ev (fun k => spec_CountValue.f k l v) (cntVV v l 0) := by
  simp only [spec_CountValue.f]
  refine ev_loop l (F := fun k s i => spec_CountValue.l0 k l v s i) (fun _ _ _ => True) (fun _ r s => cntVV v r s) ?_ ?_ _ trivial
  · intro s _; simp only [spec_CountValue.l0, end_lt, if_false]; exact Ev.now _
  · rintro pre x rest s e _ ih
    have hxx := hx x (by rw [e]; simp)
    subst e
    simp only [spec_CountValue.l0, mid_lt, if_true, cntVV]
    exact sCountValue_in v pre x rest _ hxx s (by simp only [mid_wrap hm]; exact ih _ trivial)

end Go.Proofs.Ytbpekdhafniodaa.Pure
namespace Go.Proofs.Ytbpekdhafniodaa.Pure
open Go.RowKit Go.Proofs.Ytbpekdhafniodaa.QFnExactCountValue Go.Proofs.YtbpekdhafniodaaW.PrintWords Go.Proofs.YtbpekdhafniodaaW.PrintLast Go.Proofs.Ytbpekdhafniodaa.Plain

theorem FnExactCountValue (l : List (List Int)) (v : Int) (h : l.length ≤ maxLen ∧ ∀ y ∈ l, (y.length ≤ maxLen ∧ ∀ yy ∈ y, ((Lit.int .i64 yy).wf = true))) (_ : (Lit.int .i64 v).wf = true) : ∃ k, laws_FnExactCountValue.f k l v = some true := by
  refine Ev.rounds (g := fun k => laws_FnExactCountValue.f k l v) ?_
  simp only [laws_FnExactCountValue.f]
  refine Ev.bind (szIntSS_ev l 1048576 h.1 (fun x hx => (h.2 x hx).1) (by omega) (by omega)) (Ev.ite (fun _ => Ev.now _) (fun c => ?_))
  rcases szSS_tells l 1048576 (by omega) (by omega) with hn | ⟨_, _, hl, hx⟩
  · omega
  have hm := h.1
  have hxm := fun x hx => (h.2 x hx).1
  refine Ev.bind (toIntSS_ev l hl hx) (Ev.bind (sCountValue_ev v l hm hxm) (Ev.bind (toIntSS_ev l hl hx) (Ev.bind (iCountValue_ev v l hm hxm) (Ev.ite (fun _ => ?_) (fun c => absurd rfl c)))))
  exact Ev.bind (toIntSS_ev l hl hx) (Ev.bind (eqIntSS_ev _ hm hxm) (Ev.now _))
end Go.Proofs.Ytbpekdhafniodaa.Pure
