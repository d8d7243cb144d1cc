/- The plain law of FnExactPackRows: over numbers and lists, what the printed functions answer, and that the law answers true. -/
import Derived.Test.YtcalgoembdmlkaaQFnExactPackRowsx4
import Derived.Test.YtcalgoembdmlkaaPlain
set_option linter.unusedSimpArgs false
set_option linter.unusedVariables false
namespace Go.Proofs.Ytcalgoembdmlkaa.Pure
open Go.RowKit Go.Proofs.Ytcalgoembdmlkaa.QFnExactPackRows Go.Proofs.YtcalgoembdmlkaaW.PrintWords Go.Proofs.YtcalgoembdmlkaaW.PrintLast Go.Proofs.Ytcalgoembdmlkaa.Plain

theorem szIntS_eq (l : List Int) (a : Int) (h : l.length ≤ maxLen) (h0 : 0 ≤ a) (h1 : a ≤ 1048576) : laws_szIntS.f l a = some (szN l.length a) := by
  rw [maxLen_eq] at h
  unfold laws_szIntS.f szN
  rw [wrap_id (by omega) (by omega)]
  split <;> rfl
def szSS (l : List (List Int)) (a : Int) : Int := if szN l.length a < 0 then -1 else szL (fun x a => szN x.length a) l (szN l.length a)
theorem szSS_tells (l : List (List Int)) (a : Int) (h0 : 0 ≤ a) (h1 : a ≤ 1048576) : szSS l a = -1 ∨ (0 ≤ szSS l a ∧ szSS l a ≤ a ∧ (l.length : Int) ≤ a ∧ ∀ x ∈ l, (x.length : Int) ≤ 1048576) := by
  unfold szSS
  rcases szN_tells l.length a h0 with h | ⟨h2, h3, h4⟩
  · rw [h]; exact .inl rfl
  · rw [if_neg (by omega)]
    rcases szL_tells (f := fun (x : List Int) a => szN x.length a) (P := fun x => (x.length : Int) ≤ 1048576) (fun x a h0 h1 => by rcases szN_tells x.length a h0 with h | ⟨h5, h6, h7⟩; exact .inl h; exact .inr ⟨h5, h6, by omega⟩) l _ h2 (by omega) with h | ⟨h5, h6, h7⟩
    · exact .inl h
    · exact .inr ⟨h5, by omega, h4, h7⟩
theorem szIntSS_ev (l : List (List Int)) (a : Int) (h : l.length ≤ maxLen) (hx : ∀ x ∈ l, x.length ≤ maxLen) (h0 : 0 ≤ a) (h1 : a ≤ 1048576) : Ev (fun k => laws_szIntSS.f k l a) (szSS l a) := by
  have h' := h
  rw [maxLen_eq] at h'
  simp only [laws_szIntSS.f]
  rw [wrap_id (by omega) (by omega)]
  have hn : szN l.length a = if a - (l.length : Int) < 0 then -1 else a - (l.length : Int) := rfl
  unfold szSS
  rw [hn]
  by_cases c : a - (l.length : Int) < 0
  · simp only [if_pos c]; exact Ev.val rfl
  · simp only [if_neg c]
    refine ev_loop l (F := fun k s i => laws_szIntSS.l0 k l s i) (fun _ _ s => 0 ≤ s ∧ s ≤ 1048576) (fun _ r s => szL (fun x a => szN x.length a) r s) ?_ ?_ (a - (l.length : Int)) ⟨by omega, by omega⟩
    · intro s _
      simp only [laws_szIntSS.l0, end_lt, if_false, szL]
      exact Ev.now _
    · rintro pre x rest s e ⟨hs0, hs1⟩ ih
      have hxx := hx x (by rw [e]; simp)
      subst e
      simp only [laws_szIntSS.l0, mid_lt, mid_nn, mid_wrap h, if_true, rd_L2, Int.toNat_natCast, mid_get, szIntS_eq x s hxx hs0 hs1, Option.bind_some, szL]
      rcases szN_tells x.length s hs0 with hn | ⟨h2, h3, h4⟩
      · rw [hn]; exact Ev.now _
      · have c2 : ¬ szN x.length s < 0 := by omega
        simp only [if_neg c2]
        exact ih _ ⟨h2, by omega⟩
theorem toIntS_ev (l : List Int) (h : (l.length : Int) ≤ 1048576) : Ev (fun k => laws_toIntS.f k l) l := by
  have hm : l.length ≤ maxLen := by rw [maxLen_eq]; omega
  simp only [laws_toIntS.f]
  refine Ev.ite (fun _ => Ev.ite (fun _ => ?_) (fun c => absurd (by omega) c)) (fun c => absurd (by omega) c)
  have := ev_fill l id (F := fun k s i => laws_toIntS.l0 k l s i) (fun s => by
    simp only [laws_toIntS.l0, end_lt, if_false]
    exact Ev.now _) (fun pre x rest s r e hs h => by
    subst e
    simp only [laws_toIntS.l0, hs, mid_lt, mid_nn, mid_wrap hm, if_true, rd, Int.toNat_natCast, mid_get]
    exact h) (List.replicate ((l.length : Int) : Int).toNat 0) (by simp)
  simpa using this
theorem toIntSS_ev (l : List (List Int)) (h : (l.length : Int) ≤ 1048576) (hx : ∀ x ∈ l, (x.length : Int) ≤ 1048576) : Ev (fun k => laws_toIntSS.f k l) l := by
  have hm : l.length ≤ maxLen := by rw [maxLen_eq]; omega
  simp only [laws_toIntSS.f]
  refine Ev.ite (fun _ => Ev.ite (fun _ => ?_) (fun c => absurd (by omega) c)) (fun c => absurd (by omega) c)
  have := ev_fill l id (F := fun k s i => laws_toIntSS.l0 k l s i) (fun s => by
    simp only [laws_toIntSS.l0, end_lt, if_false]
    exact Ev.now _) (fun pre x rest s r e hs h => by
    have hxx := hx x (by rw [e]; simp)
    subst e
    simp only [laws_toIntSS.l0, hs, mid_lt, mid_nn, mid_wrap hm, if_true, rd_L2, Int.toNat_natCast, mid_get]
    exact Ev.bind (toIntS_ev x hxx) h) (List.replicate ((l.length : Int) : Int).toNat []) (by simp)
  simpa using this
theorem eqIntS_ev (l : List Int) (hm : l.length ≤ maxLen) : Ev (fun k => laws_eqIntS.f k l l) true := by
  simp only [laws_eqIntS.f, if_true]
  refine ev_loop0 l (F := fun k i => laws_eqIntS.l0 k l l i) (fun _ _ => true) ?_ (fun pre x rest e h => ?_)
  · simp only [laws_eqIntS.l0, end_lt, if_false]; exact Ev.now _
  · subst e
    simp only [laws_eqIntS.l0, mid_lt, mid_nn, mid_wrap hm, if_true]
    exact h
theorem eqIntSS_ev (l : List (List Int)) (hm : l.length ≤ maxLen) (hx : ∀ x ∈ l, x.length ≤ maxLen) : Ev (fun k => laws_eqIntSS.f k l l) true := by
  simp only [laws_eqIntSS.f, if_true]
  refine ev_loop0 l (F := fun k i => laws_eqIntSS.l0 k l l i) (fun _ _ => true) ?_ (fun pre x rest e h => ?_)
  · simp only [laws_eqIntSS.l0, end_lt, if_false]; exact Ev.now _
  · have hxx := hx x (by rw [e]; simp)
    subst e
    simp only [laws_eqIntSS.l0, mid_lt, mid_nn, mid_wrap hm, if_true, rd_L2, Int.toNat_natCast, mid_get]
    exact Ev.bind (eqIntS_ev x hxx) h
theorem eqPackedS_ev (l : List S40) (hm : l.length ≤ maxLen) (hx : ∀ x ∈ l, x.f1.length ≤ maxLen) : Ev (fun k => laws_eqPackedS.f k l l) true := by
  simp only [laws_eqPackedS.f, if_true]
  refine ev_loop0 l (F := fun k i => laws_eqPackedS.l0 k l l i) (fun _ _ => true) ?_ (fun pre x rest e h => ?_)
  · simp only [laws_eqPackedS.l0, end_lt, if_false]; exact Ev.now _
  · have hxx := hx x (by rw [e]; simp)
    subst e
    simp only [laws_eqPackedS.l0, mid_lt, mid_nn, mid_wrap hm, if_true, rd_T40, Int.toNat_natCast, mid_get, laws_eqPacked.f, bne_self_eq_false, Bool.false_eq_true, if_false]
    exact Ev.bind (Ev.bind (eqIntS_ev x.f1 hxx) (Ev.now _)) h
theorem markIntS_ev (l : List Int) (a : Int) (hm : l.length ≤ maxLen) (h0 : 0 ≤ a) (h1 : a + l.length ≤ 9223372036854775806) : Ev (fun k => laws_markIntS.f k l a) (a + l.length, iota 1 id a l.length) := by
  simp only [laws_markIntS.f]
  refine ev_loop l (F := fun k (s : List Int × Int) i => laws_markIntS.l0 k s.1 s.2 i) (fun pre rest s => s.1 = iota 1 id a pre.length ++ rest ∧ s.2 = a + 1 * pre.length) (fun _ _ _ => (a + l.length, iota 1 id a l.length)) ?_ ?_ (l, a) ⟨rfl, by simp⟩
  · rintro ⟨s, b⟩ ⟨rfl, rfl⟩
    have hl : ((iota 1 id a l.length ++ ([] : List Int)).length : Int) = l.length := by simp [iota_length]
    simp only [laws_markIntS.l0, hl, end_lt, if_false]
    exact Ev.val (by simp)
  · rintro pre x rest ⟨s, b⟩ e ⟨rfl, rfl⟩ ih
    subst e
    have hl : ((iota 1 id a pre.length ++ x :: rest).length : Int) = ((pre ++ x :: rest).length : Int) := by simp [iota_length]
    have hlen := mid_len (pre := pre) (rest := rest) (x := x)
    have hs := iota_set 1 id a pre rest x
    have hw : wrap64 (a + 1 * (pre.length : Int) + 1) = a + 1 * ((pre ++ [x]).length : Int) := by rw [wrap_id (by omega) (by omega)]; simp; omega
    simp only [laws_markIntS.l0, hl, mid_lt, mid_nn, mid_wrap hm, if_true, Int.toNat_natCast, hw]
    exact ih (_, _) ⟨hs, rfl⟩
theorem heldIntS_ev (n : Nat) (a : Int) (h0 : 0 ≤ a) (h1 : a + n ≤ 9223372036854775806) : Ev (fun k => laws_heldIntS.f k (iota 1 id a n) a) (a + n) := by
  have hm : (iota 1 id a n).length ≤ maxLen := by rw [iota_length, maxLen_eq]; omega
  simp only [laws_heldIntS.f]
  refine ev_loop (iota 1 id a n) (F := fun k s i => laws_heldIntS.l0 k (iota 1 id a n) s i) (fun pre rest s => s = a + 1 * pre.length) (fun _ _ _ => a + n) ?_ ?_ a (by simp)
  · rintro s rfl
    simp only [laws_heldIntS.l0, end_lt, if_false]
    exact Ev.val (by rw [iota_length]; omega)
  · rintro pre x rest s e rfl ih
    have hx := iota_mid 1 id pre rest x a n e
    have hn := congrArg List.length e
    rw [iota_length] at hn
    have hlen := mid_len (pre := pre) (rest := rest) (x := x)
    rw [e] at hm ⊢
    rw [e] at ih
    have hw : wrap64 (a + 1 * (pre.length : Int) + 1) = a + 1 * ((pre ++ [x]).length : Int) := by rw [wrap_id (by omega) (by omega)]; simp; omega
    have hx' : x = a + 1 * (pre.length : Int) := hx
    simp only [laws_heldIntS.l0, mid_lt, mid_nn, mid_wrap hm, if_true, rd, Int.toNat_natCast, mid_get, if_pos hx', hw]
    exact ih _ rfl
end Go.Proofs.Ytcalgoembdmlkaa.Pure
namespace Go.Proofs.Ytcalgoembdmlkaa.Pure
open Go.RowKit Go.Proofs.Ytcalgoembdmlkaa.QFnExactPackRows Go.Proofs.YtcalgoembdmlkaaW.PrintWords Go.Proofs.YtcalgoembdmlkaaW.PrintLast Go.Proofs.Ytcalgoembdmlkaa.Plain

theorem eqPacked_ev (b : Bool) (l : List Int) (hm : l.length ≤ maxLen) : Ev (fun k => laws_eqPacked.f k b l b l) true := by
  simp only [laws_eqPacked.f, bne_self_eq_false, Bool.false_eq_true, if_false]
  exact Ev.bind (eqIntS_ev l hm) (Ev.now _)
end Go.Proofs.Ytcalgoembdmlkaa.Pure
namespace Go.Proofs.Ytcalgoembdmlkaa.Pure
open Go.RowKit Go.Proofs.Ytcalgoembdmlkaa.QFnExactPackRows Go.Proofs.YtcalgoembdmlkaaW.PrintWords Go.Proofs.YtcalgoembdmlkaaW.PrintLast Go.Proofs.Ytcalgoembdmlkaa.Plain

theorem within_eq (a b c : Int) : impl_within.f a b c = some (inB a b c) := by unfold impl_within.f inB; by_cases h : b ≤ a <;> simp [h]
theorem l01In_eq (a b c : Int) : spec_l01In.f a b c = some (inB a b c) := by unfold spec_l01In.f inB; by_cases h : b ≤ a <;> simp [h]
def coord (a : Int) : Bool := inB a (-200) 200
def boxOk (a b c d : Int) : Bool := coord a && (coord b && (coord c && (coord d && (decide (a ≤ c) && decide (b ≤ d)))))
def rowOk (l : List Int) : Bool := decide ((l.length : Int) = 32) && l.all fun v => inB v 0 255
def rowsOk (l : List (List Int)) : Bool := decide ((l.length : Int) ≤ 32) && l.all rowOk
theorem rowOk_ev (l : List Int) : Ev (fun k => impl_rowOk.f k l) (rowOk l) := by
  simp only [impl_rowOk.f]
  refine Ev.andP (fun c => ?_)
  have hm : l.length ≤ maxLen := by rw [maxLen_eq]; omega
  clear c
  refine ev_loop0 l (F := fun k i => impl_rowOk.l0 k l l.length i) (fun _ r => r.all fun v => inB v 0 255) ?_ (fun pre x rest e h => ?_)
  · simp only [impl_rowOk.l0, end_lt, if_false]; exact Ev.now _
  · subst e
    simp only [impl_rowOk.l0, mid_lt, mid_nn, mid_wrap hm, if_true, rd, Int.toNat_natCast, mid_get, within_eq, Option.bind_some]
    exact Ev.andB (fun _ => h)
theorem iRowsOk_ev (l : List (List Int)) : Ev (fun k => impl_RowsOk.f k l) (rowsOk l) := by
  simp only [impl_RowsOk.f, rowsOk]
  refine Ev.ite (fun c => Ev.val (by simp; omega)) (fun c => ?_)
  have hm : l.length ≤ maxLen := by rw [maxLen_eq]; omega
  have hd : decide ((l.length : Int) ≤ 32) = true := by simp; omega
  rw [hd, Bool.true_and]
  clear c hd
  refine ev_loop0 l (F := fun k i => impl_RowsOk.l0 k l l.length i) (fun _ r => r.all rowOk) ?_ (fun pre x rest e h => ?_)
  · simp only [impl_RowsOk.l0, end_lt, if_false]; exact Ev.now _
  · subst e
    simp only [impl_RowsOk.l0, mid_lt, mid_nn, mid_wrap hm, if_true, rd_L2, Int.toNat_natCast, mid_get]
    exact Ev.bind (rowOk_ev x) (Ev.andB (fun _ => h))
theorem l11Row_ev (l : List Int) (hm : l.length ≤ maxLen) : Ev (fun k => spec_l11Row.f k l) (rowOk l) := by
  simp only [spec_l11Row.f]
  unfold rowOk
  rw [Bool.and_comm]
  refine ev_loop0 l (F := fun k i => spec_l11Row.l0 k l i) (fun _ r => (r.all fun v => inB v 0 255) && decide ((l.length : Int) = 32)) ?_ (fun pre x rest e h => ?_)
  · simp only [spec_l11Row.l0, end_lt, if_false]; exact Ev.now _
  · rw [List.all_cons, Bool.and_assoc]
    subst e
    simp only [spec_l11Row.l0, mid_lt, mid_nn, mid_wrap hm, if_true, rd, Int.toNat_natCast, mid_get, l01In_eq, Option.bind_some]
    exact Ev.andB (fun _ => h)
theorem sRowsOk_ev (l : List (List Int)) (hm : l.length ≤ maxLen) (hx : ∀ x ∈ l, x.length ≤ maxLen) : Ev (fun k => spec_RowsOk.f k l) (rowsOk l) := by
  simp only [spec_RowsOk.f]
  unfold rowsOk
  rw [Bool.and_comm]
  refine ev_loop0 l (F := fun k i => spec_RowsOk.l0 k l i) (fun _ r => r.all rowOk && decide ((l.length : Int) ≤ 32)) ?_ (fun pre x rest e h => ?_)
  · simp only [spec_RowsOk.l0, end_lt, if_false]; exact Ev.now _
  · have hxx := hx x (by rw [e]; simp)
    rw [List.all_cons, Bool.and_assoc]
    subst e
    simp only [spec_RowsOk.l0, mid_lt, mid_nn, mid_wrap hm, if_true, rd_L2, Int.toNat_natCast, mid_get]
    exact Ev.bind (l11Row_ev x hxx) (Ev.andB (fun _ => h))

def stepR (s : List S112) (v : Int) : List S112 :=
  match s.getLast? with
  | some r => if r.f0 = v then s.dropLast ++ [⟨r.f0, r.f1 + 1⟩] else s ++ [⟨v, 1⟩]
  | none => [⟨v, 1⟩]
def runsGo : List Int → List S112 → List S112
  | [], s => s
  | v :: r, s => if inB v 0 255 = true then runsGo r (stepR s v) else []
def runsOf (l : List Int) : List S112 := if (l.length : Int) > 32 then [] else runsGo l []
/-- What holds of the runs so far: no more than there were values, each at least one. -/
def RunsInv (n : Nat) (s : List S112) : Prop := s.length ≤ n ∧ ∀ r ∈ s, 1 ≤ r.f1 ∧ r.f1 ≤ n
theorem stepR_inv {n : Nat} {s : List S112} (v : Int) (h : RunsInv n s) : RunsInv (n + 1) (stepR s v) := by
  obtain ⟨h1, h2⟩ := h
  unfold stepR
  cases e : s.getLast? with
  | none => exact ⟨by simp, by simp; omega⟩
  | some r =>
    have hr : r ∈ s := List.mem_of_getLast? e
    have hr2 := h2 r hr
    have hne : s ≠ [] := by rintro rfl; simp at e
    have hpos : 0 < s.length := List.length_pos_iff.2 hne
    simp only
    split
    · refine ⟨by simp; omega, fun q hq => ?_⟩
      rcases List.mem_append.1 hq with hq | hq
      · have := h2 q ((List.dropLast_sublist s).subset hq); omega
      · rw [List.mem_singleton] at hq; subst hq; simp; omega
    · refine ⟨by simp; omega, fun q hq => ?_⟩
      rcases List.mem_append.1 hq with hq | hq
      · have := h2 q hq; omega
      · rw [List.mem_singleton] at hq; subst hq; simp; omega
theorem runsGo_inv : ∀ (l : List Int) (n : Nat) (s : List S112), RunsInv n s → RunsInv (n + l.length) (runsGo l s)
  | [], n, s, h => by simpa [runsGo] using h
  | v :: r, n, s, h => by
    unfold runsGo
    split
    · have := runsGo_inv r (n + 1) _ (stepR_inv v h)
      rw [List.length_cons]
      rwa [show n + (r.length + 1) = n + 1 + r.length by omega]
    · exact ⟨by simp, by simp⟩
theorem runsOf_inv (l : List Int) : RunsInv 32 (runsOf l) := by
  unfold runsOf
  split
  · exact ⟨by simp, by simp⟩
  · have h := runsGo_inv l 0 [] ⟨by simp, by simp⟩
    refine ⟨by have := h.1; omega, fun r hr => by have := h.2 r hr; omega⟩
/-- One value: what both programs do, in one word. -/
theorem step_round {β : Type} {n : Nat} (s : List S112) (hs : RunsInv n s) (hn : n ≤ 32) (v : Int) (G : Nat → List S112 → Option β) (r : β) (h : Ev (fun k => G k (stepR s v)) r) :
    Ev (fun k => if (s.length : Int) > 0 then (if 0 ≤ (wrap64 ((s.length : Int) - 1)) then (if (wrap64 ((s.length : Int) - 1)) < (s.length : Int) then (if ((rd_T112 s (wrap64 ((s.length : Int) - 1))).f0) = v then (G k (s.set ((wrap64 ((s.length : Int) - 1)) : Int).toNat (⟨(rd_T112 s (wrap64 ((s.length : Int) - 1))).f0, wrap64 (((rd_T112 s (wrap64 ((s.length : Int) - 1))).f1) + 1)⟩ : S112))) else (if s.length < 8796093022208 then (G k (s ++ [(⟨v, 1⟩ : S112)])) else (none))) else (none)) else (none)) else (if s.length < 8796093022208 then (G k (s ++ [(⟨v, 1⟩ : S112)])) else (none))) r := by
  have hsl := hs.1
  have c4 : s.length < 8796093022208 := by omega
  rcases List.eq_nil_or_concat s with rfl | ⟨q, y, rfl⟩
  · have c0 : ¬ (([] : List S112).length : Int) > 0 := by simp
    simp only [if_neg c0, if_pos c4]
    exact h
  · rw [List.concat_eq_append] at *
    have c0 : ((q ++ [y]).length : Int) > 0 := by simp <;> omega
    have e1 : wrap64 (((q ++ [y]).length : Int) - 1) = (q.length : Int) := by rw [wrap_id (by simp <;> omega) (by omega)]; simp
    have c2 : (q.length : Int) < ((q ++ [y]).length : Int) := by simp <;> omega
    have e2 : rd_T112 (q ++ [y]) (q.length : Int) = y := by simp [rd_T112, List.getD_eq_getElem?_getD]
    have hy := hs.2 y (by simp)
    have e3 : wrap64 (y.f1 + 1) = y.f1 + 1 := wrap_id (by omega) (by omega)
    have e4 : (q ++ [y]).set q.length (⟨y.f0, y.f1 + 1⟩ : S112) = q ++ [⟨y.f0, y.f1 + 1⟩] := by rw [List.set_append_right _ _ (Nat.le_refl _)]; simp
    simp only [if_pos c0, e1, mid_nn, if_true, if_pos c2, e2, e3, Int.toNat_natCast, e4, if_pos c4]
    unfold stepR at h
    simp only [List.getLast?_append, List.getLast?_singleton, Option.some_or, List.dropLast_concat] at h
    by_cases c : y.f0 = v
    · simp only [if_pos c] at h ⊢; exact h
    · simp only [if_neg c] at h ⊢; exact h
theorem iRunsOf_ev (l : List Int) : Ev (fun k => impl_RunsOf.f k l) (runsOf l) := by
  simp only [impl_RunsOf.f]
  unfold runsOf
  by_cases c : (l.length : Int) > 32
  · simp only [if_pos c]; exact Ev.now _
  · simp only [if_neg c]
    have hm : l.length ≤ maxLen := by rw [maxLen_eq]; omega
    refine ev_loop l (F := fun k s i => impl_RunsOf.l0 k s l l.length i) (fun p _ s => RunsInv p.length s) (fun _ r s => runsGo r s) ?_ ?_ [] ⟨by simp, by simp⟩
    · intro s _; simp only [impl_RunsOf.l0, end_lt, if_false]; exact Ev.now _
    · rintro pre x rest s e hI ih
      have hn : pre.length ≤ 32 := by rw [e] at c; simp at c; omega
      clear c
      subst e
      simp only [impl_RunsOf.l0, mid_lt, mid_nn, mid_wrap hm, if_true, rd, Int.toNat_natCast, mid_get, within_eq, Option.bind_some, runsGo]
      by_cases cx : inB x 0 255 = true
      · simp only [if_pos cx]
        exact step_round s hI hn x (fun k s' => impl_RunsOf.l0 k s' (pre ++ x :: rest) ((pre ++ x :: rest).length : Int) ((pre ++ [x]).length : Int)) _ (ih _ (by rw [List.length_append]; exact stepR_inv x hI))
      · simp only [if_neg cx]; exact Ev.now _
theorem sRunsOf_ev (l : List Int) : Ev (fun k => spec_RunsOf.f k l) (runsOf l) := by
  simp only [spec_RunsOf.f, Option.bind_some]
  unfold runsOf
  by_cases c : (l.length : Int) > 32
  · simp only [if_pos c]; exact Ev.now _
  · simp only [if_neg c]
    have hm : l.length ≤ maxLen := by rw [maxLen_eq]; omega
    refine ev_loop l (F := fun k s i => spec_RunsOf.l0 k l s i) (fun p _ s => RunsInv p.length s) (fun _ r s => runsGo r s) ?_ ?_ [] ⟨by simp, by simp⟩
    · intro s _; simp only [spec_RunsOf.l0, end_lt, if_false]; exact Ev.now _
    · rintro pre x rest s e hI ih
      have hn : pre.length ≤ 32 := by rw [e] at c; simp at c; omega
      clear c
      subst e
      simp only [spec_RunsOf.l0, mid_lt, mid_nn, mid_wrap hm, if_true, rd, Int.toNat_natCast, mid_get, l01In_eq, Option.bind_some, runsGo]
      by_cases cx : inB x 0 255 = true
      · simp only [if_pos cx]
        exact step_round s hI hn x (fun k s' => spec_RunsOf.l0 k (pre ++ x :: rest) s' ((pre ++ [x]).length : Int)) _ (ih _ (by rw [List.length_append]; exact stepR_inv x hI))
      · simp only [if_neg cx]; exact Ev.now _
end Go.Proofs.Ytcalgoembdmlkaa.Pure
namespace Go.Proofs.Ytcalgoembdmlkaa.Pure
open Go.RowKit Go.Proofs.Ytcalgoembdmlkaa.QFnExactPackRows Go.Proofs.YtcalgoembdmlkaaW.PrintWords Go.Proofs.YtcalgoembdmlkaaW.PrintLast Go.Proofs.Ytcalgoembdmlkaa.Plain

def flatR : List S112 → List Int
  | [] => []
  | x :: r => x.f0 :: x.f1 :: flatR r
theorem flatR_len : ∀ l : List S112, (flatR l).length = 2 * l.length
  | [] => rfl
  | x :: r => by simp [flatR, flatR_len r]; omega
def packRow (l : List Int) : Bool × List Int := if rowOk l = true then (if 2 * ((runsOf l).length : Int) ≥ 32 then (true, l) else (false, flatR (runsOf l))) else (false, [])
theorem rowOk_len {l : List Int} (h : rowOk l = true) : l.length = 32 := by unfold rowOk at h; simp at h; omega
theorem packRow_len (l : List Int) : (packRow l).2.length ≤ 32 := by
  unfold packRow
  split
  case isTrue c =>
    split
    · simp [rowOk_len c]
    · rw [flatR_len]; omega
  case isFalse => simp
theorem clone_eq (l : List Int) (h : l.length ≤ 64) : slices_Clone_int_int.f l = some l := by
  have c : l.length < 17592186044416 := by omega
  simp [slices_Clone_int_int.f, c]
theorem iPackRow_ev (l : List Int) : Ev (fun k => impl_PackRow.f k l) (packRow l) := by
  simp only [impl_PackRow.f]
  unfold packRow
  refine Ev.bind (rowOk_ev l) (Ev.ite (fun c => ?_) (fun c => ?_))
  · rw [if_pos c]
    refine Ev.bind (iRunsOf_ev l) ?_
    have hR := (runsOf_inv l).1
    have hl := rowOk_len c
    generalize runsOf l = q at hR ⊢
    have hm : q.length ≤ maxLen := by rw [maxLen_eq]; omega
    refine ev_loop q (F := fun k s i => impl_PackRow.l0 k l s q q.length i) (fun p _ s => s.length = 2 * p.length) (fun _ r s => if 2 * (q.length : Int) ≥ 32 then (true, l) else (false, s ++ flatR r)) ?_ ?_ [] rfl
    · intro s hs
      simp only [impl_PackRow.l0, end_lt, if_false, clone_eq l (by omega), Option.bind_some]
      by_cases cn : (s.length : Int) < 32
      · simp only [if_pos cn]; rw [if_neg (by omega)]; exact Ev.val (by simp [flatR])
      · simp only [if_neg cn]; rw [if_pos (by omega)]; exact Ev.now _
    · rintro pre x rest s e hs ih
      have hql : (q.length : Int) = (pre ++ x :: rest).length := by rw [e]
      have hq2 : q.length ≤ 32 := hR
      subst e
      have hp : pre.length < 32 := by simp at hR; omega
      have c4 : s.length + [x.f0, x.f1].length < 17592186044416 := by simp; omega
      simp only [impl_PackRow.l0, mid_lt, mid_nn, mid_wrap hm, if_true, rd_T112, Int.toNat_natCast, mid_get, Option.bind_some, if_pos c4]
      have := ih (s ++ [x.f0, x.f1]) (by simp; omega)
      simpa [flatR] using this
  · rw [if_neg c]; exact Ev.now _
theorem l05Copy_eq (l : List Int) (h : l.length ≤ 64) : spec_l05Copy.f l = some l := by
  have c : l.length < 17592186044416 := by omega
  simp [spec_l05Copy.f, c]
theorem sPackRow_ev (l : List Int) (hlm : l.length ≤ maxLen) : Ev (fun k => spec_PackRow.f k l) (packRow l) := by
  simp only [spec_PackRow.f]
  unfold packRow
  refine Ev.bind (l11Row_ev l hlm) (Ev.ite (fun c => ?_) (fun c => ?_))
  · rw [if_pos c]
    refine Ev.bind (sRunsOf_ev l) ?_
    have hR := (runsOf_inv l).1
    have hl := rowOk_len c
    generalize runsOf l = q at hR ⊢
    have hm : q.length ≤ maxLen := by rw [maxLen_eq]; omega
    have hw : wrap64 (2 * (q.length : Int)) = 2 * q.length := wrap_id (by omega) (by omega)
    simp only [hw]
    refine Ev.ite (fun cn => ?_) (fun cn => ?_)
    · rw [if_pos cn]
      simp only [l05Copy_eq l (by omega), Option.bind_some]
      exact Ev.now _
    · rw [if_neg cn]
      refine ev_loop q (F := fun k s i => spec_PackRow.l0 k q i false s) (fun p _ s => s.length = 2 * p.length) (fun _ r s => (false, s ++ flatR r)) ?_ ?_ [] rfl
      · intro s hs
        simp only [spec_PackRow.l0, end_lt, if_false]
        exact Ev.val (by simp [flatR])
      · rintro pre x rest s e hs ih
        subst e
        have hp : pre.length < 32 := by simp at hR; omega
        have c4 : s.length + [x.f0, x.f1].length < 17592186044416 := by simp; omega
        simp only [spec_PackRow.l0, mid_lt, mid_nn, mid_wrap hm, if_true, rd_T112, Int.toNat_natCast, mid_get, Option.bind_some, if_pos c4]
        have := ih (s ++ [x.f0, x.f1]) (by simp; omega)
        simpa [flatR] using this
  · rw [if_neg c]; exact Ev.now _

end Go.Proofs.Ytcalgoembdmlkaa.Pure
namespace Go.Proofs.Ytcalgoembdmlkaa.Pure
open Go.RowKit Go.Proofs.Ytcalgoembdmlkaa.QFnExactPackRows Go.Proofs.YtcalgoembdmlkaaW.PrintWords Go.Proofs.YtcalgoembdmlkaaW.PrintLast Go.Proofs.Ytcalgoembdmlkaa.Plain

abbrev BoxT := Int × Int × Int × Int
theorem mx_self (a : Int) : mx a a = a := by unfold mx; split <;> rfl
theorem mn_self (a : Int) : mn a a = a := by unfold mn; split <;> rfl
theorem mx_comm (a b : Int) : mx a b = mx b a := by unfold mx; omega
theorem mn_comm (a b : Int) : mn a b = mn b a := by unfold mn; omega
def meet (p q : BoxT) : BoxT := if boxOk p.1 p.2.1 p.2.2.1 p.2.2.2 = true ∧ boxOk q.1 q.2.1 q.2.2.1 q.2.2.2 = true ∧ mx p.1 q.1 < mn p.2.2.1 q.2.2.1 ∧ mx p.2.1 q.2.1 < mn p.2.2.2 q.2.2.2 then (mx p.1 q.1, mx p.2.1 q.2.1, mn p.2.2.1 q.2.2.1, mn p.2.2.2 q.2.2.2) else (0, 0, 0, 0)
/-- A loop that counts from lo to hi. -/
theorem ev_range {σ β : Type} {F : Nat → σ → Int → Option β} (lo hi : Int) (hlh : lo ≤ hi) (Inv : Int → σ → Prop) (r : β)
    (hnil : ∀ s, Inv hi s → Ev (fun k => F (k + 1) s hi) r)
    (hcons : ∀ i s, lo ≤ i → i < hi → Inv i s → (∀ s', Inv (i + 1) s' → Ev (fun k => F k s' (i + 1)) r) → Ev (fun k => F (k + 1) s i) r) :
    ∀ s, Inv lo s → Ev (fun k => F k s lo) r := by
  have main : ∀ (n : Nat) (i : Int) (s : σ), lo ≤ i → i + n = hi → Inv i s → Ev (fun k => F k s i) r := by
    intro n
    induction n with
    | zero =>
      intro i s h0 h1 hI
      have e : i = hi := by omega
      subst e
      exact Ev.up (hnil s hI)
    | succ n ih =>
      intro i s h0 h1 hI
      exact Ev.up (hcons i s h0 (by omega) hI (fun s' hI' => ih (i + 1) s' (by omega) (by omega) hI'))
  intro s hI
  exact main (hi - lo).toNat lo s (by omega) (by omega) hI
def inPage (p : BoxT) : Prop := 0 ≤ p.1 ∧ p.1 ≤ p.2.2.1 ∧ p.2.2.1 ≤ 32 ∧ 0 ≤ p.2.1 ∧ p.2.1 ≤ p.2.2.2 ∧ p.2.2.2 ≤ 32
theorem meet_page (p : BoxT) : inPage (meet p (0, 0, 32, 32)) := by
  unfold meet
  by_cases c : boxOk p.1 p.2.1 p.2.2.1 p.2.2.2 = true ∧ boxOk 0 0 32 32 = true ∧ mx p.1 0 < mn p.2.2.1 32 ∧ mx p.2.1 0 < mn p.2.2.2 32
  · rw [if_pos c]
    obtain ⟨_, _, h3, h4⟩ := c
    unfold inPage
    simp only
    unfold mx mn at *
    omega
  · rw [if_neg c]; simp [inPage]
def cntD (p : BoxT) : Int := if boxOk p.1 p.2.1 p.2.2.1 p.2.2.2 = true then wrap64 (wrap64 (p.2.2.1 - p.1) * wrap64 (p.2.2.2 - p.2.1)) else 0
end Go.Proofs.Ytcalgoembdmlkaa.Pure
namespace Go.Proofs.Ytcalgoembdmlkaa.Pure
open Go.RowKit Go.Proofs.Ytcalgoembdmlkaa.QFnExactPackRows Go.Proofs.YtcalgoembdmlkaaW.PrintWords Go.Proofs.YtcalgoembdmlkaaW.PrintLast Go.Proofs.Ytcalgoembdmlkaa.Plain

section
variable {α : Type} (mk : Int → α → α) (ln : α → Int)
def mkAll : Int → List α → List α
  | _, [] => []
  | a, x :: r => mk a x :: mkAll (a + ln x) r
def lnAll : List α → Int
  | [] => 0
  | x :: r => ln x + lnAll r
theorem mkAll_length : ∀ (a : Int) (l : List α), (mkAll mk ln a l).length = l.length
  | _, [] => rfl
  | a, x :: r => by simp [mkAll, mkAll_length (a + ln x) r]
theorem lnAll_nn : ∀ l : List α, (∀ x ∈ l, 0 ≤ ln x) → 0 ≤ lnAll ln l
  | [], _ => Int.le_refl _
  | x :: r, h => by
    have h1 := h x (by simp)
    have h2 := lnAll_nn r (fun y hy => h y (by simp [hy]))
    unfold lnAll; omega
theorem lnAll_le : ∀ l : List α, (∀ x ∈ l, ln x ≤ 4194304) → lnAll ln l ≤ 4194304 * l.length
  | [], _ => by simp [lnAll]
  | x :: r, h => by
    have h1 := h x (by simp)
    have h2 := lnAll_le r (fun y hy => h y (by simp [hy]))
    unfold lnAll; rw [List.length_cons]; omega
theorem ev_mark (xs : List α) {F : Nat → List α → Int → Int → Option (Int × List α)} (a : Int) (hn : ∀ x ∈ xs, 0 ≤ ln x)
    (hnil : ∀ s b, s.length = xs.length → Ev (fun k => F (k + 1) s b (xs.length : Int)) (b, s))
    (hcons : ∀ (done : List α) x rest b, done.length + (rest.length + 1) = xs.length → x ∈ xs → a ≤ b → b + ln x ≤ a + lnAll ln xs → ∀ r, Ev (fun k => F k (done ++ mk b x :: rest) (b + ln x) ((done.length : Int) + 1)) r → Ev (fun k => F (k + 1) (done ++ x :: rest) b (done.length : Int)) r) :
    Ev (fun k => F k xs a 0) (a + lnAll ln xs, mkAll mk ln a xs) := by
  have main : ∀ (rest done : List α) (b : Int), done.length + rest.length = xs.length → (∀ x ∈ rest, x ∈ xs) → a ≤ b → b + lnAll ln rest = a + lnAll ln xs → Ev (fun k => F k (done ++ rest) b (done.length : Int)) (a + lnAll ln xs, done ++ mkAll mk ln b rest) := by
    intro rest
    induction rest with
    | nil =>
      intro done b hl _ _ hb
      have h := hnil (done ++ []) b (by simpa using hl)
      have e : (done.length : Int) = xs.length := by simp at hl; omega
      have e2 : b = a + lnAll ln xs := by simpa [lnAll] using hb
      rw [e, ← e2]
      simpa [mkAll] using Ev.up (g := fun k => F k (done ++ []) b (xs.length : Int)) h
    | cons x rest ih =>
      intro done b hl hm hab hb
      have hx := hm x (by simp)
      have h0 := hn x hx
      have h1 := lnAll_nn ln rest (fun y hy => hn y (hm y (by simp [hy])))
      have hb' : ln x + lnAll ln rest + b = a + lnAll ln xs := by simp only [lnAll] at hb; omega
      refine Ev.up (hcons done x rest b (by simpa using hl) hx hab (by omega) _ ?_)
      have h := ih (done ++ [mk b x]) (b + ln x) (by simp at hl ⊢; omega) (fun y hy => hm y (by simp [hy])) (by omega) (by omega)
      have e : ((done ++ [mk b x]).length : Int) = (done.length : Int) + 1 := by simp
      rw [e] at h
      simpa [mkAll] using h
  simpa using main xs [] a (by simp) (fun _ h => h) (Int.le_refl _) rfl
theorem ev_held (xs : List α) {F : Nat → Int → Int → Option Int} (a : Int) (hn : ∀ x ∈ xs, 0 ≤ ln x)
    (hnil : ∀ b, Ev (fun k => F (k + 1) b ((mkAll mk ln a xs).length : Int)) b)
    (hcons : ∀ pre x rest b, mkAll mk ln a xs = pre ++ mk b x :: rest → x ∈ xs → a ≤ b → b + ln x ≤ a + lnAll ln xs → ∀ r, Ev (fun k => F k (b + ln x) ((pre.length : Int) + 1)) r → Ev (fun k => F (k + 1) b (pre.length : Int)) r) :
    Ev (fun k => F k a 0) (a + lnAll ln xs) := by
  have main : ∀ (rest : List α) (pre : List α) (b : Int), mkAll mk ln a xs = pre ++ mkAll mk ln b rest → (∀ x ∈ rest, x ∈ xs) → a ≤ b → b + lnAll ln rest = a + lnAll ln xs → Ev (fun k => F k b (pre.length : Int)) (a + lnAll ln xs) := by
    intro rest
    induction rest with
    | nil =>
      intro pre b he _ _ hb
      have e : mkAll mk ln a xs = pre := by simpa [mkAll] using he
      have e2 : b = a + lnAll ln xs := by simpa [lnAll] using hb
      have h := hnil b
      rw [e] at h
      rw [← e2]
      exact Ev.up h
    | cons x rest ih =>
      intro pre b he hm hab hb
      have hx := hm x (by simp)
      have h0 := hn x hx
      have h1 := lnAll_nn ln rest (fun y hy => hn y (hm y (by simp [hy])))
      have hb' : ln x + lnAll ln rest + b = a + lnAll ln xs := by simp only [lnAll] at hb; omega
      refine Ev.up (hcons pre x (mkAll mk ln (b + ln x) rest) b he hx hab (by omega) _ ?_)
      have h := ih (pre ++ [mk b x]) (b + ln x) (by rw [he]; simp [mkAll]) (fun y hy => hm y (by simp [hy])) (by omega) (by omega)
      have e : ((pre ++ [mk b x]).length : Int) = (pre.length : Int) + 1 := by simp
      rw [e] at h
      exact h
  simpa using main xs [] a rfl (fun _ h => h) (Int.le_refl _) rfl
end
theorem set_mid {α : Type} (done rest : List α) (x y : α) : (done ++ x :: rest).set done.length y = done ++ y :: rest := by
  rw [List.set_append_right _ _ (Nat.le_refl _), Nat.sub_self]; rfl
theorem mid_lt2 {α : Type} (done rest : List α) (x : α) : ((done.length : Int) < ((done ++ x :: rest).length : Int)) = True := mid_lt
theorem mid_w2 {n : Nat} (h : n + 1 ≤ maxLen) : wrap64 ((n : Int) + 1) = (n : Int) + 1 := by rw [maxLen_eq] at h; exact wrap_id (by omega) (by omega)
def mkI (b : Int) (x : List Int) : List Int := iota 1 id b x.length
def lnI (x : List Int) : Int := x.length
theorem markIntSS_ev (l : List (List Int)) (a : Int) (hm : l.length ≤ maxLen) (hx : ∀ x ∈ l, x.length ≤ maxLen) (h0 : 0 ≤ a) (h1 : a + lnAll lnI l ≤ 9223372036854775806) : Ev (fun k => laws_markIntSS.f k l a) (a + lnAll lnI l, mkAll mkI lnI a l) := by
  simp only [laws_markIntSS.f]
  refine ev_mark mkI lnI l a (fun x _ => by unfold lnI; omega) (fun s b hs => ?_) (fun done x rest b hl hxm hab hbl r ih => ?_)
  · simp only [laws_markIntSS.l0, hs, end_lt, if_false]; exact Ev.now _
  · simp only [laws_markIntSS.l0, mid_lt2, mid_nn, if_true, Int.toNat_natCast, mid_get, mid_w2 (show done.length + 1 ≤ maxLen by omega)]
    refine Ev.bind (markIntS_ev x b (hx x hxm) (by omega) (by rw [show lnI x = (x.length : Int) from rfl] at hbl; omega)) ?_
    simp only [set_mid]
    exact ih
def mkPk (b : Int) (x : S40) : S40 := ⟨Int.tmod b 3 == 0, iota 1 id (b + 1) x.f1.length⟩
def lnPk (x : S40) : Int := 1 + x.f1.length
theorem markPackedS_ev (l : List S40) (a : Int) (hm : l.length ≤ maxLen) (hx : ∀ x ∈ l, x.f1.length ≤ maxLen) (h0 : 0 ≤ a) (h1 : a + lnAll lnPk l ≤ 9223372036854775806) : Ev (fun k => laws_markPackedS.f k l a) (a + lnAll lnPk l, mkAll mkPk lnPk a l) := by
  simp only [laws_markPackedS.f]
  refine ev_mark mkPk lnPk l a (fun x _ => by unfold lnPk; omega) (fun s b hs => ?_) (fun done x rest b hl hxm hab hbl r ih => ?_)
  · simp only [laws_markPackedS.l0, hs, end_lt, if_false]; exact Ev.now _
  · rw [show lnPk x = 1 + (x.f1.length : Int) from rfl] at hbl
    have hw : wrap64 (b + 1) = b + 1 := wrap_id (by omega) (by omega)
    simp only [laws_markPackedS.l0, mid_lt2, mid_nn, if_true, Int.toNat_natCast, mid_get, mid_w2 (show done.length + 1 ≤ maxLen by omega), hw]
    refine Ev.bind (markIntS_ev x.f1 (b + 1) (hx x hxm) (by omega) (by omega)) ?_
    simp only [set_mid]
    rw [show b + 1 + (x.f1.length : Int) = b + lnPk x by unfold lnPk; omega]
    exact ih
theorem heldPackedS_ev (l : List S40) (a : Int) (hm : l.length ≤ maxLen) (h0 : 0 ≤ a) (h1 : a + lnAll lnPk l ≤ 9223372036854775806) : Ev (fun k => laws_heldPackedS.f k (mkAll mkPk lnPk a l) a) (a + lnAll lnPk l) := by
  simp only [laws_heldPackedS.f]
  refine ev_held mkPk lnPk l (F := fun k b i => laws_heldPackedS.l0 k (mkAll mkPk lnPk a l) b i) a (fun x _ => by unfold lnPk; omega) (fun b => ?_) (fun pre x rest b he hxm hab hbl r ih => ?_)
  · simp only [laws_heldPackedS.l0, end_lt, if_false]; exact Ev.now _
  · have hn := congrArg List.length he
    rw [mkAll_length, List.length_append, List.length_cons] at hn
    rw [show lnPk x = 1 + (x.f1.length : Int) from rfl] at hbl
    have hw : wrap64 (b + 1) = b + 1 := wrap_id (by omega) (by omega)
    rw [he] at ih ⊢
    simp only [laws_heldPackedS.l0, mid_lt2, mid_nn, if_true, rd_T40, Int.toNat_natCast, mid_get, mid_w2 (show pre.length + 1 ≤ maxLen by omega), mkPk, bne_self_eq_false, Bool.false_eq_true, if_false, hw]
    refine Ev.bind (heldIntS_ev x.f1.length (b + 1) (by omega) (by omega)) ?_
    simp only [if_neg (show ¬ b + 1 + (x.f1.length : Int) < 0 by omega)]
    rw [show b + 1 + (x.f1.length : Int) = b + lnPk x by unfold lnPk; omega]
    exact ih
end Go.Proofs.Ytcalgoembdmlkaa.Pure
namespace Go.Proofs.Ytcalgoembdmlkaa.Pure
open Go.RowKit Go.Proofs.Ytcalgoembdmlkaa.QFnExactPackRows Go.Proofs.YtcalgoembdmlkaaW.PrintWords Go.Proofs.YtcalgoembdmlkaaW.PrintLast Go.Proofs.Ytcalgoembdmlkaa.Plain

def pk (l : List Int) : S40 := ⟨(packRow l).1, (packRow l).2⟩
def packRows (l : List (List Int)) : List S40 := if rowsOk l = true then l.map pk else []
theorem rowsOk_len {l : List (List Int)} (h : rowsOk l = true) : l.length ≤ 32 := by unfold rowsOk at h; simp at h; omega
theorem packRows_len (l : List (List Int)) : (packRows l).length ≤ 32 := by
  unfold packRows
  split
  · rename_i h; rw [List.length_map]; exact rowsOk_len h
  · simp
theorem packRows_row {l : List (List Int)} {x : S40} (h : x ∈ packRows l) : x.f1.length ≤ 32 := by
  unfold packRows at h
  split at h
  · obtain ⟨y, _, rfl⟩ := List.mem_map.1 h; exact packRow_len y
  · simp at h
theorem iPackRows_ev (l : List (List Int)) (hm : l.length ≤ maxLen) : Ev (fun k => impl_PackRows.f k l) (packRows l) := by
  simp only [impl_PackRows.f]
  unfold packRows
  refine Ev.bind (iRowsOk_ev l) (Ev.ite (fun c => ?_) (fun c => ?_))
  · rw [if_pos c]
    have h32 := rowsOk_len c
    have h := ev_loop l (F := fun k (s : List S40) i => impl_PackRows.l0 k s l l.length i) (fun pre _ s => s = pre.map pk) (fun _ _ _ => l.map pk) ?_ ?_ [] rfl
    · exact h
    · rintro s rfl; simp only [impl_PackRows.l0, end_lt, if_false]; exact Ev.now _
    · rintro pre x rest s e rfl ih
      have hs : (pre.map pk).length < 4398046511104 := by rw [e] at h32; simp at h32 ⊢; omega
      have ih' := ih ((pre ++ [x]).map pk) rfl
      clear c ih
      have e' := e
      rw [e'] at hm
      have hget : (rd_L2 l (pre.length : Int)) = x := by rw [e]; exact mid_get _
      have hlt : ((pre.length : Int) < (l.length : Int)) := by rw [e]; simp; omega
      have hw := mid_wrap (pre := pre) (rest := rest) (x := x) hm
      simp only [impl_PackRows.l0, if_pos hlt, mid_nn, if_true, hget, hw, if_pos hs]
      refine Ev.bind (iPackRow_ev x) ?_
      simpa [pk] using ih'
  · rw [if_neg c]; exact Ev.now _
theorem sPackRows_ev (l : List (List Int)) (hm : l.length ≤ maxLen) (hx : ∀ x ∈ l, x.length ≤ maxLen) : Ev (fun k => spec_PackRows.f k l) (packRows l) := by
  simp only [spec_PackRows.f]
  unfold packRows
  by_cases c : rowsOk l = true
  · rw [if_pos c]
    have h32 := rowsOk_len c
    have h := ev_loop l (F := fun k (s : List S40) i => spec_PackRows.l0 k l s i) (fun pre _ s => s = pre.map pk) (fun _ _ _ => l.map pk) ?_ ?_ [] rfl
    · exact h
    · rintro s rfl; simp only [spec_PackRows.l0, end_lt, if_false]; exact Ev.now _
    · rintro pre x rest s e rfl ih
      have hs : (pre.map pk).length < 4398046511104 := by rw [e] at h32; simp at h32 ⊢; omega
      have ih' := ih ((pre ++ [x]).map pk) rfl
      have hv := sRowsOk_ev l hm hx
      rw [c] at hv
      have hxx := hx x (by rw [e]; simp)
      clear c ih
      have e' := e
      rw [e'] at hm
      have hget : (rd_L2 l (pre.length : Int)) = x := by rw [e]; exact mid_get _
      have hlt : ((pre.length : Int) < (l.length : Int)) := by rw [e]; simp; omega
      have hw := mid_wrap (pre := pre) (rest := rest) (x := x) hm
      simp only [spec_PackRows.l0, if_pos hlt]
      refine Ev.bind hv ?_
      simp only [mid_nn, if_true, hget, hw, if_pos hs]
      refine Ev.bind (sPackRow_ev x hxx) ?_
      simpa [pk] using ih'
  · rw [if_neg c]
    have c' : rowsOk l = false := by simpa using c
    refine Ev.up ?_
    simp only [spec_PackRows.l0]
    refine Ev.ite (fun _ => ?_) (fun _ => Ev.now _)
    have hv := sRowsOk_ev l hm hx
    rw [c'] at hv
    refine Ev.bind hv ?_
    simp only [Bool.false_eq_true, if_false]
    exact Ev.now _
end Go.Proofs.Ytcalgoembdmlkaa.Pure
namespace Go.Proofs.Ytcalgoembdmlkaa.Pure
open Go.RowKit Go.Proofs.Ytcalgoembdmlkaa.QFnExactPackRows Go.Proofs.YtcalgoembdmlkaaW.PrintWords Go.Proofs.YtcalgoembdmlkaaW.PrintLast Go.Proofs.Ytcalgoembdmlkaa.Plain

theorem FnExactPackRows (l : List (List Int)) (h : l.length ≤ maxLen ∧ ∀ y ∈ l, (y.length ≤ maxLen ∧ ∀ yy ∈ y, ((Lit.int .i64 yy).wf = true))) : ∃ k, laws_FnExactPackRows.f k l = some true := by
  refine Ev.rounds (g := fun k => laws_FnExactPackRows.f k l) ?_
  simp only [laws_FnExactPackRows.f]
  have hx0 : ∀ x ∈ l, x.length ≤ maxLen := fun x hx => (h.2 x hx).1
  refine Ev.bind (szIntSS_ev l 1048576 h.1 hx0 (by omega) (by omega)) (Ev.ite (fun _ => Ev.now _) (fun c => ?_))
  rcases szSS_tells l 1048576 (by omega) (by omega) with hn | ⟨_, _, hl, hlx⟩
  · omega
  have hto := toIntSS_ev l hl hlx
  have hI := iPackRows_ev l h.1
  have hL := packRows_len l
  have hM : (packRows l).length ≤ maxLen := by rw [maxLen_eq]; omega
  have hX : ∀ x ∈ packRows l, x.f1.length ≤ maxLen := fun x hx => by have := packRows_row hx; rw [maxLen_eq]; omega
  have hT : lnAll lnPk (packRows l) ≤ 4194304 * (packRows l).length := lnAll_le lnPk _ (fun x hx => by have := packRows_row hx; unfold lnPk; omega)
  have hN : 0 ≤ lnAll lnPk (packRows l) := lnAll_nn lnPk _ (fun x _ => by unfold lnPk; omega)
  have hT2 : lnAll lnI l ≤ 4194304 * l.length := lnAll_le lnI _ (fun x hx => by have := hlx x hx; unfold lnI; omega)
  have hN2 : 0 ≤ lnAll lnI l := lnAll_nn lnI _ (fun x _ => by unfold lnI; omega)
  refine Ev.bind hto (Ev.bind (sPackRows_ev l h.1 hx0) (Ev.bind hto (Ev.bind hI ?_)))
  generalize packRows l = M at hI hL hM hX hT hN ⊢
  have hE := eqPackedS_ev M hM hX
  have hH := heldPackedS_ev M 1 hM (by omega) (by omega)
  refine Ev.bind hE (Ev.ite (fun _ => ?_) (fun c => absurd rfl c))
  refine Ev.bind hto (Ev.bind (eqIntSS_ev l h.1 hx0) (Ev.ite (fun _ => ?_) (fun c => absurd rfl c)))
  refine Ev.bind (markIntSS_ev l 1 h.1 hx0 (by omega) (by omega)) (Ev.ite (fun c => absurd c (by simp only; omega)) (fun _ => ?_))
  refine Ev.bind hE (Ev.ite (fun _ => ?_) (fun c => absurd rfl c))
  refine Ev.bind (markPackedS_ev M 1 hM hX (by omega) (by omega)) ?_
  refine Ev.bind hH (Ev.ite (fun c => absurd c (by omega)) (fun _ => Ev.ite (fun _ => ?_) (fun c => absurd rfl c)))
  refine Ev.bind hto (Ev.bind hI (Ev.bind hE (Ev.ite (fun _ => ?_) (fun c => absurd rfl c))))
  exact Ev.bind hH (Ev.ite (fun c => absurd c (by omega)) (fun _ => Ev.ite (fun _ => Ev.now _) (fun c => absurd rfl c)))
end Go.Proofs.Ytcalgoembdmlkaa.Pure
