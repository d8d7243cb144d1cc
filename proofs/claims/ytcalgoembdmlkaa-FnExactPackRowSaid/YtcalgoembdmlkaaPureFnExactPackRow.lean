/- The plain law of FnExactPackRow: over numbers and lists, what the printed functions answer, and that the law answers true. -/
import Derived.Test.YtcalgoembdmlkaaQFnExactPackRowx3
import Derived.Test.YtcalgoembdmlkaaPlain
namespace Go.Proofs.Ytcalgoembdmlkaa.Pure
open Go.RowKit Go.Proofs.Ytcalgoembdmlkaa.QFnExactPackRow Go.Proofs.YtcalgoembdmlkaaW.PrintWords Go.Proofs.YtcalgoembdmlkaaW.PrintLast Go.Proofs.Ytcalgoembdmlkaa.Plain

theorem toIntS_ev (l : List Int) (h : (l.length : Int) ≤ 1048576) : Ev (fun k => laws_toIntS.f k l) l := by
  have hm : l.length ≤ maxLen := by rw [maxLen_eq]; omega
  simp only [laws_toIntS.f]
  refine Ev.ite (fun _ => Ev.ite (fun _ => ?_) (fun c => absurd (by omega) c)) (fun c => absurd (by omega) c)
  have := ev_fill l id (F := fun k s i => laws_toIntS.l0 k l s i) (fun s => by
    simp only [laws_toIntS.l0, end_lt, if_false]
    exact Ev.now _) (fun pre x rest s r e hs h => by
    subst e
    simp only [laws_toIntS.l0, hs, mid_lt, mid_nn, mid_wrap hm, if_true, rd, Int.toNat_natCast, mid_get]
    exact h) (List.replicate ((l.length : Int) : Int).toNat 0) (by simp)
  simpa using this
theorem eqIntS_ev (l : List Int) (hm : l.length ≤ maxLen) : Ev (fun k => laws_eqIntS.f k l l) true := by
  simp only [laws_eqIntS.f, if_true]
  refine ev_loop0 l (F := fun k i => laws_eqIntS.l0 k l l i) (fun _ _ => true) ?_ (fun pre x rest e h => ?_)
  · simp only [laws_eqIntS.l0, end_lt, if_false]; exact Ev.now _
  · subst e
    simp only [laws_eqIntS.l0, mid_lt, mid_nn, mid_wrap hm, if_true]
    exact h
theorem markIntS_ev (l : List Int) (a : Int) (hm : l.length ≤ maxLen) (h0 : 0 ≤ a) (h1 : a + l.length ≤ 9223372036854775806) : Ev (fun k => laws_markIntS.f k l a) (a + l.length, iota 1 id a l.length) := by
  simp only [laws_markIntS.f]
  refine ev_loop l (F := fun k (s : List Int × Int) i => laws_markIntS.l0 k s.1 s.2 i) (fun pre rest s => s.1 = iota 1 id a pre.length ++ rest ∧ s.2 = a + 1 * pre.length) (fun _ _ _ => (a + l.length, iota 1 id a l.length)) ?_ ?_ (l, a) ⟨rfl, by simp⟩
  · rintro ⟨s, b⟩ ⟨rfl, rfl⟩
    have hl : ((iota 1 id a l.length ++ ([] : List Int)).length : Int) = l.length := by simp [iota_length]
    simp only [laws_markIntS.l0, hl, end_lt, if_false]
    exact Ev.val (by simp)
  · rintro pre x rest ⟨s, b⟩ e ⟨rfl, rfl⟩ ih
    subst e
    have hl : ((iota 1 id a pre.length ++ x :: rest).length : Int) = ((pre ++ x :: rest).length : Int) := by simp [iota_length]
    have hlen := mid_len (pre := pre) (rest := rest) (x := x)
    have hs := iota_set 1 id a pre rest x
    have hw : wrap64 (a + 1 * (pre.length : Int) + 1) = a + 1 * ((pre ++ [x]).length : Int) := by rw [wrap_id (by omega) (by omega)]; simp; omega
    simp only [laws_markIntS.l0, hl, mid_lt, mid_nn, mid_wrap hm, if_true, Int.toNat_natCast, hw]
    exact ih (_, _) ⟨hs, rfl⟩
theorem heldIntS_ev (n : Nat) (a : Int) (h0 : 0 ≤ a) (h1 : a + n ≤ 9223372036854775806) : Ev (fun k => laws_heldIntS.f k (iota 1 id a n) a) (a + n) := by
  have hm : (iota 1 id a n).length ≤ maxLen := by rw [iota_length, maxLen_eq]; omega
  simp only [laws_heldIntS.f]
  refine ev_loop (iota 1 id a n) (F := fun k s i => laws_heldIntS.l0 k (iota 1 id a n) s i) (fun pre rest s => s = a + 1 * pre.length) (fun _ _ _ => a + n) ?_ ?_ a (by simp)
  · rintro s rfl
    simp only [laws_heldIntS.l0, end_lt, if_false]
    exact Ev.val (by rw [iota_length]; omega)
  · rintro pre x rest s e rfl ih
    have hx := iota_mid 1 id pre rest x a n e
    have hn := congrArg List.length e
    rw [iota_length] at hn
    have hlen := mid_len (pre := pre) (rest := rest) (x := x)
    rw [e] at hm ⊢
    rw [e] at ih
    have hw : wrap64 (a + 1 * (pre.length : Int) + 1) = a + 1 * ((pre ++ [x]).length : Int) := by rw [wrap_id (by omega) (by omega)]; simp; omega
    have hx' : x = a + 1 * (pre.length : Int) := hx
    simp only [laws_heldIntS.l0, mid_lt, mid_nn, mid_wrap hm, if_true, rd, Int.toNat_natCast, mid_get, if_pos hx', hw]
    exact ih _ rfl
end Go.Proofs.Ytcalgoembdmlkaa.Pure
namespace Go.Proofs.Ytcalgoembdmlkaa.Pure
open Go.RowKit Go.Proofs.Ytcalgoembdmlkaa.QFnExactPackRow Go.Proofs.YtcalgoembdmlkaaW.PrintWords Go.Proofs.YtcalgoembdmlkaaW.PrintLast Go.Proofs.Ytcalgoembdmlkaa.Plain

theorem within_eq (a b c : Int) : impl_within.f a b c = some (inB a b c) := by unfold impl_within.f inB; by_cases h : b ≤ a <;> simp [h]
theorem l01In_eq (a b c : Int) : spec_l01In.f a b c = some (inB a b c) := by unfold spec_l01In.f inB; by_cases h : b ≤ a <;> simp [h]
def coord (a : Int) : Bool := inB a (-200) 200
def boxOk (a b c d : Int) : Bool := coord a && (coord b && (coord c && (coord d && (decide (a ≤ c) && decide (b ≤ d)))))
def rowOk (l : List Int) : Bool := decide ((l.length : Int) = 32) && l.all fun v => inB v 0 255
def rowsOk (l : List (List Int)) : Bool := decide ((l.length : Int) ≤ 32) && l.all rowOk
theorem rowOk_ev (l : List Int) : Ev (fun k => impl_rowOk.f k l) (rowOk l) := by
  simp only [impl_rowOk.f]
  refine Ev.andP (fun c => ?_)
  have hm : l.length ≤ maxLen := by rw [maxLen_eq]; omega
  clear c
  refine ev_loop0 l (F := fun k i => impl_rowOk.l0 k l l.length i) (fun _ r => r.all fun v => inB v 0 255) ?_ (fun pre x rest e h => ?_)
  · simp only [impl_rowOk.l0, end_lt, if_false]; exact Ev.now _
  · subst e
    simp only [impl_rowOk.l0, mid_lt, mid_nn, mid_wrap hm, if_true, rd, Int.toNat_natCast, mid_get, within_eq, Option.bind_some]
    exact Ev.andB (fun _ => h)
theorem l11Row_ev (l : List Int) (hm : l.length ≤ maxLen) : Ev (fun k => spec_l11Row.f k l) (rowOk l) := by
  simp only [spec_l11Row.f]
  unfold rowOk
  rw [Bool.and_comm]
  refine ev_loop0 l (F := fun k i => spec_l11Row.l0 k l i) (fun _ r => (r.all fun v => inB v 0 255) && decide ((l.length : Int) = 32)) ?_ (fun pre x rest e h => ?_)
  · simp only [spec_l11Row.l0, end_lt, if_false]; exact Ev.now _
  · rw [List.all_cons, Bool.and_assoc]
    subst e
    simp only [spec_l11Row.l0, mid_lt, mid_nn, mid_wrap hm, if_true, rd, Int.toNat_natCast, mid_get, l01In_eq, Option.bind_some]
    exact Ev.andB (fun _ => h)
def stepR (s : List S112) (v : Int) : List S112 :=
  match s.getLast? with
  | some r => if r.f0 = v then s.dropLast ++ [⟨r.f0, r.f1 + 1⟩] else s ++ [⟨v, 1⟩]
  | none => [⟨v, 1⟩]
def runsGo : List Int → List S112 → List S112
  | [], s => s
  | v :: r, s => if inB v 0 255 = true then runsGo r (stepR s v) else []
def runsOf (l : List Int) : List S112 := if (l.length : Int) > 32 then [] else runsGo l []
/-- What holds of the runs so far: no more than there were values, each at least one. -/
def RunsInv (n : Nat) (s : List S112) : Prop := s.length ≤ n ∧ ∀ r ∈ s, 1 ≤ r.f1 ∧ r.f1 ≤ n
theorem stepR_inv {n : Nat} {s : List S112} (v : Int) (h : RunsInv n s) : RunsInv (n + 1) (stepR s v) := by
  obtain ⟨h1, h2⟩ := h
  unfold stepR
  cases e : s.getLast? with
  | none => exact ⟨by simp, by simp; omega⟩
  | some r =>
    have hr : r ∈ s := List.mem_of_getLast? e
    have hr2 := h2 r hr
    have hne : s ≠ [] := by rintro rfl; simp at e
    have hpos : 0 < s.length := List.length_pos_iff.2 hne
    simp only
    split
    · refine ⟨by simp; omega, fun q hq => ?_⟩
      rcases List.mem_append.1 hq with hq | hq
      · have := h2 q ((List.dropLast_sublist s).subset hq); omega
      · rw [List.mem_singleton] at hq; subst hq; simp; omega
    · refine ⟨by simp; omega, fun q hq => ?_⟩
      rcases List.mem_append.1 hq with hq | hq
      · have := h2 q hq; omega
      · rw [List.mem_singleton] at hq; subst hq; simp; omega
theorem runsGo_inv : ∀ (l : List Int) (n : Nat) (s : List S112), RunsInv n s → RunsInv (n + l.length) (runsGo l s)
  | [], n, s, h => by simpa [runsGo] using h
  | v :: r, n, s, h => by
    unfold runsGo
    split
    · have := runsGo_inv r (n + 1) _ (stepR_inv v h)
      rw [List.length_cons]
      rwa [show n + (r.length + 1) = n + 1 + r.length by omega]
    · exact ⟨by simp, by simp⟩
theorem runsOf_inv (l : List Int) : RunsInv 32 (runsOf l) := by
  unfold runsOf
  split
  · exact ⟨by simp, by simp⟩
  · have h := runsGo_inv l 0 [] ⟨by simp, by simp⟩
    refine ⟨by have := h.1; omega, fun r hr => by have := h.2 r hr; omega⟩
/-- One value: what both programs do, in one word. -/
theorem step_round {β : Type} {n : Nat} (s : List S112) (hs : RunsInv n s) (hn : n ≤ 32) (v : Int) (G : Nat → List S112 → Option β) (r : β) (h : Ev (fun k => G k (stepR s v)) r) :
    Ev (fun k => if (s.length : Int) > 0 then (if 0 ≤ (wrap64 ((s.length : Int) - 1)) then (if (wrap64 ((s.length : Int) - 1)) < (s.length : Int) then (if ((rd_T112 s (wrap64 ((s.length : Int) - 1))).f0) = v then (G k (s.set ((wrap64 ((s.length : Int) - 1)) : Int).toNat (⟨(rd_T112 s (wrap64 ((s.length : Int) - 1))).f0, wrap64 (((rd_T112 s (wrap64 ((s.length : Int) - 1))).f1) + 1)⟩ : S112))) else (if s.length < 8796093022208 then (G k (s ++ [(⟨v, 1⟩ : S112)])) else (none))) else (none)) else (none)) else (if s.length < 8796093022208 then (G k (s ++ [(⟨v, 1⟩ : S112)])) else (none))) r := by
  have hsl := hs.1
  have c4 : s.length < 8796093022208 := by omega
  rcases List.eq_nil_or_concat s with rfl | ⟨q, y, rfl⟩
  · have c0 : ¬ (([] : List S112).length : Int) > 0 := by simp
    simp only [if_neg c0, if_pos c4]
    exact h
  · rw [List.concat_eq_append] at *
    have c0 : ((q ++ [y]).length : Int) > 0 := by simp <;> omega
    have e1 : wrap64 (((q ++ [y]).length : Int) - 1) = (q.length : Int) := by rw [wrap_id (by simp <;> omega) (by omega)]; simp
    have c2 : (q.length : Int) < ((q ++ [y]).length : Int) := by simp <;> omega
    have e2 : rd_T112 (q ++ [y]) (q.length : Int) = y := by simp [rd_T112, List.getD_eq_getElem?_getD]
    have hy := hs.2 y (by simp)
    have e3 : wrap64 (y.f1 + 1) = y.f1 + 1 := wrap_id (by omega) (by omega)
    have e4 : (q ++ [y]).set q.length (⟨y.f0, y.f1 + 1⟩ : S112) = q ++ [⟨y.f0, y.f1 + 1⟩] := by rw [List.set_append_right _ _ (Nat.le_refl _)]; simp
    simp only [if_pos c0, e1, mid_nn, if_true, if_pos c2, e2, e3, Int.toNat_natCast, e4, if_pos c4]
    unfold stepR at h
    simp only [List.getLast?_append, List.getLast?_singleton, Option.some_or, List.dropLast_concat] at h
    by_cases c : y.f0 = v
    · simp only [if_pos c] at h ⊢; exact h
    · simp only [if_neg c] at h ⊢; exact h
theorem iRunsOf_ev (l : List Int) : Ev (fun k => impl_RunsOf.f k l) (runsOf l) := by
  simp only [impl_RunsOf.f]
  unfold runsOf
  by_cases c : (l.length : Int) > 32
  · simp only [if_pos c]; exact Ev.now _
  · simp only [if_neg c]
    have hm : l.length ≤ maxLen := by rw [maxLen_eq]; omega
    refine ev_loop l (F := fun k s i => impl_RunsOf.l0 k s l l.length i) (fun p _ s => RunsInv p.length s) (fun _ r s => runsGo r s) ?_ ?_ [] ⟨by simp, by simp⟩
    · intro s _; simp only [impl_RunsOf.l0, end_lt, if_false]; exact Ev.now _
    · rintro pre x rest s e hI ih
      have hn : pre.length ≤ 32 := by rw [e] at c; simp at c; omega
      clear c
      subst e
      simp only [impl_RunsOf.l0, mid_lt, mid_nn, mid_wrap hm, if_true, rd, Int.toNat_natCast, mid_get, within_eq, Option.bind_some, runsGo]
      by_cases cx : inB x 0 255 = true
      · simp only [if_pos cx]
        exact step_round s hI hn x (fun k s' => impl_RunsOf.l0 k s' (pre ++ x :: rest) ((pre ++ x :: rest).length : Int) ((pre ++ [x]).length : Int)) _ (ih _ (by rw [List.length_append]; exact stepR_inv x hI))
      · simp only [if_neg cx]; exact Ev.now _
theorem sRunsOf_ev (l : List Int) : Ev (fun k => spec_RunsOf.f k l) (runsOf l) := by
  simp only [spec_RunsOf.f, Option.bind_some]
  unfold runsOf
  by_cases c : (l.length : Int) > 32
  · simp only [if_pos c]; exact Ev.now _
  · simp only [if_neg c]
    have hm : l.length ≤ maxLen := by rw [maxLen_eq]; omega
    refine ev_loop l (F := fun k s i => spec_RunsOf.l0 k l s i) (fun p _ s => RunsInv p.length s) (fun _ r s => runsGo r s) ?_ ?_ [] ⟨by simp, by simp⟩
    · intro s _; simp only [spec_RunsOf.l0, end_lt, if_false]; exact Ev.now _
    · rintro pre x rest s e hI ih
      have hn : pre.length ≤ 32 := by rw [e] at c; simp at c; omega
      clear c
      subst e
      simp only [spec_RunsOf.l0, mid_lt, mid_nn, mid_wrap hm, if_true, rd, Int.toNat_natCast, mid_get, l01In_eq, Option.bind_some, runsGo]
      by_cases cx : inB x 0 255 = true
      · simp only [if_pos cx]
        exact step_round s hI hn x (fun k s' => spec_RunsOf.l0 k (pre ++ x :: rest) s' ((pre ++ [x]).length : Int)) _ (ih _ (by rw [List.length_append]; exact stepR_inv x hI))
      · simp only [if_neg cx]; exact Ev.now _
end Go.Proofs.Ytcalgoembdmlkaa.Pure
namespace Go.Proofs.Ytcalgoembdmlkaa.Pure
open Go.RowKit Go.Proofs.Ytcalgoembdmlkaa.QFnExactPackRow Go.Proofs.YtcalgoembdmlkaaW.PrintWords Go.Proofs.YtcalgoembdmlkaaW.PrintLast Go.Proofs.Ytcalgoembdmlkaa.Plain

theorem eqPacked_ev (b : Bool) (l : List Int) (hm : l.length ≤ maxLen) : Ev (fun k => laws_eqPacked.f k b l b l) true := by
  simp only [laws_eqPacked.f, bne_self_eq_false, Bool.false_eq_true, if_false]
  exact Ev.bind (eqIntS_ev l hm) (Ev.now _)
theorem markPacked_ev (b : Bool) (l : List Int) (a : Int) (hm : l.length ≤ maxLen) (h0 : 0 ≤ a) (h1 : a + l.length ≤ 9223372036854775806) : Ev (fun k => laws_markPacked.f k b l a) (a + l.length, iota 1 id a l.length) := by
  simp only [laws_markPacked.f]
  exact Ev.bind (markIntS_ev l a hm h0 h1) (Ev.now _)
theorem heldPacked_ev (b : Bool) (n : Nat) (a : Int) (h0 : 0 ≤ a) (h1 : a + n ≤ 9223372036854775806) : Ev (fun k => laws_heldPacked.f k b (iota 1 id a n) a) (a + n) := by
  simp only [laws_heldPacked.f]
  exact Ev.bind (heldIntS_ev n a h0 h1) (Ev.ite (fun c => absurd c (by omega)) (fun _ => Ev.now _))
end Go.Proofs.Ytcalgoembdmlkaa.Pure
namespace Go.Proofs.Ytcalgoembdmlkaa.Pure
open Go.RowKit Go.Proofs.Ytcalgoembdmlkaa.QFnExactPackRow Go.Proofs.YtcalgoembdmlkaaW.PrintWords Go.Proofs.YtcalgoembdmlkaaW.PrintLast Go.Proofs.Ytcalgoembdmlkaa.Plain

def flatR : List S112 → List Int
  | [] => []
  | x :: r => x.f0 :: x.f1 :: flatR r
theorem flatR_len : ∀ l : List S112, (flatR l).length = 2 * l.length
  | [] => rfl
  | x :: r => by simp [flatR, flatR_len r]; omega
def packRow (l : List Int) : Bool × List Int := if rowOk l = true then (if 2 * ((runsOf l).length : Int) ≥ 32 then (true, l) else (false, flatR (runsOf l))) else (false, [])
theorem rowOk_len {l : List Int} (h : rowOk l = true) : l.length = 32 := by unfold rowOk at h; simp at h; omega
theorem packRow_len (l : List Int) : (packRow l).2.length ≤ 32 := by
  unfold packRow
  split
  case isTrue c =>
    split
    · simp [rowOk_len c]
    · rw [flatR_len]; omega
  case isFalse => simp
theorem clone_eq (l : List Int) (h : l.length ≤ 64) : slices_Clone_int_int.f l = some l := by
  have c : l.length < 17592186044416 := by omega
  simp [slices_Clone_int_int.f, c]
theorem iPackRow_ev (l : List Int) : Ev (fun k => impl_PackRow.f k l) (packRow l) := by
  simp only [impl_PackRow.f]
  unfold packRow
  refine Ev.bind (rowOk_ev l) (Ev.ite (fun c => ?_) (fun c => ?_))
  · rw [if_pos c]
    refine Ev.bind (iRunsOf_ev l) ?_
    have hR := (runsOf_inv l).1
    have hl := rowOk_len c
    generalize runsOf l = q at hR ⊢
    have hm : q.length ≤ maxLen := by rw [maxLen_eq]; omega
    refine ev_loop q (F := fun k s i => impl_PackRow.l0 k l s q q.length i) (fun p _ s => s.length = 2 * p.length) (fun _ r s => if 2 * (q.length : Int) ≥ 32 then (true, l) else (false, s ++ flatR r)) ?_ ?_ [] rfl
    · intro s hs
      simp only [impl_PackRow.l0, end_lt, if_false, clone_eq l (by omega), Option.bind_some]
      by_cases cn : (s.length : Int) < 32
      · simp only [if_pos cn]; rw [if_neg (by omega)]; exact Ev.val (by simp [flatR])
      · simp only [if_neg cn]; rw [if_pos (by omega)]; exact Ev.now _
    · rintro pre x rest s e hs ih
      have hql : (q.length : Int) = (pre ++ x :: rest).length := by rw [e]
      have hq2 : q.length ≤ 32 := hR
      subst e
      have hp : pre.length < 32 := by simp at hR; omega
      have c4 : s.length + [x.f0, x.f1].length < 17592186044416 := by simp; omega
      simp only [impl_PackRow.l0, mid_lt, mid_nn, mid_wrap hm, if_true, rd_T112, Int.toNat_natCast, mid_get, Option.bind_some, if_pos c4]
      have := ih (s ++ [x.f0, x.f1]) (by simp; omega)
      simpa [flatR] using this
  · rw [if_neg c]; exact Ev.now _
theorem l05Copy_eq (l : List Int) (h : l.length ≤ 64) : spec_l05Copy.f l = some l := by
  have c : l.length < 17592186044416 := by omega
  simp [spec_l05Copy.f, c]
theorem sPackRow_ev (l : List Int) (hlm : l.length ≤ maxLen) : Ev (fun k => spec_PackRow.f k l) (packRow l) := by
  simp only [spec_PackRow.f]
  unfold packRow
  refine Ev.bind (l11Row_ev l hlm) (Ev.ite (fun c => ?_) (fun c => ?_))
  · rw [if_pos c]
    refine Ev.bind (sRunsOf_ev l) ?_
    have hR := (runsOf_inv l).1
    have hl := rowOk_len c
    generalize runsOf l = q at hR ⊢
    have hm : q.length ≤ maxLen := by rw [maxLen_eq]; omega
    have hw : wrap64 (2 * (q.length : Int)) = 2 * q.length := wrap_id (by omega) (by omega)
    simp only [hw]
    refine Ev.ite (fun cn => ?_) (fun cn => ?_)
    · rw [if_pos cn]
      simp only [l05Copy_eq l (by omega), Option.bind_some]
      exact Ev.now _
    · rw [if_neg cn]
      refine ev_loop q (F := fun k s i => spec_PackRow.l0 k q i false s) (fun p _ s => s.length = 2 * p.length) (fun _ r s => (false, s ++ flatR r)) ?_ ?_ [] rfl
      · intro s hs
        simp only [spec_PackRow.l0, end_lt, if_false]
        exact Ev.val (by simp [flatR])
      · rintro pre x rest s e hs ih
        subst e
        have hp : pre.length < 32 := by simp at hR; omega
        have c4 : s.length + [x.f0, x.f1].length < 17592186044416 := by simp; omega
        simp only [spec_PackRow.l0, mid_lt, mid_nn, mid_wrap hm, if_true, rd_T112, Int.toNat_natCast, mid_get, Option.bind_some, if_pos c4]
        have := ih (s ++ [x.f0, x.f1]) (by simp; omega)
        simpa [flatR] using this
  · rw [if_neg c]; exact Ev.now _

end Go.Proofs.Ytcalgoembdmlkaa.Pure
namespace Go.Proofs.Ytcalgoembdmlkaa.Pure
open Go.RowKit Go.Proofs.Ytcalgoembdmlkaa.QFnExactPackRow Go.Proofs.YtcalgoembdmlkaaW.PrintWords Go.Proofs.YtcalgoembdmlkaaW.PrintLast Go.Proofs.Ytcalgoembdmlkaa.Plain

theorem FnExactPackRow (l : List Int) (h : l.length ≤ maxLen ∧ ∀ y ∈ l, ((Lit.int .i64 y).wf = true)) : ∃ k, laws_FnExactPackRow.f k l = some true := by
  have hm := h.1
  refine Ev.rounds (g := fun k => laws_FnExactPackRow.f k l) ?_
  simp only [laws_FnExactPackRow.f]
  refine Ev.ite (fun _ => Ev.now _) (fun c => ?_)
  have hl : (l.length : Int) ≤ 1048576 := by omega
  have hR := packRow_len l
  have hrm : (packRow l).2.length ≤ maxLen := by rw [maxLen_eq]; omega
  refine Ev.bind (toIntS_ev l hl) (Ev.bind (sPackRow_ev l hm) (Ev.bind (toIntS_ev l hl) (Ev.bind (iPackRow_ev l) (Ev.bind (eqPacked_ev _ _ hrm) (Ev.ite (fun _ => ?_) (fun c => absurd rfl c))))))
  refine Ev.bind (toIntS_ev l hl) (Ev.bind (eqIntS_ev l hm) (Ev.ite (fun _ => ?_) (fun c => absurd rfl c)))
  refine Ev.bind (markIntS_ev l 1 hm (by omega) (by omega)) (Ev.ite (fun c => absurd c (by simp only; omega)) (fun _ => ?_))
  refine Ev.bind (eqPacked_ev _ _ hrm) (Ev.up ?_)
  simp only [laws_FnExactPackRow.j0, Bool.not_true, Bool.false_eq_true, if_false]
  refine Ev.bind (markPacked_ev _ (packRow l).2 1 hrm (by omega) (by omega)) ?_
  refine Ev.bind (heldPacked_ev _ (packRow l).2.length 1 (by omega) (by omega)) (Ev.ite (fun c => absurd c (by omega)) (fun _ => Ev.ite (fun _ => ?_) (fun c => absurd rfl c)))
  refine Ev.bind (toIntS_ev l hl) (Ev.bind (iPackRow_ev l) (Ev.bind (eqPacked_ev _ _ hrm) (Ev.ite (fun _ => ?_) (fun c => absurd rfl c))))
  exact Ev.bind (heldPacked_ev _ (packRow l).2.length 1 (by omega) (by omega)) (Ev.ite (fun c => absurd c (by omega)) (fun _ => Ev.ite (fun _ => Ev.now _) (fun c => absurd rfl c)))
end Go.Proofs.Ytcalgoembdmlkaa.Pure
