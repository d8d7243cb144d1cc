/- The plain law of FnExactUnpackRow: over numbers and lists, what the printed functions answer, and that the law answers true. -/
import Derived.Test.YtimpejidlnjhlaaQFnExactUnpackRowx9
import Derived.Test.YtimpejidlnjhlaaPlain
set_option linter.unusedSimpArgs false
set_option linter.unusedVariables false
namespace Go.Proofs.Ytimpejidlnjhlaa.Pure
open Go.RowKit Go.Proofs.Ytimpejidlnjhlaa.QFnExactUnpackRow Go.Proofs.YtimpejidlnjhlaaW.PrintWords Go.Proofs.YtimpejidlnjhlaaW.PrintLast Go.Proofs.Ytimpejidlnjhlaa.Plain

theorem szIntS_eq (l : List Int) (a : Int) (h : l.length ≤ maxLen) (h0 : 0 ≤ a) (h1 : a ≤ 1048576) : laws_szIntS.f l a = some (szN l.length a) := by
  rw [maxLen_eq] at h
  unfold laws_szIntS.f szN
  rw [wrap_id (by omega) (by omega)]
  split <;> rfl
theorem szPacked_eq (b : Bool) (l : List Int) (a : Int) (h : l.length ≤ maxLen) (h0 : 0 ≤ a) (h1 : a ≤ 1048576) : laws_szPacked.f b l a = some (szN l.length a) := by
  unfold laws_szPacked.f
  rw [szIntS_eq l a h h0 h1]
  rcases szN_tells l.length a h0 with hn | ⟨h2, h3, h4⟩
  · rw [hn]; rfl
  · have c2 : ¬ szN l.length a < 0 := by omega
    simp [c2]
theorem toIntS_ev (l : List Int) (h : (l.length : Int) ≤ 1048576) : Ev (fun k => laws_toIntS.f k l) l := by
  have hm : l.length ≤ maxLen := by rw [maxLen_eq]; omega
  simp only [laws_toIntS.f]
  refine Ev.ite (fun _ => Ev.ite (fun _ => ?_) (fun c => absurd (by omega) c)) (fun c => absurd (by omega) c)
  have := ev_fill l id (F := fun k s i => laws_toIntS.l0 k l s i) (fun s => by
    simp only [laws_toIntS.l0, end_lt, if_false]
    exact Ev.now _) (fun pre x rest s r e hs h => by
    subst e
    simp only [laws_toIntS.l0, hs, mid_lt, mid_nn, mid_wrap hm, if_true, rd, Int.toNat_natCast, mid_get]
    exact h) (List.replicate ((l.length : Int) : Int).toNat 0) (by simp)
  simpa using this
theorem eqIntS_ev (l : List Int) (hm : l.length ≤ maxLen) : Ev (fun k => laws_eqIntS.f k l l) true := by
  simp only [laws_eqIntS.f, if_true]
  refine ev_loop0 l (F := fun k i => laws_eqIntS.l0 k l l i) (fun _ _ => true) ?_ (fun pre x rest e h => ?_)
  · simp only [laws_eqIntS.l0, end_lt, if_false]; exact Ev.now _
  · subst e
    simp only [laws_eqIntS.l0, mid_lt, mid_nn, mid_wrap hm, if_true]
    exact h
theorem markIntS_ev (l : List Int) (a : Int) (hm : l.length ≤ maxLen) (h0 : 0 ≤ a) (h1 : a + l.length ≤ 9223372036854775806) : Ev (fun k => laws_markIntS.f k l a) (a + l.length, iota 1 id a l.length) := by
  simp only [laws_markIntS.f]
  refine ev_loop l (F := fun k (s : List Int × Int) i => laws_markIntS.l0 k s.1 s.2 i) (fun pre rest s => s.1 = iota 1 id a pre.length ++ rest ∧ s.2 = a + 1 * pre.length) (fun _ _ _ => (a + l.length, iota 1 id a l.length)) ?_ ?_ (l, a) ⟨rfl, by simp⟩
  · rintro ⟨s, b⟩ ⟨rfl, rfl⟩
    have hl : ((iota 1 id a l.length ++ ([] : List Int)).length : Int) = l.length := by simp [iota_length]
    simp only [laws_markIntS.l0, hl, end_lt, if_false]
    exact Ev.val (by simp)
  · rintro pre x rest ⟨s, b⟩ e ⟨rfl, rfl⟩ ih
    subst e
    have hl : ((iota 1 id a pre.length ++ x :: rest).length : Int) = ((pre ++ x :: rest).length : Int) := by simp [iota_length]
    have hlen := mid_len (pre := pre) (rest := rest) (x := x)
    have hs := iota_set 1 id a pre rest x
    have hw : wrap64 (a + 1 * (pre.length : Int) + 1) = a + 1 * ((pre ++ [x]).length : Int) := by rw [wrap_id (by omega) (by omega)]; simp; omega
    simp only [laws_markIntS.l0, hl, mid_lt, mid_nn, mid_wrap hm, if_true, Int.toNat_natCast, hw]
    exact ih (_, _) ⟨hs, rfl⟩
theorem heldIntS_ev (n : Nat) (a : Int) (h0 : 0 ≤ a) (h1 : a + n ≤ 9223372036854775806) : Ev (fun k => laws_heldIntS.f k (iota 1 id a n) a) (a + n) := by
  have hm : (iota 1 id a n).length ≤ maxLen := by rw [iota_length, maxLen_eq]; omega
  simp only [laws_heldIntS.f]
  refine ev_loop (iota 1 id a n) (F := fun k s i => laws_heldIntS.l0 k (iota 1 id a n) s i) (fun pre rest s => s = a + 1 * pre.length) (fun _ _ _ => a + n) ?_ ?_ a (by simp)
  · rintro s rfl
    simp only [laws_heldIntS.l0, end_lt, if_false]
    exact Ev.val (by rw [iota_length]; omega)
  · rintro pre x rest s e rfl ih
    have hx := iota_mid 1 id pre rest x a n e
    have hn := congrArg List.length e
    rw [iota_length] at hn
    have hlen := mid_len (pre := pre) (rest := rest) (x := x)
    rw [e] at hm ⊢
    rw [e] at ih
    have hw : wrap64 (a + 1 * (pre.length : Int) + 1) = a + 1 * ((pre ++ [x]).length : Int) := by rw [wrap_id (by omega) (by omega)]; simp; omega
    have hx' : x = a + 1 * (pre.length : Int) := hx
    simp only [laws_heldIntS.l0, mid_lt, mid_nn, mid_wrap hm, if_true, rd, Int.toNat_natCast, mid_get, if_pos hx', hw]
    exact ih _ rfl
end Go.Proofs.Ytimpejidlnjhlaa.Pure
namespace Go.Proofs.Ytimpejidlnjhlaa.Pure
open Go.RowKit Go.Proofs.Ytimpejidlnjhlaa.QFnExactUnpackRow Go.Proofs.YtimpejidlnjhlaaW.PrintWords Go.Proofs.YtimpejidlnjhlaaW.PrintLast Go.Proofs.Ytimpejidlnjhlaa.Plain

theorem eqPacked_ev (b : Bool) (l : List Int) (hm : l.length ≤ maxLen) : Ev (fun k => laws_eqPacked.f k b l b l) true := by
  simp only [laws_eqPacked.f, bne_self_eq_false, Bool.false_eq_true, if_false]
  exact Ev.bind (eqIntS_ev l hm) (Ev.now _)
theorem markPacked_ev (b : Bool) (l : List Int) (a : Int) (hm : l.length ≤ maxLen) (h0 : 0 ≤ a) (h1 : a + l.length ≤ 9223372036854775806) : Ev (fun k => laws_markPacked.f k b l a) (a + l.length, iota 1 id a l.length) := by
  simp only [laws_markPacked.f]
  exact Ev.bind (markIntS_ev l a hm h0 h1) (Ev.now _)
end Go.Proofs.Ytimpejidlnjhlaa.Pure
namespace Go.Proofs.Ytimpejidlnjhlaa.Pure
open Go.RowKit Go.Proofs.Ytimpejidlnjhlaa.QFnExactUnpackRow Go.Proofs.YtimpejidlnjhlaaW.PrintWords Go.Proofs.YtimpejidlnjhlaaW.PrintLast Go.Proofs.Ytimpejidlnjhlaa.Plain

theorem within_eq (a b c : Int) : impl_within.f a b c = some (inB a b c) := by unfold impl_within.f inB; by_cases h : b ≤ a <;> simp [h]
theorem l01In_eq (a b c : Int) : spec_l01In.f a b c = some (inB a b c) := by unfold spec_l01In.f inB; by_cases h : b ≤ a <;> simp [h]
def coord (a : Int) : Bool := inB a (-200) 200
def boxOk (a b c d : Int) : Bool := coord a && (coord b && (coord c && (coord d && (decide (a ≤ c) && decide (b ≤ d)))))
def rowOk (l : List Int) : Bool := decide ((l.length : Int) = 32) && l.all fun v => inB v 0 255
def rowsOk (l : List (List Int)) : Bool := decide ((l.length : Int) ≤ 32) && l.all rowOk
theorem rowOk_ev (l : List Int) : Ev (fun k => impl_rowOk.f k l) (rowOk l) := by
  simp only [impl_rowOk.f]
  refine Ev.andP (fun c => ?_)
  have hm : l.length ≤ maxLen := by rw [maxLen_eq]; omega
  clear c
  refine ev_loop0 l (F := fun k i => impl_rowOk.l0 k l l.length i) (fun _ r => r.all fun v => inB v 0 255) ?_ (fun pre x rest e h => ?_)
  · simp only [impl_rowOk.l0, end_lt, if_false]; exact Ev.now _
  · subst e
    simp only [impl_rowOk.l0, mid_lt, mid_nn, mid_wrap hm, if_true, rd, Int.toNat_natCast, mid_get, within_eq, Option.bind_some]
    exact Ev.andB (fun _ => h)
theorem l11Row_ev (l : List Int) (hm : l.length ≤ maxLen) : Ev (fun k => spec_l11Row.f k l) (rowOk l) := by
  simp only [spec_l11Row.f]
  unfold rowOk
  rw [Bool.and_comm]
  refine ev_loop0 l (F := fun k i => spec_l11Row.l0 k l i) (fun _ r => (r.all fun v => inB v 0 255) && decide ((l.length : Int) = 32)) ?_ (fun pre x rest e h => ?_)
  · simp only [spec_l11Row.l0, end_lt, if_false]; exact Ev.now _
  · rw [List.all_cons, Bool.and_assoc]
    subst e
    simp only [spec_l11Row.l0, mid_lt, mid_nn, mid_wrap hm, if_true, rd, Int.toNat_natCast, mid_get, l01In_eq, Option.bind_some]
    exact Ev.andB (fun _ => h)
theorem eqInts_ev (a b : List Int) (hm : a.length ≤ maxLen) : Ev (fun k => slices_Equal_int_int.f k a b) (decide (a = b)) := by
  simp only [slices_Equal_int_int.f]
  by_cases hl : (a.length : Int) = (b.length : Int)
  · simp only [if_pos hl]
    refine ev_loop2 a b (by omega) (F := fun k i => slices_Equal_int_int.l0 k a b a.length i) (fun x y => decide (x = y)) ?_ (fun pre x rest pre' y rest' e e' hp hr h => ?_)
    · simp only [slices_Equal_int_int.l0, end_lt, if_false]; exact Ev.now _
    · clear hl
      subst e e'
      simp only [slices_Equal_int_int.l0, mid_lt, mid_lt' hp, mid_nn, mid_wrap hm, if_true, rd, Int.toNat_natCast, mid_get, mid_get' hp]
      by_cases c : x = y
      · simp only [if_pos c]; simpa [c] using h
      · simp only [if_neg c]; exact Ev.val (by simp [c])
  · simp only [if_neg hl]; exact Ev.val (by simp; rintro rfl; exact hl rfl)
def runsLen : List S117 → Int → Int
  | [], a => a
  | x :: r, a => runsLen r (wrap64 (a + x.f1))
theorem iRunsLength_ev (l : List S117) (hm : l.length ≤ maxLen) : Ev (fun k => impl_RunsLength.f k l) (runsLen l 0) := by
  simp only [impl_RunsLength.f]
  refine ev_loop l (F := fun k s i => impl_RunsLength.l0 k s l l.length i) (fun _ _ _ => True) (fun _ r s => runsLen r s) ?_ ?_ _ trivial
  · intro s _; simp only [impl_RunsLength.l0, end_lt, if_false]; exact Ev.now _
  · rintro pre x rest s e _ ih
    subst e
    simp only [impl_RunsLength.l0, mid_lt, mid_nn, mid_wrap hm, if_true, rd_T117, Int.toNat_natCast, mid_get]
    exact ih _ trivial
def runsFrom : Option Int → List S117 → Bool
  | _, [] => true
  | p, x :: r => inB x.f0 0 255 && (inB x.f1 1 32 && (!(p == some x.f0) && runsFrom (some x.f0) r))
theorem last_get {α : Type} (pre : List α) (y x : α) (rest : List α) (z : α) (hm : ((pre ++ [y]) ++ x :: rest).length ≤ maxLen) :
    wrap64 (((pre ++ [y]).length : Int) - 1) = (pre.length : Int) ∧ ((pre ++ [y]) ++ x :: rest).getD pre.length z = y := by
  rw [maxLen_eq] at hm
  simp at hm
  refine ⟨by rw [wrap_id (by simp <;> omega) (by simp <;> omega)]; simp, by simp [List.getD_eq_getElem?_getD]⟩
theorem iRunsOk_ev (l : List S117) (hm : l.length ≤ maxLen) : Ev (fun k => impl_RunsOk.f k l) (runsFrom none l) := by
  simp only [impl_RunsOk.f]
  refine ev_loop0 l (F := fun k i => impl_RunsOk.l0 k l l l.length i) (fun p r => runsFrom (p.getLast?.map (·.f0)) r) ?_ (fun pre x rest e h => ?_)
  · simp only [impl_RunsOk.l0, end_lt, if_false]; exact Ev.now _
  · subst e
    rw [List.getLast?_append, List.getLast?_singleton] at h
    simp only [impl_RunsOk.l0, mid_lt, mid_nn, mid_wrap hm, if_true, rd_T117, Int.toNat_natCast, mid_get, within_eq, Option.bind_some, runsFrom]
    refine Ev.andB (fun _ => Ev.andB (fun _ => ?_))
    rcases List.eq_nil_or_concat pre with rfl | ⟨q, y, rfl⟩
    · simp only [List.length_nil, Int.ofNat_zero, gt_iff_lt, Int.lt_irrefl, if_false] at h ⊢
      simpa using h
    · obtain ⟨h1, h2⟩ := last_get q y x rest z117 (by simpa using hm)
      rw [List.concat_eq_append] at *
      have c1 : ((q ++ [y]).length : Int) > 0 := by simp <;> omega
      have c2 : (q.length : Int) < (((q ++ [y]) ++ x :: rest).length : Int) := by simp; omega
      simp only [h1, c1, c2, mid_nn, if_true, Int.toNat_natCast, h2, List.getLast?_append, List.getLast?_singleton]
      refine Ev.ite (fun c => Ev.val (by simp [c])) (fun c => ?_)
      have hb : (y.f0 == x.f0) = false := beq_eq_false_iff_ne.2 c
      simpa [hb] using h
theorem sRunsOk_ev (l : List S117) (hm : l.length ≤ maxLen) : Ev (fun k => spec_RunsOk.f k l) (runsFrom none l) := by
  simp only [spec_RunsOk.f]
  refine ev_loop0 l (F := fun k i => spec_RunsOk.l0 k l i) (fun p r => runsFrom (p.getLast?.map (·.f0)) r) ?_ (fun pre x rest e h => ?_)
  · simp only [spec_RunsOk.l0, end_lt, if_false]; exact Ev.now _
  · subst e
    rw [List.getLast?_append, List.getLast?_singleton] at h
    simp only [spec_RunsOk.l0, mid_lt, mid_nn, mid_wrap hm, if_true, rd_T117, Int.toNat_natCast, mid_get, l01In_eq, Option.bind_some, runsFrom]
    refine Ev.andB (fun _ => Ev.andB (fun _ => ?_))
    rcases List.eq_nil_or_concat pre with rfl | ⟨q, y, rfl⟩
    · simp only [List.length_nil, Int.ofNat_zero, gt_iff_lt, Int.lt_irrefl, if_false] at h ⊢
      simpa using h
    · obtain ⟨h1, h2⟩ := last_get q y x rest z117 (by simpa using hm)
      rw [List.concat_eq_append] at *
      have c1 : ((q ++ [y]).length : Int) > 0 := by simp <;> omega
      have c2 : (q.length : Int) < (((q ++ [y]) ++ x :: rest).length : Int) := by simp; omega
      simp only [h1, c1, c2, mid_nn, if_true, Int.toNat_natCast, h2, List.getLast?_append, List.getLast?_singleton]
      refine Ev.ite (fun c => Ev.val (by simp [c])) (fun c => ?_)
      have hb : (y.f0 == x.f0) = false := beq_eq_false_iff_ne.2 (fun e => c e.symm)
      simpa [hb] using h
def stepR (s : List S117) (v : Int) : List S117 :=
  match s.getLast? with
  | some r => if r.f0 = v then s.dropLast ++ [⟨r.f0, r.f1 + 1⟩] else s ++ [⟨v, 1⟩]
  | none => [⟨v, 1⟩]
def runsGo : List Int → List S117 → List S117
  | [], s => s
  | v :: r, s => if inB v 0 255 = true then runsGo r (stepR s v) else []
def runsOf (l : List Int) : List S117 := if (l.length : Int) > 32 then [] else runsGo l []
/-- What holds of the runs so far: no more than there were values, each at least one. -/
def RunsInv (n : Nat) (s : List S117) : Prop := s.length ≤ n ∧ ∀ r ∈ s, 1 ≤ r.f1 ∧ r.f1 ≤ n
theorem stepR_inv {n : Nat} {s : List S117} (v : Int) (h : RunsInv n s) : RunsInv (n + 1) (stepR s v) := by
  obtain ⟨h1, h2⟩ := h
  unfold stepR
  cases e : s.getLast? with
  | none => exact ⟨by simp, by simp; omega⟩
  | some r =>
    have hr : r ∈ s := List.mem_of_getLast? e
    have hr2 := h2 r hr
    have hne : s ≠ [] := by rintro rfl; simp at e
    have hpos : 0 < s.length := List.length_pos_iff.2 hne
    simp only
    split
    · refine ⟨by simp; omega, fun q hq => ?_⟩
      rcases List.mem_append.1 hq with hq | hq
      · have := h2 q ((List.dropLast_sublist s).subset hq); omega
      · rw [List.mem_singleton] at hq; subst hq; simp; omega
    · refine ⟨by simp; omega, fun q hq => ?_⟩
      rcases List.mem_append.1 hq with hq | hq
      · have := h2 q hq; omega
      · rw [List.mem_singleton] at hq; subst hq; simp; omega
theorem runsGo_inv : ∀ (l : List Int) (n : Nat) (s : List S117), RunsInv n s → RunsInv (n + l.length) (runsGo l s)
  | [], n, s, h => by simpa [runsGo] using h
  | v :: r, n, s, h => by
    unfold runsGo
    split
    · have := runsGo_inv r (n + 1) _ (stepR_inv v h)
      rw [List.length_cons]
      rwa [show n + (r.length + 1) = n + 1 + r.length by omega]
    · exact ⟨by simp, by simp⟩
theorem runsOf_inv (l : List Int) : RunsInv 32 (runsOf l) := by
  unfold runsOf
  split
  · exact ⟨by simp, by simp⟩
  · have h := runsGo_inv l 0 [] ⟨by simp, by simp⟩
    refine ⟨by have := h.1; omega, fun r hr => by have := h.2 r hr; omega⟩
/-- One value: what both programs do, in one word. -/
theorem step_round {β : Type} {n : Nat} (s : List S117) (hs : RunsInv n s) (hn : n ≤ 32) (v : Int) (G : Nat → List S117 → Option β) (r : β) (h : Ev (fun k => G k (stepR s v)) r) :
    Ev (fun k => if (s.length : Int) > 0 then (if 0 ≤ (wrap64 ((s.length : Int) - 1)) then (if (wrap64 ((s.length : Int) - 1)) < (s.length : Int) then (if ((rd_T117 s (wrap64 ((s.length : Int) - 1))).f0) = v then (G k (s.set ((wrap64 ((s.length : Int) - 1)) : Int).toNat (⟨(rd_T117 s (wrap64 ((s.length : Int) - 1))).f0, wrap64 (((rd_T117 s (wrap64 ((s.length : Int) - 1))).f1) + 1)⟩ : S117))) else (if s.length < 8796093022208 then (G k (s ++ [(⟨v, 1⟩ : S117)])) else (none))) else (none)) else (none)) else (if s.length < 8796093022208 then (G k (s ++ [(⟨v, 1⟩ : S117)])) else (none))) r := by
  have hsl := hs.1
  have c4 : s.length < 8796093022208 := by omega
  rcases List.eq_nil_or_concat s with rfl | ⟨q, y, rfl⟩
  · have c0 : ¬ (([] : List S117).length : Int) > 0 := by simp
    simp only [if_neg c0, if_pos c4]
    exact h
  · rw [List.concat_eq_append] at *
    have c0 : ((q ++ [y]).length : Int) > 0 := by simp <;> omega
    have e1 : wrap64 (((q ++ [y]).length : Int) - 1) = (q.length : Int) := by rw [wrap_id (by simp <;> omega) (by omega)]; simp
    have c2 : (q.length : Int) < ((q ++ [y]).length : Int) := by simp <;> omega
    have e2 : rd_T117 (q ++ [y]) (q.length : Int) = y := by simp [rd_T117, List.getD_eq_getElem?_getD]
    have hy := hs.2 y (by simp)
    have e3 : wrap64 (y.f1 + 1) = y.f1 + 1 := wrap_id (by omega) (by omega)
    have e4 : (q ++ [y]).set q.length (⟨y.f0, y.f1 + 1⟩ : S117) = q ++ [⟨y.f0, y.f1 + 1⟩] := by rw [List.set_append_right _ _ (Nat.le_refl _)]; simp
    simp only [if_pos c0, e1, mid_nn, if_true, if_pos c2, e2, e3, Int.toNat_natCast, e4, if_pos c4]
    unfold stepR at h
    simp only [List.getLast?_append, List.getLast?_singleton, Option.some_or, List.dropLast_concat] at h
    by_cases c : y.f0 = v
    · simp only [if_pos c] at h ⊢; exact h
    · simp only [if_neg c] at h ⊢; exact h
theorem iRunsOf_ev (l : List Int) : Ev (fun k => impl_RunsOf.f k l) (runsOf l) := by
  simp only [impl_RunsOf.f]
  unfold runsOf
  by_cases c : (l.length : Int) > 32
  · simp only [if_pos c]; exact Ev.now _
  · simp only [if_neg c]
    have hm : l.length ≤ maxLen := by rw [maxLen_eq]; omega
    refine ev_loop l (F := fun k s i => impl_RunsOf.l0 k s l l.length i) (fun p _ s => RunsInv p.length s) (fun _ r s => runsGo r s) ?_ ?_ [] ⟨by simp, by simp⟩
    · intro s _; simp only [impl_RunsOf.l0, end_lt, if_false]; exact Ev.now _
    · rintro pre x rest s e hI ih
      have hn : pre.length ≤ 32 := by rw [e] at c; simp at c; omega
      clear c
      subst e
      simp only [impl_RunsOf.l0, mid_lt, mid_nn, mid_wrap hm, if_true, rd, Int.toNat_natCast, mid_get, within_eq, Option.bind_some, runsGo]
      by_cases cx : inB x 0 255 = true
      · simp only [if_pos cx]
        exact step_round s hI hn x (fun k s' => impl_RunsOf.l0 k s' (pre ++ x :: rest) ((pre ++ x :: rest).length : Int) ((pre ++ [x]).length : Int)) _ (ih _ (by rw [List.length_append]; exact stepR_inv x hI))
      · simp only [if_neg cx]; exact Ev.now _
theorem sRunsOf_ev (l : List Int) : Ev (fun k => spec_RunsOf.f k l) (runsOf l) := by
  simp only [spec_RunsOf.f, Option.bind_some]
  unfold runsOf
  by_cases c : (l.length : Int) > 32
  · simp only [if_pos c]; exact Ev.now _
  · simp only [if_neg c]
    have hm : l.length ≤ maxLen := by rw [maxLen_eq]; omega
    refine ev_loop l (F := fun k s i => spec_RunsOf.l0 k l s i) (fun p _ s => RunsInv p.length s) (fun _ r s => runsGo r s) ?_ ?_ [] ⟨by simp, by simp⟩
    · intro s _; simp only [spec_RunsOf.l0, end_lt, if_false]; exact Ev.now _
    · rintro pre x rest s e hI ih
      have hn : pre.length ≤ 32 := by rw [e] at c; simp at c; omega
      clear c
      subst e
      simp only [spec_RunsOf.l0, mid_lt, mid_nn, mid_wrap hm, if_true, rd, Int.toNat_natCast, mid_get, l01In_eq, Option.bind_some, runsGo]
      by_cases cx : inB x 0 255 = true
      · simp only [if_pos cx]
        exact step_round s hI hn x (fun k s' => spec_RunsOf.l0 k (pre ++ x :: rest) s' ((pre ++ [x]).length : Int)) _ (ih _ (by rw [List.length_append]; exact stepR_inv x hI))
      · simp only [if_neg cx]; exact Ev.now _
end Go.Proofs.Ytimpejidlnjhlaa.Pure
namespace Go.Proofs.Ytimpejidlnjhlaa.Pure
open Go.RowKit Go.Proofs.Ytimpejidlnjhlaa.QFnExactUnpackRow Go.Proofs.YtimpejidlnjhlaaW.PrintWords Go.Proofs.YtimpejidlnjhlaaW.PrintLast Go.Proofs.Ytimpejidlnjhlaa.Plain

theorem runs_all : ∀ (l : List S117) (p : Option Int), runsFrom p l = true → ∀ x ∈ l, 1 ≤ x.f1 ∧ x.f1 ≤ 32
  | [], _, _, _, h => by simp at h
  | y :: r, p, h, x, hx => by
    simp only [runsFrom, Bool.and_eq_true, inB_iff] at h
    rcases List.mem_cons.1 hx with rfl | hx
    · exact h.2.1
    · exact runs_all r _ h.2.2.2 x hx
/-- A value put n times. -/
theorem ev_rep {β : Type} {F : Nat → List Int → Int → Option β} (v : Int) (n : Int) {r : β} (s0 : List Int) (hn : 0 ≤ n) (hb : (s0.length : Int) + n ≤ 32)
    (hnil : Ev (fun k => F (k + 1) (s0 ++ List.replicate n.toNat v) n) r)
    (hcons : ∀ s i, 0 ≤ i → i < n → s.length ≤ 32 → Ev (fun k => F k (s ++ [v]) (i + 1)) r → Ev (fun k => F (k + 1) s i) r) : Ev (fun k => F k s0 0) r := by
  have main : ∀ (m : Nat) (s : List Int) (i : Int), 0 ≤ i → i + m = n → s.length + m ≤ 32 → s ++ List.replicate m v = s0 ++ List.replicate n.toNat v → Ev (fun k => F k s i) r := by
    intro m
    induction m with
    | zero =>
      intro s i h0 h1 h2 h3
      have e : i = n := by omega
      have e2 : s = s0 ++ List.replicate n.toNat v := by simpa using h3
      subst e e2
      exact Ev.up hnil
    | succ m ih =>
      intro s i h0 h1 h2 h3
      refine Ev.up (hcons s i h0 (by omega) (by omega) (ih _ _ (by omega) (by omega) (by simp; omega) ?_))
      rw [← h3, List.append_assoc]
      rfl
  exact main n.toNat s0 0 (by omega) (by omega) (by omega) rfl
def rowGo : List S117 → List Int → List Int
  | [], s => s
  | x :: r, s => if (s.length : Int) + x.f1 > 32 then [] else rowGo r (s ++ List.replicate x.f1.toNat x.f0)
def rowOf (l : List S117) : List Int := if runsFrom none l = true then rowGo l [] else []
def sumR : List S117 → Int
  | [] => 0
  | x :: r => x.f1 + sumR r
theorem sumR_nn : ∀ l : List S117, (∀ x ∈ l, 1 ≤ x.f1 ∧ x.f1 ≤ 32) → 0 ≤ sumR l ∧ sumR l ≤ 32 * l.length
  | [], _ => by simp [sumR]
  | x :: r, h => by
    have h1 := h x (by simp)
    have h2 := sumR_nn r (fun y hy => h y (by simp [hy]))
    simp only [sumR, List.length_cons]
    omega
theorem runsLen_sum : ∀ (l : List S117) (a : Int), (∀ x ∈ l, 1 ≤ x.f1 ∧ x.f1 ≤ 32) → 0 ≤ a → a + 32 * l.length ≤ 4611686018427387904 → runsLen l a = a + sumR l
  | [], a, _, _, _ => by simp [runsLen, sumR]
  | x :: r, a, h, h0, h1 => by
    have hx := h x (by simp)
    rw [List.length_cons] at h1
    simp only [runsLen, sumR]
    rw [wrap_id (by omega) (by omega), runsLen_sum r _ (fun y hy => h y (by simp [hy])) (by omega) (by omega)]
    omega
theorem rowGo_big : ∀ (l : List S117) (s : List Int), (∀ x ∈ l, 1 ≤ x.f1 ∧ x.f1 ≤ 32) → s.length ≤ 32 → (s.length : Int) + sumR l > 32 → rowGo l s = []
  | [], s, _, h, c => by simp [sumR] at c; omega
  | x :: r, s, h, hs, c => by
    have hx := h x (by simp)
    simp only [sumR] at c
    unfold rowGo
    split
    · rfl
    · refine rowGo_big r _ (fun y hy => h y (by simp [hy])) (by simp; omega) (by simp; omega)
theorem rowGo_len : ∀ (l : List S117) (s : List Int), (∀ x ∈ l, 1 ≤ x.f1 ∧ x.f1 ≤ 32) → s.length ≤ 32 → (rowGo l s).length ≤ 32
  | [], s, _, h => by simpa [rowGo] using h
  | x :: r, s, h, hs => by
    have hx := h x (by simp)
    unfold rowGo
    split
    · simp
    · exact rowGo_len r _ (fun y hy => h y (by simp [hy])) (by simp; omega)
theorem rowOf_len (l : List S117) : (rowOf l).length ≤ 32 := by
  unfold rowOf
  split
  case isTrue c => exact rowGo_len l [] (runs_all l none c) (by simp)
  case isFalse => simp
theorem iRowOf_loop (l : List S117) (hall : ∀ x ∈ l, 1 ≤ x.f1 ∧ x.f1 ≤ 32) (hm : l.length ≤ maxLen) (ht : sumR l ≤ 32) : Ev (fun k => impl_RowOf.l0 k [] l l.length 0) (rowGo l []) := by
  refine ev_loop l (F := fun k s i => impl_RowOf.l0 k s l l.length i) (fun _ r s => (s.length : Int) + sumR r ≤ 32) (fun _ r s => rowGo r s) ?_ ?_ [] (by simpa using ht)
  · intro s _; simp only [impl_RowOf.l0, end_lt, if_false]; exact Ev.now _
  · rintro pre x rest s e hs ih
    have hx := hall x (by rw [e]; simp)
    have hr := sumR_nn rest (fun y hy => hall y (by rw [e]; simp [hy]))
    simp only [sumR] at hs
    subst e
    simp only [impl_RowOf.l0, mid_lt, mid_nn, mid_wrap hm, if_true, rd_T117, Int.toNat_natCast, mid_get, rowGo]
    simp only [if_neg (show ¬ (s.length : Int) + x.f1 > 32 by omega)]
    refine ev_rep (F := fun k s j => impl_RowOf.l1 k s j (pre ++ x :: rest) ((pre ++ x :: rest).length : Int) pre.length x.f0 x.f1) x.f0 x.f1 s (by omega) (by omega) ?_ ?_
    · simp only [impl_RowOf.l1, Int.lt_irrefl, if_false, mid_wrap hm]
      exact ih _ (by simp; omega)
    · intro s' i h0 h1 hs' h
      have c4 : s'.length < 17592186044416 := by omega
      have hw2 : wrap64 (i + 1) = i + 1 := wrap_id (by omega) (by omega)
      simp only [impl_RowOf.l1, if_pos h1, if_pos c4, hw2]; exact h
theorem iRowOf_ev (l : List S117) (hl : (l.length : Int) ≤ 1048576) : Ev (fun k => impl_RowOf.f k l) (rowOf l) := by
  have hm : l.length ≤ maxLen := by rw [maxLen_eq]; omega
  simp only [impl_RowOf.f]
  unfold rowOf
  refine Ev.bind (iRunsOk_ev l hm) ?_
  by_cases c : runsFrom none l = true
  · have hall := runs_all l none c
    simp only [if_pos c]
    refine Ev.bind (iRunsLength_ev l hm) (Ev.up ?_)
    rw [runsLen_sum l 0 hall (by omega) (by omega)]
    have hr := sumR_nn l hall
    by_cases ct : sumR l > 32
    · have ct' : (0 : Int) + sumR l > 32 := by omega
      simp only [impl_RowOf.j0, decide_eq_true ct', if_true]
      exact Ev.val (rowGo_big l [] hall (by simp) (by simpa using ct)).symm
    · have ct' : ¬ (0 : Int) + sumR l > 32 := by omega
      simp only [impl_RowOf.j0, decide_eq_false ct', Bool.false_eq_true, if_false]
      exact iRowOf_loop l hall hm (by omega)
  · simp only [if_neg c]
    exact Ev.up (by simp only [impl_RowOf.j0, if_true]; exact Ev.now _)
theorem sRowOf_ev (l : List S117) (hm : l.length ≤ maxLen) : Ev (fun k => spec_RowOf.f k l) (rowOf l) := by
  simp only [spec_RowOf.f, Option.bind_some]
  unfold rowOf
  refine Ev.bind (sRunsOk_ev l hm) ?_
  by_cases c : runsFrom none l = true
  · simp only [if_pos c]
    have hall := runs_all l none c
    refine ev_loop l (F := fun k s i => spec_RowOf.l0 k l s i) (fun _ _ s => s.length ≤ 32) (fun _ r s => rowGo r s) ?_ ?_ [] (by simp)
    · intro s _; simp only [spec_RowOf.l0, end_lt, if_false]; exact Ev.now _
    · rintro pre x rest s e hs ih
      have hx := hall x (by rw [e]; simp)
      have hw : wrap64 ((s.length : Int) + x.f1) = s.length + x.f1 := wrap_id (by omega) (by omega)
      clear hall c
      subst e
      simp only [spec_RowOf.l0, mid_lt, mid_nn, mid_wrap hm, if_true, rd_T117, Int.toNat_natCast, mid_get, hw, rowGo]
      by_cases cx : (s.length : Int) + x.f1 > 32
      · simp only [if_pos cx]; exact Ev.now _
      · simp only [if_neg cx]
        refine ev_rep (F := fun k s j => spec_RowOf.l1 k (pre ++ x :: rest) s pre.length j) x.f0 x.f1 s (by omega) (by omega) ?_ ?_
        · simp only [spec_RowOf.l1, mid_lt, mid_nn, mid_wrap hm, if_true, rd_T117, Int.toNat_natCast, mid_get, Int.lt_irrefl, if_false]
          exact ih _ (by simp; omega)
        · intro s' i h0 h1 hs' h
          have c4 : s'.length < 17592186044416 := by omega
          have hw2 : wrap64 (i + 1) = i + 1 := wrap_id (by omega) (by omega)
          simp only [spec_RowOf.l1, mid_lt, mid_nn, if_true, rd_T117, Int.toNat_natCast, mid_get, if_pos h1, if_pos c4, hw2]; exact h
  · simp only [if_neg c]; exact Ev.now _

def flatR : List S117 → List Int
  | [] => []
  | x :: r => x.f0 :: x.f1 :: flatR r
theorem flatR_len : ∀ l : List S117, (flatR l).length = 2 * l.length
  | [] => rfl
  | x :: r => by simp [flatR, flatR_len r]; omega
def packRow (l : List Int) : Bool × List Int := if rowOk l = true then (if 2 * ((runsOf l).length : Int) ≥ 32 then (true, l) else (false, flatR (runsOf l))) else (false, [])
theorem rowOk_len {l : List Int} (h : rowOk l = true) : l.length = 32 := by unfold rowOk at h; simp at h; omega
theorem packRow_len (l : List Int) : (packRow l).2.length ≤ 32 := by
  unfold packRow
  split
  case isTrue c =>
    split
    · simp [rowOk_len c]
    · rw [flatR_len]; omega
  case isFalse => simp
theorem clone_eq (l : List Int) (h : l.length ≤ 64) : slices_Clone_int_int.f l = some l := by
  have c : l.length < 17592186044416 := by omega
  simp [slices_Clone_int_int.f, c]
theorem iPackRow_ev (l : List Int) : Ev (fun k => impl_PackRow.f k l) (packRow l) := by
  simp only [impl_PackRow.f]
  unfold packRow
  refine Ev.bind (rowOk_ev l) (Ev.ite (fun c => ?_) (fun c => ?_))
  · rw [if_pos c]
    refine Ev.bind (iRunsOf_ev l) ?_
    have hR := (runsOf_inv l).1
    have hl := rowOk_len c
    generalize runsOf l = q at hR ⊢
    have hm : q.length ≤ maxLen := by rw [maxLen_eq]; omega
    refine ev_loop q (F := fun k s i => impl_PackRow.l0 k l s q q.length i) (fun p _ s => s.length = 2 * p.length) (fun _ r s => if 2 * (q.length : Int) ≥ 32 then (true, l) else (false, s ++ flatR r)) ?_ ?_ [] rfl
    · intro s hs
      simp only [impl_PackRow.l0, end_lt, if_false, clone_eq l (by omega), Option.bind_some]
      by_cases cn : (s.length : Int) < 32
      · simp only [if_pos cn]; rw [if_neg (by omega)]; exact Ev.val (by simp [flatR])
      · simp only [if_neg cn]; rw [if_pos (by omega)]; exact Ev.now _
    · rintro pre x rest s e hs ih
      have hql : (q.length : Int) = (pre ++ x :: rest).length := by rw [e]
      have hq2 : q.length ≤ 32 := hR
      subst e
      have hp : pre.length < 32 := by simp at hR; omega
      have c4 : s.length + [x.f0, x.f1].length < 17592186044416 := by simp; omega
      simp only [impl_PackRow.l0, mid_lt, mid_nn, mid_wrap hm, if_true, rd_T117, Int.toNat_natCast, mid_get, Option.bind_some, if_pos c4]
      have := ih (s ++ [x.f0, x.f1]) (by simp; omega)
      simpa [flatR] using this
  · rw [if_neg c]; exact Ev.now _
theorem l05Copy_eq (l : List Int) (h : l.length ≤ 64) : spec_l05Copy.f l = some l := by
  have c : l.length < 17592186044416 := by omega
  simp [spec_l05Copy.f, c]
theorem sPackRow_ev (l : List Int) (hlm : l.length ≤ maxLen) : Ev (fun k => spec_PackRow.f k l) (packRow l) := by
  simp only [spec_PackRow.f]
  unfold packRow
  refine Ev.bind (l11Row_ev l hlm) (Ev.ite (fun c => ?_) (fun c => ?_))
  · rw [if_pos c]
    refine Ev.bind (sRunsOf_ev l) ?_
    have hR := (runsOf_inv l).1
    have hl := rowOk_len c
    generalize runsOf l = q at hR ⊢
    have hm : q.length ≤ maxLen := by rw [maxLen_eq]; omega
    have hw : wrap64 (2 * (q.length : Int)) = 2 * q.length := wrap_id (by omega) (by omega)
    simp only [hw]
    refine Ev.ite (fun cn => ?_) (fun cn => ?_)
    · rw [if_pos cn]
      simp only [l05Copy_eq l (by omega), Option.bind_some]
      exact Ev.now _
    · rw [if_neg cn]
      refine ev_loop q (F := fun k s i => spec_PackRow.l0 k q i false s) (fun p _ s => s.length = 2 * p.length) (fun _ r s => (false, s ++ flatR r)) ?_ ?_ [] rfl
      · intro s hs
        simp only [spec_PackRow.l0, end_lt, if_false]
        exact Ev.val (by simp [flatR])
      · rintro pre x rest s e hs ih
        subst e
        have hp : pre.length < 32 := by simp at hR; omega
        have c4 : s.length + [x.f0, x.f1].length < 17592186044416 := by simp; omega
        simp only [spec_PackRow.l0, mid_lt, mid_nn, mid_wrap hm, if_true, rd_T117, Int.toNat_natCast, mid_get, Option.bind_some, if_pos c4]
        have := ih (s ++ [x.f0, x.f1]) (by simp; omega)
        simpa [flatR] using this
  · rw [if_neg c]; exact Ev.now _

end Go.Proofs.Ytimpejidlnjhlaa.Pure
namespace Go.Proofs.Ytimpejidlnjhlaa.Pure
open Go.RowKit Go.Proofs.Ytimpejidlnjhlaa.QFnExactUnpackRow Go.Proofs.YtimpejidlnjhlaaW.PrintWords Go.Proofs.YtimpejidlnjhlaaW.PrintLast Go.Proofs.Ytimpejidlnjhlaa.Plain

abbrev BoxT := Int × Int × Int × Int
theorem mx_self (a : Int) : mx a a = a := by unfold mx; split <;> rfl
theorem mn_self (a : Int) : mn a a = a := by unfold mn; split <;> rfl
theorem mx_comm (a b : Int) : mx a b = mx b a := by unfold mx; omega
theorem mn_comm (a b : Int) : mn a b = mn b a := by unfold mn; omega
def meet (p q : BoxT) : BoxT := if boxOk p.1 p.2.1 p.2.2.1 p.2.2.2 = true ∧ boxOk q.1 q.2.1 q.2.2.1 q.2.2.2 = true ∧ mx p.1 q.1 < mn p.2.2.1 q.2.2.1 ∧ mx p.2.1 q.2.1 < mn p.2.2.2 q.2.2.2 then (mx p.1 q.1, mx p.2.1 q.2.1, mn p.2.2.1 q.2.2.1, mn p.2.2.2 q.2.2.2) else (0, 0, 0, 0)
/-- A loop that counts from lo to hi. -/
theorem ev_range {σ β : Type} {F : Nat → σ → Int → Option β} (lo hi : Int) (hlh : lo ≤ hi) (Inv : Int → σ → Prop) (r : β)
    (hnil : ∀ s, Inv hi s → Ev (fun k => F (k + 1) s hi) r)
    (hcons : ∀ i s, lo ≤ i → i < hi → Inv i s → (∀ s', Inv (i + 1) s' → Ev (fun k => F k s' (i + 1)) r) → Ev (fun k => F (k + 1) s i) r) :
    ∀ s, Inv lo s → Ev (fun k => F k s lo) r := by
  have main : ∀ (n : Nat) (i : Int) (s : σ), lo ≤ i → i + n = hi → Inv i s → Ev (fun k => F k s i) r := by
    intro n
    induction n with
    | zero =>
      intro i s h0 h1 hI
      have e : i = hi := by omega
      subst e
      exact Ev.up (hnil s hI)
    | succ n ih =>
      intro i s h0 h1 hI
      exact Ev.up (hcons i s h0 (by omega) hI (fun s' hI' => ih (i + 1) s' (by omega) (by omega) hI'))
  intro s hI
  exact main (hi - lo).toNat lo s (by omega) (by omega) hI
def inPage (p : BoxT) : Prop := 0 ≤ p.1 ∧ p.1 ≤ p.2.2.1 ∧ p.2.2.1 ≤ 32 ∧ 0 ≤ p.2.1 ∧ p.2.1 ≤ p.2.2.2 ∧ p.2.2.2 ≤ 32
theorem meet_page (p : BoxT) : inPage (meet p (0, 0, 32, 32)) := by
  unfold meet
  by_cases c : boxOk p.1 p.2.1 p.2.2.1 p.2.2.2 = true ∧ boxOk 0 0 32 32 = true ∧ mx p.1 0 < mn p.2.2.1 32 ∧ mx p.2.1 0 < mn p.2.2.2 32
  · rw [if_pos c]
    obtain ⟨_, _, h3, h4⟩ := c
    unfold inPage
    simp only
    unfold mx mn at *
    omega
  · rw [if_neg c]; simp [inPage]
def cntD (p : BoxT) : Int := if boxOk p.1 p.2.1 p.2.2.1 p.2.2.2 = true then wrap64 (wrap64 (p.2.2.1 - p.1) * wrap64 (p.2.2.2 - p.2.1)) else 0
end Go.Proofs.Ytimpejidlnjhlaa.Pure
namespace Go.Proofs.Ytimpejidlnjhlaa.Pure
open Go.RowKit Go.Proofs.Ytimpejidlnjhlaa.QFnExactUnpackRow Go.Proofs.YtimpejidlnjhlaaW.PrintWords Go.Proofs.YtimpejidlnjhlaaW.PrintLast Go.Proofs.Ytimpejidlnjhlaa.Plain

section
variable {α : Type} (mk : Int → α → α) (ln : α → Int)
def mkAll : Int → List α → List α
  | _, [] => []
  | a, x :: r => mk a x :: mkAll (a + ln x) r
def lnAll : List α → Int
  | [] => 0
  | x :: r => ln x + lnAll r
theorem mkAll_length : ∀ (a : Int) (l : List α), (mkAll mk ln a l).length = l.length
  | _, [] => rfl
  | a, x :: r => by simp [mkAll, mkAll_length (a + ln x) r]
theorem lnAll_nn : ∀ l : List α, (∀ x ∈ l, 0 ≤ ln x) → 0 ≤ lnAll ln l
  | [], _ => Int.le_refl _
  | x :: r, h => by
    have h1 := h x (by simp)
    have h2 := lnAll_nn r (fun y hy => h y (by simp [hy]))
    unfold lnAll; omega
theorem lnAll_le : ∀ l : List α, (∀ x ∈ l, ln x ≤ 4194304) → lnAll ln l ≤ 4194304 * l.length
  | [], _ => by simp [lnAll]
  | x :: r, h => by
    have h1 := h x (by simp)
    have h2 := lnAll_le r (fun y hy => h y (by simp [hy]))
    unfold lnAll; rw [List.length_cons]; omega
theorem ev_mark (xs : List α) {F : Nat → List α → Int → Int → Option (Int × List α)} (a : Int) (hn : ∀ x ∈ xs, 0 ≤ ln x)
    (hnil : ∀ s b, s.length = xs.length → Ev (fun k => F (k + 1) s b (xs.length : Int)) (b, s))
    (hcons : ∀ (done : List α) x rest b, done.length + (rest.length + 1) = xs.length → x ∈ xs → a ≤ b → b + ln x ≤ a + lnAll ln xs → ∀ r, Ev (fun k => F k (done ++ mk b x :: rest) (b + ln x) ((done.length : Int) + 1)) r → Ev (fun k => F (k + 1) (done ++ x :: rest) b (done.length : Int)) r) :
    Ev (fun k => F k xs a 0) (a + lnAll ln xs, mkAll mk ln a xs) := by
  have main : ∀ (rest done : List α) (b : Int), done.length + rest.length = xs.length → (∀ x ∈ rest, x ∈ xs) → a ≤ b → b + lnAll ln rest = a + lnAll ln xs → Ev (fun k => F k (done ++ rest) b (done.length : Int)) (a + lnAll ln xs, done ++ mkAll mk ln b rest) := by
    intro rest
    induction rest with
    | nil =>
      intro done b hl _ _ hb
      have h := hnil (done ++ []) b (by simpa using hl)
      have e : (done.length : Int) = xs.length := by simp at hl; omega
      have e2 : b = a + lnAll ln xs := by simpa [lnAll] using hb
      rw [e, ← e2]
      simpa [mkAll] using Ev.up (g := fun k => F k (done ++ []) b (xs.length : Int)) h
    | cons x rest ih =>
      intro done b hl hm hab hb
      have hx := hm x (by simp)
      have h0 := hn x hx
      have h1 := lnAll_nn ln rest (fun y hy => hn y (hm y (by simp [hy])))
      have hb' : ln x + lnAll ln rest + b = a + lnAll ln xs := by simp only [lnAll] at hb; omega
      refine Ev.up (hcons done x rest b (by simpa using hl) hx hab (by omega) _ ?_)
      have h := ih (done ++ [mk b x]) (b + ln x) (by simp at hl ⊢; omega) (fun y hy => hm y (by simp [hy])) (by omega) (by omega)
      have e : ((done ++ [mk b x]).length : Int) = (done.length : Int) + 1 := by simp
      rw [e] at h
      simpa [mkAll] using h
  simpa using main xs [] a (by simp) (fun _ h => h) (Int.le_refl _) rfl
theorem ev_held (xs : List α) {F : Nat → Int → Int → Option Int} (a : Int) (hn : ∀ x ∈ xs, 0 ≤ ln x)
    (hnil : ∀ b, Ev (fun k => F (k + 1) b ((mkAll mk ln a xs).length : Int)) b)
    (hcons : ∀ pre x rest b, mkAll mk ln a xs = pre ++ mk b x :: rest → x ∈ xs → a ≤ b → b + ln x ≤ a + lnAll ln xs → ∀ r, Ev (fun k => F k (b + ln x) ((pre.length : Int) + 1)) r → Ev (fun k => F (k + 1) b (pre.length : Int)) r) :
    Ev (fun k => F k a 0) (a + lnAll ln xs) := by
  have main : ∀ (rest : List α) (pre : List α) (b : Int), mkAll mk ln a xs = pre ++ mkAll mk ln b rest → (∀ x ∈ rest, x ∈ xs) → a ≤ b → b + lnAll ln rest = a + lnAll ln xs → Ev (fun k => F k b (pre.length : Int)) (a + lnAll ln xs) := by
    intro rest
    induction rest with
    | nil =>
      intro pre b he _ _ hb
      have e : mkAll mk ln a xs = pre := by simpa [mkAll] using he
      have e2 : b = a + lnAll ln xs := by simpa [lnAll] using hb
      have h := hnil b
      rw [e] at h
      rw [← e2]
      exact Ev.up h
    | cons x rest ih =>
      intro pre b he hm hab hb
      have hx := hm x (by simp)
      have h0 := hn x hx
      have h1 := lnAll_nn ln rest (fun y hy => hn y (hm y (by simp [hy])))
      have hb' : ln x + lnAll ln rest + b = a + lnAll ln xs := by simp only [lnAll] at hb; omega
      refine Ev.up (hcons pre x (mkAll mk ln (b + ln x) rest) b he hx hab (by omega) _ ?_)
      have h := ih (pre ++ [mk b x]) (b + ln x) (by rw [he]; simp [mkAll]) (fun y hy => hm y (by simp [hy])) (by omega) (by omega)
      have e : ((pre ++ [mk b x]).length : Int) = (pre.length : Int) + 1 := by simp
      rw [e] at h
      exact h
  simpa using main xs [] a rfl (fun _ h => h) (Int.le_refl _) rfl
end
theorem set_mid {α : Type} (done rest : List α) (x y : α) : (done ++ x :: rest).set done.length y = done ++ y :: rest := by
  rw [List.set_append_right _ _ (Nat.le_refl _), Nat.sub_self]; rfl
theorem mid_lt2 {α : Type} (done rest : List α) (x : α) : ((done.length : Int) < ((done ++ x :: rest).length : Int)) = True := mid_lt
theorem mid_w2 {n : Nat} (h : n + 1 ≤ maxLen) : wrap64 ((n : Int) + 1) = (n : Int) + 1 := by rw [maxLen_eq] at h; exact wrap_id (by omega) (by omega)
end Go.Proofs.Ytimpejidlnjhlaa.Pure
namespace Go.Proofs.Ytimpejidlnjhlaa.Pure
open Go.RowKit Go.Proofs.Ytimpejidlnjhlaa.QFnExactUnpackRow Go.Proofs.YtimpejidlnjhlaaW.PrintWords Go.Proofs.YtimpejidlnjhlaaW.PrintLast Go.Proofs.Ytimpejidlnjhlaa.Plain

def prs : List Int → List S117
  | a :: b :: r => ⟨a, b⟩ :: prs r
  | _ => []
theorem prs_len : ∀ l : List Int, 2 * (prs l).length ≤ l.length
  | [] => by simp [prs]
  | [_] => by simp [prs]
  | a :: b :: r => by have := prs_len r; simp only [prs, List.length_cons]; omega
def unpR (row : List Int) (raw : Bool) (d : List Int) : List Int × Bool := if rowOk row = true then (if packRow row = (raw, d) then (row, true) else ([], false)) else ([], false)
def unp (raw : Bool) (d : List Int) : List Int × Bool := unpR (if raw = true then d else rowOf (prs d)) raw d
theorem unpR_ok {row : List Int} {raw : Bool} {d : List Int} : (unpR row raw d).1.length ≤ 32 ∧ ((unpR row raw d).2 = true → (unpR row raw d).1.length = 32) := by
  unfold unpR
  split
  · rename_i c
    have h := rowOk_len c
    split
    · simp; omega
    · simp
  · simp
theorem unp_len (raw : Bool) (d : List Int) : (unp raw d).1.length ≤ 32 ∧ ((unp raw d).2 = true → (unp raw d).1.length = 32) := unpR_ok
theorem packRow_even {row d : List Int} (h : packRow row = (false, d)) : d.length % 2 = 0 := by
  unfold packRow at h
  split at h
  · split at h
    · simp at h
    · simp only [Prod.mk.injEq, true_and] at h
      rw [← h, flatR_len]; omega
  · simp only [Prod.mk.injEq, true_and] at h
    rw [← h]; rfl
theorem unp_odd {d : List Int} (h : d.length % 2 ≠ 0) : unp false d = ([], false) := by
  unfold unp unpR
  simp only [Bool.false_eq_true, if_false]
  split
  · split
    · rename_i c; exact absurd (packRow_even c) h
    · rfl
  · rfl
theorem same_loop {F : Nat → Int → Option Bool} {l1 l2 : List Int}
    (hend : Ev (fun k => F (k + 1) (l1.length : Int)) true)
    (hstep : ∀ (p1 p2 : List Int) a b r1 r2, l1 = p1 ++ a :: r1 → l2 = p2 ++ b :: r2 → p1.length = p2.length → (a = b → Ev (fun k => F k ((p1.length : Int) + 1)) (decide (r1 = r2))) → Ev (fun k => F (k + 1) (p1.length : Int)) (decide (a :: r1 = b :: r2))) (hl : l1.length = l2.length) :
    Ev (fun k => F k 0) (decide (l1 = l2)) := by
  have main : ∀ (r1 r2 p1 p2 : List Int), l1 = p1 ++ r1 → l2 = p2 ++ r2 → p1.length = p2.length → Ev (fun k => F k (p1.length : Int)) (decide (r1 = r2)) := by
    intro r1
    induction r1 with
    | nil =>
      intro r2 p1 p2 e1 e2 hp
      have hr : r2 = [] := by
        rw [e1, e2] at hl; simp at hl
        exact List.eq_nil_of_length_eq_zero (by omega)
      subst hr
      have e : p1.length = l1.length := by rw [e1]; simp
      rw [e]
      exact Ev.up (by simpa using hend)
    | cons a r1 ih =>
      intro r2 p1 p2 e1 e2 hp
      cases r2 with
      | nil => rw [e1, e2] at hl; simp at hl; omega
      | cons b r2 =>
        refine Ev.up (hstep p1 p2 a b r1 r2 e1 e2 hp (fun _ => ?_))
        have h := ih r2 (p1 ++ [a]) (p2 ++ [b]) (by simp [e1]) (by simp [e2]) (by simp [hp])
        have e : ((p1 ++ [a]).length : Int) = (p1.length : Int) + 1 := by simp
        rw [e] at h
        exact h
  simpa using main l1 l2 [] [] rfl rfl rfl
theorem equal_ev (l1 l2 : List Int) (hm : (l1.length : Int) ≤ 1048576) : Ev (fun k => slices_Equal_int_int.f k l1 l2) (decide (l1 = l2)) := by
  simp only [slices_Equal_int_int.f]
  by_cases c : (l1.length : Int) = (l2.length : Int)
  · simp only [if_pos c]
    refine same_loop (F := fun k i => slices_Equal_int_int.l0 k l1 l2 l1.length i) ?_ ?_ (by omega)
    · simp only [slices_Equal_int_int.l0, Int.lt_irrefl, if_false]; exact Ev.now _
    · intro p1 p2 a b r1 r2 e1 e2 hp h
      have h1 : (p1.length : Int) < (l1.length : Int) := by rw [e1]; simp; omega
      have h2 : (p1.length : Int) < (l2.length : Int) := by rw [e2, hp]; simp; omega
      have g1 : rd l1 (p1.length : Int) = a := by rw [e1]; exact mid_get _
      have g2 : rd l2 (p1.length : Int) = b := by rw [e2, hp]; exact mid_get _
      have hw : wrap64 ((p1.length : Int) + 1) = (p1.length : Int) + 1 := wrap_id (by omega) (by omega)
      simp only [slices_Equal_int_int.l0, if_pos h1, mid_nn, if_true, if_pos h2, g1, g2, hw]
      refine Ev.ite (fun e => ?_) (fun e => Ev.val (by simp [e]))
      have h3 := h e
      subst e
      simpa using h3
  · simp only [if_neg c]
    exact Ev.val (by rw [decide_eq_false]; intro e; rw [e] at c; exact c rfl)
theorem sSame_ev (p : Bool) (l1 : List Int) (q : Bool) (l2 : List Int) (hm : (l1.length : Int) ≤ 1048576) : Ev (fun k => spec_l15Same.f k p l1 q l2) (decide ((p, l1) = (q, l2))) := by
  simp only [spec_l15Same.f]
  by_cases c : p = q
  · subst c
    simp only [bne_self_eq_false, Bool.false_eq_true, if_false]
    refine Ev.up ?_
    simp only [spec_l15Same.j0]
    by_cases c : l1.length = l2.length
    · have cb : ((l1.length : Int) != (l2.length : Int)) = false := by simp [c]
      simp only [cb, Bool.false_eq_true, if_false]
      have hv : decide ((p, l1) = (p, l2)) = decide (l1 = l2) := by simp
      rw [hv]
      refine same_loop (F := fun k i => spec_l15Same.l0 k i p l1 p l2) ?_ ?_ c
      · simp only [spec_l15Same.l0, Int.lt_irrefl, if_false]; exact Ev.now _
      · intro p1 p2 a b r1 r2 e1 e2 hp h
        have h1 : (p1.length : Int) < (l1.length : Int) := by rw [e1]; simp; omega
        have h2 : (p1.length : Int) < (l2.length : Int) := by rw [e2, hp]; simp; omega
        have g1 : rd l1 (p1.length : Int) = a := by rw [e1]; exact mid_get _
        have g2 : rd l2 (p1.length : Int) = b := by rw [e2, hp]; exact mid_get _
        have hw : wrap64 ((p1.length : Int) + 1) = (p1.length : Int) + 1 := wrap_id (by omega) (by omega)
        simp only [spec_l15Same.l0, if_pos h1, mid_nn, if_true, if_pos h2, g1, g2, hw]
        refine Ev.ite (fun e => ?_) (fun e => Ev.val (by simp [e]))
        have h3 := h e
        subst e
        simpa using h3
    · have cb : ((l1.length : Int) != (l2.length : Int)) = true := by simp; omega
      simp only [cb, if_true]
      exact Ev.val (by rw [decide_eq_false]; intro e; simp only [Prod.mk.injEq, true_and] at e; rw [e] at c; exact c rfl)
  · have cb : (p != q) = true := by simpa using c
    simp only [cb, if_true]
    refine Ev.up ?_
    simp only [spec_l15Same.j0, if_true]
    exact Ev.val (by rw [decide_eq_false]; intro e; simp only [Prod.mk.injEq] at e; exact c e.1)
theorem iUnpJ (row : List Int) (raw : Bool) (d : List Int) : Ev (fun k => impl_UnpackRow.j1 k row raw d) (unpR row raw d) := by
  refine Ev.up ?_
  simp only [impl_UnpackRow.j1]
  unfold unpR
  refine Ev.bind (rowOk_ev row) (Ev.ite (fun c => ?_) (fun c => ?_))
  · rw [if_pos c]
    refine Ev.bind (iPackRow_ev row) ?_
    have hl := packRow_len row
    generalize packRow row = Q at hl ⊢
    obtain ⟨q1, q2⟩ := Q
    simp only at hl ⊢
    by_cases e : q1 = raw
    · subst e
      simp only [bne_self_eq_false, Bool.false_eq_true, if_false]
      refine Ev.bind (equal_ev q2 d (by omega)) ?_
      by_cases e2 : q2 = d
      · subst e2
        simp only [decide_true, if_true]; exact Ev.now _
      · simp only [decide_eq_false e2, Bool.false_eq_true, if_false]
        rw [if_neg (by simpa using e2)]; exact Ev.now _
    · have cb : (q1 != raw) = true := by simpa using e
      simp only [cb, if_true]
      rw [if_neg (by simp [e])]; exact Ev.now _
  · rw [if_neg c]; exact Ev.now _
theorem iUnpL (d T : List Int) (R : List S117) (hd : (d.length : Int) ≤ 1048576) (V : List Int × Bool)
    (hk : Ev (fun k => (impl_RowOf.f k R).bind fun t => (impl_UnpackRow.j1 k t false d)) V) :
    ∀ (n : Nat) (rest pre : List Int) (s : List S117), rest.length = 2 * n → d = pre ++ rest → s.length ≤ pre.length → s ++ prs rest = R → Ev (fun k => impl_UnpackRow.l0 k s (pre.length : Int) false d) V
  | 0, rest, pre, s, hn, e, hs, hR => by
    have hr : rest = [] := List.eq_nil_of_length_eq_zero (by omega)
    subst hr
    have e2 : s = R := by simpa [prs] using hR
    have e3 : pre.length = d.length := by rw [e]; simp
    refine Ev.up ?_
    simp only [impl_UnpackRow.l0, e3, Int.lt_irrefl, if_false, e2]
    exact hk
  | n + 1, [], pre, s, hn, _, _, _ => by simp at hn
  | n + 1, [_], pre, s, hn, _, _, _ => by simp at hn; omega
  | n + 1, a :: b :: r, pre, s, hn, e, hs, hR => by
    have hdl : (pre.length : Int) + 2 + r.length = d.length := by rw [e]; simp; omega
    refine Ev.up ?_
    have h1 : (pre.length : Int) < (d.length : Int) := by omega
    have w1 : wrap64 ((pre.length : Int) + 1) = ((pre ++ [a]).length : Int) := by rw [wrap_id (by omega) (by omega)]; simp
    have w2 : wrap64 ((pre.length : Int) + 2) = ((pre ++ [a, b]).length : Int) := by rw [wrap_id (by omega) (by omega)]; simp
    have h2 : ((pre ++ [a]).length : Int) < (d.length : Int) := by simp; omega
    have hs8 : s.length < 8796093022208 := by omega
    have g1 : rd d (pre.length : Int) = a := by rw [e]; exact mid_get _
    have g2 : rd d ((pre ++ [a]).length : Int) = b := by rw [e, show pre ++ a :: b :: r = (pre ++ [a]) ++ b :: r by simp]; exact mid_get _
    simp only [impl_UnpackRow.l0, if_pos h1, mid_nn, if_true, w1, w2, if_pos h2, if_pos hs8, g1, g2]
    exact iUnpL d T R hd V hk n r (pre ++ [a, b]) (s ++ [⟨a, b⟩]) (by simp at hn; omega) (by simp [e]) (by simp; omega) (by rw [← hR]; simp [prs])
theorem iUnpackRow_ev (raw : Bool) (d : List Int) (hd : (d.length : Int) ≤ 1048576) : Ev (fun k => impl_UnpackRow.f k raw d) (unp raw d) := by
  have hc : slices_Clone_int_int.f d = some d := by
    have c : d.length < 17592186044416 := by omega
    simp [slices_Clone_int_int.f, c]
  simp only [impl_UnpackRow.f, hc, Option.bind_some]
  cases raw with
  | true => simp only [if_true]; exact iUnpJ d true d
  | false =>
    simp only [Bool.false_eq_true, if_false]
    refine Ev.ite (fun c => ?_) (fun c => ?_)
    · have hp := prs_len d
      refine iUnpL d [] (prs d) hd _ ?_ (d.length / 2) d [] [] (by omega) rfl (by simp) (by simp)
      exact Ev.bind (iRowOf_ev (prs d) (by omega)) (iUnpJ _ false d)
    · rw [unp_odd (by omega)]; exact Ev.now _
theorem sUnpJ (row : List Int) (raw : Bool) (d : List Int) (hm : row.length ≤ maxLen) : Ev (fun k => spec_UnpackRow.j1 k row raw d) (unpR row raw d) := by
  refine Ev.up ?_
  simp only [spec_UnpackRow.j1]
  unfold unpR
  refine Ev.bind (l11Row_ev row hm) (Ev.ite (fun c => ?_) (fun c => ?_))
  · rw [if_pos c]
    refine Ev.bind (sPackRow_ev row hm) ?_
    have hl := packRow_len row
    generalize packRow row = Q at hl ⊢
    refine Ev.bind (sSame_ev Q.1 Q.2 raw d (by omega)) ?_
    by_cases e : Q = (raw, d)
    · rw [if_pos e]
      have e2 : decide ((Q.1, Q.2) = (raw, d)) = true := decide_eq_true e
      simp only [e2, if_true]; exact Ev.now _
    · rw [if_neg e]
      have e2 : decide ((Q.1, Q.2) = (raw, d)) = false := decide_eq_false e
      simp only [e2, Bool.false_eq_true, if_false]; exact Ev.now _
  · rw [if_neg c]; exact Ev.now _
theorem sUnpL (d : List Int) (R : List S117) (hd : (d.length : Int) ≤ 1048576) (V : List Int × Bool)
    (hk : Ev (fun k => (spec_RowOf.f k R).bind fun t => (spec_UnpackRow.j1 k t false d)) V) :
    ∀ (n : Nat) (rest pre : List Int) (s : List S117), rest.length / 2 = n → d = pre ++ rest → s.length ≤ pre.length → s ++ prs rest = R → Ev (fun k => spec_UnpackRow.l0 k s (pre.length : Int) false d) V
  | 0, rest, pre, s, hn, e, hs, hR => by
    have hr : rest.length < 2 := by omega
    have hp : prs rest = [] := by
      match rest, hr with
      | [], _ => rfl
      | [_], _ => rfl
      | _ :: _ :: _, h => simp at h; omega
    have e2 : s = R := by rw [hp] at hR; simpa using hR
    have hdl : (pre.length : Int) + rest.length = d.length := by rw [e]; simp
    have hw : wrap64 ((pre.length : Int) + 1) = (pre.length : Int) + 1 := wrap_id (by omega) (by omega)
    refine Ev.up ?_
    simp only [spec_UnpackRow.l0, hw, if_neg (show ¬ (pre.length : Int) + 1 < (d.length : Int) by omega), e2]
    exact hk
  | n + 1, [], pre, s, hn, _, _, _ => by simp at hn
  | n + 1, [_], pre, s, hn, _, _, _ => by simp at hn
  | n + 1, a :: b :: r, pre, s, hn, e, hs, hR => by
    have hdl : (pre.length : Int) + 2 + r.length = d.length := by rw [e]; simp; omega
    refine Ev.up ?_
    have h1 : (pre.length : Int) < (d.length : Int) := by omega
    have w1 : wrap64 ((pre.length : Int) + 1) = ((pre ++ [a]).length : Int) := by rw [wrap_id (by omega) (by omega)]; simp
    have w2 : wrap64 ((pre.length : Int) + 2) = ((pre ++ [a, b]).length : Int) := by rw [wrap_id (by omega) (by omega)]; simp
    have h2 : ((pre ++ [a]).length : Int) < (d.length : Int) := by simp; omega
    have hs8 : s.length < 8796093022208 := by omega
    have g1 : rd d (pre.length : Int) = a := by rw [e]; exact mid_get _
    have g2 : rd d ((pre ++ [a]).length : Int) = b := by rw [e, show pre ++ a :: b :: r = (pre ++ [a]) ++ b :: r by simp]; exact mid_get _
    simp only [spec_UnpackRow.l0, if_pos h1, mid_nn, if_true, w1, w2, if_pos h2, if_pos hs8, g1, g2]
    exact sUnpL d R hd V hk n r (pre ++ [a, b]) (s ++ [⟨a, b⟩]) (by simp at hn; omega) (by simp [e]) (by simp; omega) (by rw [← hR]; simp [prs])
theorem sUnpackRow_ev (raw : Bool) (d : List Int) (hd : (d.length : Int) ≤ 1048576) : Ev (fun k => spec_UnpackRow.f k raw d) (unp raw d) := by
  have hdm : d.length ≤ maxLen := by rw [maxLen_eq]; omega
  have hc : spec_l05Copy.f d = some d := by
    have c : d.length < 17592186044416 := by omega
    simp [spec_l05Copy.f, c]
  simp only [spec_UnpackRow.f, hc, Option.bind_some]
  cases raw with
  | true => simp only [if_true]; exact sUnpJ d true d hdm
  | false =>
    simp only [Bool.false_eq_true, if_false]
    have hp := prs_len d
    have hrl := rowOf_len (prs d)
    refine sUnpL d (prs d) hd _ ?_ (d.length / 2) d [] [] rfl rfl (by simp) (by simp)
    exact Ev.bind (sRowOf_ev (prs d) (by rw [maxLen_eq]; omega)) (sUnpJ _ false d (by rw [maxLen_eq]; omega))
theorem FnExactUnpackRow (b : Bool) (l : List Int) (h : True ∧ (l.length ≤ maxLen ∧ ∀ y ∈ l, ((Lit.int .i64 y).wf = true))) : ∃ k, laws_FnExactUnpackRow.f k b l = some true := by
  replace h := h.2
  refine Ev.rounds (g := fun k => laws_FnExactUnpackRow.f k b l) ?_
  simp only [laws_FnExactUnpackRow.f, szPacked_eq b l 1048576 h.1 (by omega) (by omega), Option.bind_some]
  refine Ev.ite (fun _ => Ev.now _) (fun cn => ?_)
  have hl : (l.length : Int) ≤ 1048576 := by rcases szN_tells l.length 1048576 (by omega) with hn | h2 <;> omega
  have hm : l.length ≤ maxLen := h.1
  have hto : Ev (fun k => laws_toPacked.f k b l) (b, l) := by
    simp only [laws_toPacked.f]
    exact Ev.bind (toIntS_ev l hl) (Ev.now _)
  have hI := iUnpackRow_ev b l hl
  have hL := (unp_len b l).1
  refine Ev.bind hto (Ev.bind (sUnpackRow_ev b l hl) (Ev.bind hto (Ev.bind hI ?_)))
  generalize unp b l = M at hI hL ⊢
  have hM : M.1.length ≤ maxLen := by rw [maxLen_eq]; omega
  have hE := eqIntS_ev M.1 hM
  have hH := heldIntS_ev M.1.length 1 (by omega) (by omega)
  refine Ev.bind hE (Ev.ite (fun _ => Ev.ite (fun c => absurd c (by simp)) (fun _ => ?_)) (fun c => absurd rfl c))
  refine Ev.bind hto (Ev.bind (eqPacked_ev b l hm) (Ev.ite (fun _ => ?_) (fun c => absurd rfl c)))
  refine Ev.bind (markPacked_ev b l 1 hm (by omega) (by omega)) (Ev.ite (fun c => absurd c (by simp only; omega)) (fun _ => ?_))
  refine Ev.bind hE (Ev.ite (fun _ => ?_) (fun c => absurd rfl c))
  refine Ev.bind (markIntS_ev M.1 1 hM (by omega) (by omega)) ?_
  refine Ev.bind hH (Ev.ite (fun c => absurd c (by omega)) (fun _ => Ev.ite (fun _ => ?_) (fun c => absurd rfl c)))
  refine Ev.bind hto (Ev.bind hI (Ev.bind hE (Ev.ite (fun _ => Ev.ite (fun c => absurd c (by simp)) (fun _ => ?_)) (fun c => absurd rfl c))))
  exact Ev.bind hH (Ev.ite (fun c => absurd c (by omega)) (fun _ => Ev.ite (fun _ => Ev.now _) (fun c => absurd rfl c)))
end Go.Proofs.Ytimpejidlnjhlaa.Pure
