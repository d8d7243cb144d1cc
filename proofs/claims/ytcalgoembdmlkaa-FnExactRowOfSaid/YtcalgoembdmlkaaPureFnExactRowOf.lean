/- The plain law of FnExactRowOf: over numbers and lists, what the printed functions answer, and that the law answers true. -/
import Derived.Test.YtcalgoembdmlkaaQFnExactRowOfx5
import Derived.Test.YtcalgoembdmlkaaPlain
namespace Go.Proofs.Ytcalgoembdmlkaa.Pure
open Go.RowKit Go.Proofs.Ytcalgoembdmlkaa.QFnExactRowOf Go.Proofs.YtcalgoembdmlkaaW.PrintWords Go.Proofs.YtcalgoembdmlkaaW.PrintLast Go.Proofs.Ytcalgoembdmlkaa.Plain

theorem szRunS_eq (l : List S114) (a : Int) (h : l.length ≤ maxLen) (h0 : 0 ≤ a) (h1 : a ≤ 1048576) : laws_szRunS.f l a = some (szN l.length a) := by
  rw [maxLen_eq] at h
  unfold laws_szRunS.f szN
  rw [wrap_id (by omega) (by omega)]
  split <;> rfl
def tRun (r : S114) : S112 := ⟨r.f0, r.f1⟩
theorem toRunS_ev (l : List S114) (h : (l.length : Int) ≤ 1048576) : Ev (fun k => laws_toRunS.f k l) (l.map tRun) := by
  have hm : l.length ≤ maxLen := by rw [maxLen_eq]; omega
  simp only [laws_toRunS.f]
  refine Ev.ite (fun _ => Ev.ite (fun _ => ?_) (fun c => absurd (by omega) c)) (fun c => absurd (by omega) c)
  exact ev_fill l tRun (F := fun k s i => laws_toRunS.l0 k l s i) (fun s => by
    simp only [laws_toRunS.l0, end_lt, if_false]
    exact Ev.now _) (fun pre x rest s r e hs h => by
    subst e
    simp only [laws_toRunS.l0, hs, mid_lt, mid_nn, mid_wrap hm, if_true, rd_T114, Int.toNat_natCast, mid_get, laws_toRun.f, Option.bind_some]
    exact h) _ (by simp)
theorem eqIntS_ev (l : List Int) (hm : l.length ≤ maxLen) : Ev (fun k => laws_eqIntS.f k l l) true := by
  simp only [laws_eqIntS.f, if_true]
  refine ev_loop0 l (F := fun k i => laws_eqIntS.l0 k l l i) (fun _ _ => true) ?_ (fun pre x rest e h => ?_)
  · simp only [laws_eqIntS.l0, end_lt, if_false]; exact Ev.now _
  · subst e
    simp only [laws_eqIntS.l0, mid_lt, mid_nn, mid_wrap hm, if_true]
    exact h
theorem eqRunS_ev (l : List S112) (hm : l.length ≤ maxLen) : Ev (fun k => laws_eqRunS.f k l l) true := by
  simp only [laws_eqRunS.f, if_true]
  refine ev_loop0 l (F := fun k i => laws_eqRunS.l0 k l l i) (fun _ _ => true) ?_ (fun pre x rest e h => ?_)
  · simp only [laws_eqRunS.l0, end_lt, if_false]; exact Ev.now _
  · subst e
    simp only [laws_eqRunS.l0, mid_lt, mid_nn, mid_wrap hm, if_true, laws_eqRun.f, Option.bind_some]
    exact h
theorem markIntS_ev (l : List Int) (a : Int) (hm : l.length ≤ maxLen) (h0 : 0 ≤ a) (h1 : a + l.length ≤ 9223372036854775806) : Ev (fun k => laws_markIntS.f k l a) (a + l.length, iota 1 id a l.length) := by
  simp only [laws_markIntS.f]
  refine ev_loop l (F := fun k (s : List Int × Int) i => laws_markIntS.l0 k s.1 s.2 i) (fun pre rest s => s.1 = iota 1 id a pre.length ++ rest ∧ s.2 = a + 1 * pre.length) (fun _ _ _ => (a + l.length, iota 1 id a l.length)) ?_ ?_ (l, a) ⟨rfl, by simp⟩
  · rintro ⟨s, b⟩ ⟨rfl, rfl⟩
    have hl : ((iota 1 id a l.length ++ ([] : List Int)).length : Int) = l.length := by simp [iota_length]
    simp only [laws_markIntS.l0, hl, end_lt, if_false]
    exact Ev.val (by simp)
  · rintro pre x rest ⟨s, b⟩ e ⟨rfl, rfl⟩ ih
    subst e
    have hl : ((iota 1 id a pre.length ++ x :: rest).length : Int) = ((pre ++ x :: rest).length : Int) := by simp [iota_length]
    have hlen := mid_len (pre := pre) (rest := rest) (x := x)
    have hs := iota_set 1 id a pre rest x
    have hw : wrap64 (a + 1 * (pre.length : Int) + 1) = a + 1 * ((pre ++ [x]).length : Int) := by rw [wrap_id (by omega) (by omega)]; simp; omega
    simp only [laws_markIntS.l0, hl, mid_lt, mid_nn, mid_wrap hm, if_true, Int.toNat_natCast, hw]
    exact ih (_, _) ⟨hs, rfl⟩
theorem heldIntS_ev (n : Nat) (a : Int) (h0 : 0 ≤ a) (h1 : a + n ≤ 9223372036854775806) : Ev (fun k => laws_heldIntS.f k (iota 1 id a n) a) (a + n) := by
  have hm : (iota 1 id a n).length ≤ maxLen := by rw [iota_length, maxLen_eq]; omega
  simp only [laws_heldIntS.f]
  refine ev_loop (iota 1 id a n) (F := fun k s i => laws_heldIntS.l0 k (iota 1 id a n) s i) (fun pre rest s => s = a + 1 * pre.length) (fun _ _ _ => a + n) ?_ ?_ a (by simp)
  · rintro s rfl
    simp only [laws_heldIntS.l0, end_lt, if_false]
    exact Ev.val (by rw [iota_length]; omega)
  · rintro pre x rest s e rfl ih
    have hx := iota_mid 1 id pre rest x a n e
    have hn := congrArg List.length e
    rw [iota_length] at hn
    have hlen := mid_len (pre := pre) (rest := rest) (x := x)
    rw [e] at hm ⊢
    rw [e] at ih
    have hw : wrap64 (a + 1 * (pre.length : Int) + 1) = a + 1 * ((pre ++ [x]).length : Int) := by rw [wrap_id (by omega) (by omega)]; simp; omega
    have hx' : x = a + 1 * (pre.length : Int) := hx
    simp only [laws_heldIntS.l0, mid_lt, mid_nn, mid_wrap hm, if_true, rd, Int.toNat_natCast, mid_get, if_pos hx', hw]
    exact ih _ rfl
def mkRun (a : Int) : S112 := ⟨a, a + 1⟩
theorem markRunS_ev (l : List S112) (a : Int) (hm : l.length ≤ maxLen) (h0 : 0 ≤ a) (h1 : a + 2 * l.length ≤ 9223372036854775806) : Ev (fun k => laws_markRunS.f k l a) (a + 2 * l.length, iota 2 mkRun a l.length) := by
  simp only [laws_markRunS.f]
  refine ev_loop l (F := fun k (s : List S112 × Int) i => laws_markRunS.l0 k s.1 s.2 i) (fun pre rest s => s.1 = iota 2 mkRun a pre.length ++ rest ∧ s.2 = a + 2 * pre.length) (fun _ _ _ => (a + 2 * l.length, iota 2 mkRun a l.length)) ?_ ?_ (l, a) ⟨rfl, by simp⟩
  · rintro ⟨s, b⟩ ⟨rfl, rfl⟩
    have hl : ((iota 2 mkRun a l.length ++ ([] : List S112)).length : Int) = l.length := by simp [iota_length]
    simp only [laws_markRunS.l0, hl, end_lt, if_false]
    exact Ev.val (by simp)
  · rintro pre x rest ⟨s, b⟩ e ⟨rfl, rfl⟩ ih
    subst e
    have hl : ((iota 2 mkRun a pre.length ++ x :: rest).length : Int) = ((pre ++ x :: rest).length : Int) := by simp [iota_length]
    have hlen := mid_len (pre := pre) (rest := rest) (x := x)
    have hs := iota_set 2 mkRun a pre rest x
    have hw1 : wrap64 (a + 2 * (pre.length : Int) + 1) = a + 2 * (pre.length : Int) + 1 := wrap_id (by omega) (by omega)
    have hw : wrap64 (a + 2 * (pre.length : Int) + 1 + 1) = a + 2 * ((pre ++ [x]).length : Int) := by rw [wrap_id (by omega) (by omega)]; simp; omega
    have hg : ∀ y : S112, ((iota 2 mkRun a pre.length ++ x :: rest).set pre.length y).getD pre.length z112 = y := by
      intro y
      rw [List.getD_eq_getElem?_getD, List.getElem?_set_self (by have := hl; omega)]
      rfl
    simp only [laws_markRunS.l0, hl, mid_lt, mid_nn, mid_wrap hm, if_true, Int.toNat_natCast, Option.bind_some, hw1, hw, rd_T112, hg, List.set_set]
    exact ih (_, _) ⟨hs, rfl⟩
end Go.Proofs.Ytcalgoembdmlkaa.Pure
namespace Go.Proofs.Ytcalgoembdmlkaa.Pure
open Go.RowKit Go.Proofs.Ytcalgoembdmlkaa.QFnExactRowOf Go.Proofs.YtcalgoembdmlkaaW.PrintWords Go.Proofs.YtcalgoembdmlkaaW.PrintLast Go.Proofs.Ytcalgoembdmlkaa.Plain

theorem within_eq (a b c : Int) : impl_within.f a b c = some (inB a b c) := by unfold impl_within.f inB; by_cases h : b ≤ a <;> simp [h]
theorem l01In_eq (a b c : Int) : spec_l01In.f a b c = some (inB a b c) := by unfold spec_l01In.f inB; by_cases h : b ≤ a <;> simp [h]
def coord (a : Int) : Bool := inB a (-200) 200
def boxOk (a b c d : Int) : Bool := coord a && (coord b && (coord c && (coord d && (decide (a ≤ c) && decide (b ≤ d)))))
def rowOk (l : List Int) : Bool := decide ((l.length : Int) = 32) && l.all fun v => inB v 0 255
def rowsOk (l : List (List Int)) : Bool := decide ((l.length : Int) ≤ 32) && l.all rowOk
def runsLen : List S112 → Int → Int
  | [], a => a
  | x :: r, a => runsLen r (wrap64 (a + x.f1))
theorem iRunsLength_ev (l : List S112) (hm : l.length ≤ maxLen) : Ev (fun k => impl_RunsLength.f k l) (runsLen l 0) := by
  simp only [impl_RunsLength.f]
  refine ev_loop l (F := fun k s i => impl_RunsLength.l0 k s l l.length i) (fun _ _ _ => True) (fun _ r s => runsLen r s) ?_ ?_ _ trivial
  · intro s _; simp only [impl_RunsLength.l0, end_lt, if_false]; exact Ev.now _
  · rintro pre x rest s e _ ih
    subst e
    simp only [impl_RunsLength.l0, mid_lt, mid_nn, mid_wrap hm, if_true, rd_T112, Int.toNat_natCast, mid_get]
    exact ih _ trivial
def runsFrom : Option Int → List S112 → Bool
  | _, [] => true
  | p, x :: r => inB x.f0 0 255 && (inB x.f1 1 32 && (!(p == some x.f0) && runsFrom (some x.f0) r))
theorem last_get {α : Type} (pre : List α) (y x : α) (rest : List α) (z : α) (hm : ((pre ++ [y]) ++ x :: rest).length ≤ maxLen) :
    wrap64 (((pre ++ [y]).length : Int) - 1) = (pre.length : Int) ∧ ((pre ++ [y]) ++ x :: rest).getD pre.length z = y := by
  rw [maxLen_eq] at hm
  simp at hm
  refine ⟨by rw [wrap_id (by simp <;> omega) (by simp <;> omega)]; simp, by simp [List.getD_eq_getElem?_getD]⟩
theorem iRunsOk_ev (l : List S112) (hm : l.length ≤ maxLen) : Ev (fun k => impl_RunsOk.f k l) (runsFrom none l) := by
  simp only [impl_RunsOk.f]
  refine ev_loop0 l (F := fun k i => impl_RunsOk.l0 k l l l.length i) (fun p r => runsFrom (p.getLast?.map (·.f0)) r) ?_ (fun pre x rest e h => ?_)
  · simp only [impl_RunsOk.l0, end_lt, if_false]; exact Ev.now _
  · subst e
    rw [List.getLast?_append, List.getLast?_singleton] at h
    simp only [impl_RunsOk.l0, mid_lt, mid_nn, mid_wrap hm, if_true, rd_T112, Int.toNat_natCast, mid_get, within_eq, Option.bind_some, runsFrom]
    refine Ev.andB (fun _ => Ev.andB (fun _ => ?_))
    rcases List.eq_nil_or_concat pre with rfl | ⟨q, y, rfl⟩
    · simp only [List.length_nil, Int.ofNat_zero, gt_iff_lt, Int.lt_irrefl, if_false] at h ⊢
      simpa using h
    · obtain ⟨h1, h2⟩ := last_get q y x rest z112 (by simpa using hm)
      rw [List.concat_eq_append] at *
      have c1 : ((q ++ [y]).length : Int) > 0 := by simp <;> omega
      have c2 : (q.length : Int) < (((q ++ [y]) ++ x :: rest).length : Int) := by simp; omega
      simp only [h1, c1, c2, mid_nn, if_true, Int.toNat_natCast, h2, List.getLast?_append, List.getLast?_singleton]
      refine Ev.ite (fun c => Ev.val (by simp [c])) (fun c => ?_)
      have hb : (y.f0 == x.f0) = false := beq_eq_false_iff_ne.2 c
      simpa [hb] using h
theorem sRunsOk_ev (l : List S112) (hm : l.length ≤ maxLen) : Ev (fun k => spec_RunsOk.f k l) (runsFrom none l) := by
  simp only [spec_RunsOk.f]
  refine ev_loop0 l (F := fun k i => spec_RunsOk.l0 k l i) (fun p r => runsFrom (p.getLast?.map (·.f0)) r) ?_ (fun pre x rest e h => ?_)
  · simp only [spec_RunsOk.l0, end_lt, if_false]; exact Ev.now _
  · subst e
    rw [List.getLast?_append, List.getLast?_singleton] at h
    simp only [spec_RunsOk.l0, mid_lt, mid_nn, mid_wrap hm, if_true, rd_T112, Int.toNat_natCast, mid_get, l01In_eq, Option.bind_some, runsFrom]
    refine Ev.andB (fun _ => Ev.andB (fun _ => ?_))
    rcases List.eq_nil_or_concat pre with rfl | ⟨q, y, rfl⟩
    · simp only [List.length_nil, Int.ofNat_zero, gt_iff_lt, Int.lt_irrefl, if_false] at h ⊢
      simpa using h
    · obtain ⟨h1, h2⟩ := last_get q y x rest z112 (by simpa using hm)
      rw [List.concat_eq_append] at *
      have c1 : ((q ++ [y]).length : Int) > 0 := by simp <;> omega
      have c2 : (q.length : Int) < (((q ++ [y]) ++ x :: rest).length : Int) := by simp; omega
      simp only [h1, c1, c2, mid_nn, if_true, Int.toNat_natCast, h2, List.getLast?_append, List.getLast?_singleton]
      refine Ev.ite (fun c => Ev.val (by simp [c])) (fun c => ?_)
      have hb : (y.f0 == x.f0) = false := beq_eq_false_iff_ne.2 (fun e => c e.symm)
      simpa [hb] using h
end Go.Proofs.Ytcalgoembdmlkaa.Pure
namespace Go.Proofs.Ytcalgoembdmlkaa.Pure
open Go.RowKit Go.Proofs.Ytcalgoembdmlkaa.QFnExactRowOf Go.Proofs.YtcalgoembdmlkaaW.PrintWords Go.Proofs.YtcalgoembdmlkaaW.PrintLast Go.Proofs.Ytcalgoembdmlkaa.Plain

end Go.Proofs.Ytcalgoembdmlkaa.Pure
namespace Go.Proofs.Ytcalgoembdmlkaa.Pure
open Go.RowKit Go.Proofs.Ytcalgoembdmlkaa.QFnExactRowOf Go.Proofs.YtcalgoembdmlkaaW.PrintWords Go.Proofs.YtcalgoembdmlkaaW.PrintLast Go.Proofs.Ytcalgoembdmlkaa.Plain

theorem runs_all : ∀ (l : List S112) (p : Option Int), runsFrom p l = true → ∀ x ∈ l, 1 ≤ x.f1 ∧ x.f1 ≤ 32
  | [], _, _, _, h => by simp at h
  | y :: r, p, h, x, hx => by
    simp only [runsFrom, Bool.and_eq_true, inB_iff] at h
    rcases List.mem_cons.1 hx with rfl | hx
    · exact h.2.1
    · exact runs_all r _ h.2.2.2 x hx
/-- A value put n times. -/
theorem ev_rep {β : Type} {F : Nat → List Int → Int → Option β} (v : Int) (n : Int) {r : β} (s0 : List Int) (hn : 0 ≤ n) (hb : (s0.length : Int) + n ≤ 32)
    (hnil : Ev (fun k => F (k + 1) (s0 ++ List.replicate n.toNat v) n) r)
    (hcons : ∀ s i, 0 ≤ i → i < n → s.length ≤ 32 → Ev (fun k => F k (s ++ [v]) (i + 1)) r → Ev (fun k => F (k + 1) s i) r) : Ev (fun k => F k s0 0) r := by
  have main : ∀ (m : Nat) (s : List Int) (i : Int), 0 ≤ i → i + m = n → s.length + m ≤ 32 → s ++ List.replicate m v = s0 ++ List.replicate n.toNat v → Ev (fun k => F k s i) r := by
    intro m
    induction m with
    | zero =>
      intro s i h0 h1 h2 h3
      have e : i = n := by omega
      have e2 : s = s0 ++ List.replicate n.toNat v := by simpa using h3
      subst e e2
      exact Ev.up hnil
    | succ m ih =>
      intro s i h0 h1 h2 h3
      refine Ev.up (hcons s i h0 (by omega) (by omega) (ih _ _ (by omega) (by omega) (by simp; omega) ?_))
      rw [← h3, List.append_assoc]
      rfl
  exact main n.toNat s0 0 (by omega) (by omega) (by omega) rfl
def rowGo : List S112 → List Int → List Int
  | [], s => s
  | x :: r, s => if (s.length : Int) + x.f1 > 32 then [] else rowGo r (s ++ List.replicate x.f1.toNat x.f0)
def rowOf (l : List S112) : List Int := if runsFrom none l = true then rowGo l [] else []
def sumR : List S112 → Int
  | [] => 0
  | x :: r => x.f1 + sumR r
theorem sumR_nn : ∀ l : List S112, (∀ x ∈ l, 1 ≤ x.f1 ∧ x.f1 ≤ 32) → 0 ≤ sumR l ∧ sumR l ≤ 32 * l.length
  | [], _ => by simp [sumR]
  | x :: r, h => by
    have h1 := h x (by simp)
    have h2 := sumR_nn r (fun y hy => h y (by simp [hy]))
    simp only [sumR, List.length_cons]
    omega
theorem runsLen_sum : ∀ (l : List S112) (a : Int), (∀ x ∈ l, 1 ≤ x.f1 ∧ x.f1 ≤ 32) → 0 ≤ a → a + 32 * l.length ≤ 4611686018427387904 → runsLen l a = a + sumR l
  | [], a, _, _, _ => by simp [runsLen, sumR]
  | x :: r, a, h, h0, h1 => by
    have hx := h x (by simp)
    rw [List.length_cons] at h1
    simp only [runsLen, sumR]
    rw [wrap_id (by omega) (by omega), runsLen_sum r _ (fun y hy => h y (by simp [hy])) (by omega) (by omega)]
    omega
theorem rowGo_big : ∀ (l : List S112) (s : List Int), (∀ x ∈ l, 1 ≤ x.f1 ∧ x.f1 ≤ 32) → s.length ≤ 32 → (s.length : Int) + sumR l > 32 → rowGo l s = []
  | [], s, _, h, c => by simp [sumR] at c; omega
  | x :: r, s, h, hs, c => by
    have hx := h x (by simp)
    simp only [sumR] at c
    unfold rowGo
    split
    · rfl
    · refine rowGo_big r _ (fun y hy => h y (by simp [hy])) (by simp; omega) (by simp; omega)
theorem rowGo_len : ∀ (l : List S112) (s : List Int), (∀ x ∈ l, 1 ≤ x.f1 ∧ x.f1 ≤ 32) → s.length ≤ 32 → (rowGo l s).length ≤ 32
  | [], s, _, h => by simpa [rowGo] using h
  | x :: r, s, h, hs => by
    have hx := h x (by simp)
    unfold rowGo
    split
    · simp
    · exact rowGo_len r _ (fun y hy => h y (by simp [hy])) (by simp; omega)
theorem rowOf_len (l : List S112) : (rowOf l).length ≤ 32 := by
  unfold rowOf
  split
  case isTrue c => exact rowGo_len l [] (runs_all l none c) (by simp)
  case isFalse => simp
theorem iRowOf_loop (l : List S112) (hall : ∀ x ∈ l, 1 ≤ x.f1 ∧ x.f1 ≤ 32) (hm : l.length ≤ maxLen) (ht : sumR l ≤ 32) : Ev (fun k => impl_RowOf.l0 k [] l l.length 0) (rowGo l []) := by
  refine ev_loop l (F := fun k s i => impl_RowOf.l0 k s l l.length i) (fun _ r s => (s.length : Int) + sumR r ≤ 32) (fun _ r s => rowGo r s) ?_ ?_ [] (by simpa using ht)
  · intro s _; simp only [impl_RowOf.l0, end_lt, if_false]; exact Ev.now _
  · rintro pre x rest s e hs ih
    have hx := hall x (by rw [e]; simp)
    have hr := sumR_nn rest (fun y hy => hall y (by rw [e]; simp [hy]))
    simp only [sumR] at hs
    subst e
    simp only [impl_RowOf.l0, mid_lt, mid_nn, mid_wrap hm, if_true, rd_T112, Int.toNat_natCast, mid_get, rowGo]
    simp only [if_neg (show ¬ (s.length : Int) + x.f1 > 32 by omega)]
    refine ev_rep (F := fun k s j => impl_RowOf.l1 k s j (pre ++ x :: rest) ((pre ++ x :: rest).length : Int) pre.length x.f0 x.f1) x.f0 x.f1 s (by omega) (by omega) ?_ ?_
    · simp only [impl_RowOf.l1, Int.lt_irrefl, if_false, mid_wrap hm]
      exact ih _ (by simp; omega)
    · intro s' i h0 h1 hs' h
      have c4 : s'.length < 17592186044416 := by omega
      have hw2 : wrap64 (i + 1) = i + 1 := wrap_id (by omega) (by omega)
      simp only [impl_RowOf.l1, if_pos h1, if_pos c4, hw2]; exact h
theorem iRowOf_ev (l : List S112) (hl : (l.length : Int) ≤ 1048576) : Ev (fun k => impl_RowOf.f k l) (rowOf l) := by
  have hm : l.length ≤ maxLen := by rw [maxLen_eq]; omega
  simp only [impl_RowOf.f]
  unfold rowOf
  refine Ev.bind (iRunsOk_ev l hm) ?_
  by_cases c : runsFrom none l = true
  · have hall := runs_all l none c
    simp only [if_pos c]
    refine Ev.bind (iRunsLength_ev l hm) (Ev.up ?_)
    rw [runsLen_sum l 0 hall (by omega) (by omega)]
    have hr := sumR_nn l hall
    by_cases ct : sumR l > 32
    · have ct' : (0 : Int) + sumR l > 32 := by omega
      simp only [impl_RowOf.j0, decide_eq_true ct', if_true]
      exact Ev.val (rowGo_big l [] hall (by simp) (by simpa using ct)).symm
    · have ct' : ¬ (0 : Int) + sumR l > 32 := by omega
      simp only [impl_RowOf.j0, decide_eq_false ct', Bool.false_eq_true, if_false]
      exact iRowOf_loop l hall hm (by omega)
  · simp only [if_neg c]
    exact Ev.up (by simp only [impl_RowOf.j0, if_true]; exact Ev.now _)
theorem sRowOf_ev (l : List S112) (hm : l.length ≤ maxLen) : Ev (fun k => spec_RowOf.f k l) (rowOf l) := by
  simp only [spec_RowOf.f, Option.bind_some]
  unfold rowOf
  refine Ev.bind (sRunsOk_ev l hm) ?_
  by_cases c : runsFrom none l = true
  · simp only [if_pos c]
    have hall := runs_all l none c
    refine ev_loop l (F := fun k s i => spec_RowOf.l0 k l s i) (fun _ _ s => s.length ≤ 32) (fun _ r s => rowGo r s) ?_ ?_ [] (by simp)
    · intro s _; simp only [spec_RowOf.l0, end_lt, if_false]; exact Ev.now _
    · rintro pre x rest s e hs ih
      have hx := hall x (by rw [e]; simp)
      have hw : wrap64 ((s.length : Int) + x.f1) = s.length + x.f1 := wrap_id (by omega) (by omega)
      clear hall c
      subst e
      simp only [spec_RowOf.l0, mid_lt, mid_nn, mid_wrap hm, if_true, rd_T112, Int.toNat_natCast, mid_get, hw, rowGo]
      by_cases cx : (s.length : Int) + x.f1 > 32
      · simp only [if_pos cx]; exact Ev.now _
      · simp only [if_neg cx]
        refine ev_rep (F := fun k s j => spec_RowOf.l1 k (pre ++ x :: rest) s pre.length j) x.f0 x.f1 s (by omega) (by omega) ?_ ?_
        · simp only [spec_RowOf.l1, mid_lt, mid_nn, mid_wrap hm, if_true, rd_T112, Int.toNat_natCast, mid_get, Int.lt_irrefl, if_false]
          exact ih _ (by simp; omega)
        · intro s' i h0 h1 hs' h
          have c4 : s'.length < 17592186044416 := by omega
          have hw2 : wrap64 (i + 1) = i + 1 := wrap_id (by omega) (by omega)
          simp only [spec_RowOf.l1, mid_lt, mid_nn, if_true, rd_T112, Int.toNat_natCast, mid_get, if_pos h1, if_pos c4, hw2]; exact h
  · simp only [if_neg c]; exact Ev.now _

end Go.Proofs.Ytcalgoembdmlkaa.Pure
namespace Go.Proofs.Ytcalgoembdmlkaa.Pure
open Go.RowKit Go.Proofs.Ytcalgoembdmlkaa.QFnExactRowOf Go.Proofs.YtcalgoembdmlkaaW.PrintWords Go.Proofs.YtcalgoembdmlkaaW.PrintLast Go.Proofs.Ytcalgoembdmlkaa.Plain

theorem FnExactRowOf (l : List S114) (h : l.length ≤ maxLen ∧ ∀ y ∈ l, (((Lit.int .i64 y.f0).wf = true) ∧ ((Lit.int .i64 y.f1).wf = true))) : ∃ k, laws_FnExactRowOf.f k l = some true := by
  refine Ev.rounds (g := fun k => laws_FnExactRowOf.f k l) ?_
  simp only [laws_FnExactRowOf.f, szRunS_eq l 1048576 h.1 (by omega) (by omega), Option.bind_some]
  refine Ev.ite (fun _ => Ev.now _) (fun c => ?_)
  have hl : (l.length : Int) ≤ 1048576 := by rcases szN_tells l.length 1048576 (by omega) with hn | h2 <;> omega
  have hl2 : ((l.map tRun).length : Int) ≤ 1048576 := by rw [List.length_map]; omega
  have hm : (l.map tRun).length ≤ maxLen := by rw [maxLen_eq, List.length_map]; omega
  have hR := rowOf_len (l.map tRun)
  have hrm : (rowOf (l.map tRun)).length ≤ maxLen := by rw [maxLen_eq]; omega
  refine Ev.bind (toRunS_ev l hl) (Ev.bind (sRowOf_ev _ hm) (Ev.bind (toRunS_ev l hl) (Ev.bind (iRowOf_ev _ hl2) (Ev.bind (eqIntS_ev _ hrm) (Ev.ite (fun _ => ?_) (fun c => absurd rfl c))))))
  refine Ev.bind (toRunS_ev l hl) (Ev.bind (eqRunS_ev _ hm) (Ev.ite (fun _ => ?_) (fun c => absurd rfl c)))
  refine Ev.bind (markRunS_ev _ 1 hm (by omega) (by omega)) (Ev.ite (fun c => absurd c (by simp only; omega)) (fun _ => ?_))
  refine Ev.bind (eqIntS_ev _ hrm) (Ev.up ?_)
  simp only [laws_FnExactRowOf.j0, Bool.not_true, Bool.false_eq_true, if_false]
  refine Ev.bind (markIntS_ev (rowOf (l.map tRun)) 1 hrm (by omega) (by omega)) ?_
  refine Ev.bind (heldIntS_ev (rowOf (l.map tRun)).length 1 (by omega) (by omega)) (Ev.ite (fun c => absurd c (by omega)) (fun _ => Ev.ite (fun _ => ?_) (fun c => absurd rfl c)))
  refine Ev.bind (toRunS_ev l hl) (Ev.bind (iRowOf_ev _ hl2) (Ev.bind (eqIntS_ev _ hrm) (Ev.ite (fun _ => ?_) (fun c => absurd rfl c))))
  exact Ev.bind (heldIntS_ev (rowOf (l.map tRun)).length 1 (by omega) (by omega)) (Ev.ite (fun c => absurd c (by omega)) (fun _ => Ev.ite (fun _ => Ev.now _) (fun c => absurd rfl c)))
end Go.Proofs.Ytcalgoembdmlkaa.Pure
