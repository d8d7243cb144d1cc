/- The plain law of FnExactNewBand: over numbers and lists, what the printed functions answer, and that the law answers true. -/
import Derived.Test.YtimpejidlnjhlaaQFnExactNewBandx5
import Derived.Test.YtimpejidlnjhlaaPlain
set_option linter.unusedSimpArgs false
set_option linter.unusedVariables false
namespace Go.Proofs.Ytimpejidlnjhlaa.Pure
open Go.RowKit Go.Proofs.Ytimpejidlnjhlaa.QFnExactNewBand Go.Proofs.YtimpejidlnjhlaaW.PrintWords Go.Proofs.YtimpejidlnjhlaaW.PrintLast Go.Proofs.Ytimpejidlnjhlaa.Plain

theorem eqIntS_ev (l : List Int) (hm : l.length ≤ maxLen) : Ev (fun k => laws_eqIntS.f k l l) true := by
  simp only [laws_eqIntS.f, if_true]
  refine ev_loop0 l (F := fun k i => laws_eqIntS.l0 k l l i) (fun _ _ => true) ?_ (fun pre x rest e h => ?_)
  · simp only [laws_eqIntS.l0, end_lt, if_false]; exact Ev.now _
  · subst e
    simp only [laws_eqIntS.l0, mid_lt, mid_nn, mid_wrap hm, if_true]
    exact h
theorem eqIntSS_ev (l : List (List Int)) (hm : l.length ≤ maxLen) (hx : ∀ x ∈ l, x.length ≤ maxLen) : Ev (fun k => laws_eqIntSS.f k l l) true := by
  simp only [laws_eqIntSS.f, if_true]
  refine ev_loop0 l (F := fun k i => laws_eqIntSS.l0 k l l i) (fun _ _ => true) ?_ (fun pre x rest e h => ?_)
  · simp only [laws_eqIntSS.l0, end_lt, if_false]; exact Ev.now _
  · have hxx := hx x (by rw [e]; simp)
    subst e
    simp only [laws_eqIntSS.l0, mid_lt, mid_nn, mid_wrap hm, if_true, rd_L1, Int.toNat_natCast, mid_get]
    exact Ev.bind (eqIntS_ev x hxx) h
theorem eqPointS_ev (l : List S166) (hm : l.length ≤ maxLen) : Ev (fun k => laws_eqPointS.f k l l) true := by
  simp only [laws_eqPointS.f, if_true]
  refine ev_loop0 l (F := fun k i => laws_eqPointS.l0 k l l i) (fun _ _ => true) ?_ (fun pre x rest e h => ?_)
  · simp only [laws_eqPointS.l0, end_lt, if_false]; exact Ev.now _
  · subst e
    simp only [laws_eqPointS.l0, mid_lt, mid_nn, mid_wrap hm, if_true, laws_eqPoint.f, Option.bind_some]
    exact h
theorem eqObject_ev (l : List S166) (b c d e f : Int) (hm : l.length ≤ maxLen) : Ev (fun k => laws_eqObject.f k l b c d e f l b c d e f) true := by
  simp only [laws_eqObject.f, laws_eqBox.f, if_true, Option.bind_some]
  exact Ev.bind (eqPointS_ev l hm) (Ev.now _)

theorem markIntS_ev (l : List Int) (a : Int) (hm : l.length ≤ maxLen) (h0 : 0 ≤ a) (h1 : a + l.length ≤ 9223372036854775806) : Ev (fun k => laws_markIntS.f k l a) (a + l.length, iota 1 id a l.length) := by
  simp only [laws_markIntS.f]
  refine ev_loop l (F := fun k (s : List Int × Int) i => laws_markIntS.l0 k s.1 s.2 i) (fun pre rest s => s.1 = iota 1 id a pre.length ++ rest ∧ s.2 = a + 1 * pre.length) (fun _ _ _ => (a + l.length, iota 1 id a l.length)) ?_ ?_ (l, a) ⟨rfl, by simp⟩
  · rintro ⟨s, b⟩ ⟨rfl, rfl⟩
    have hl : ((iota 1 id a l.length ++ ([] : List Int)).length : Int) = l.length := by simp [iota_length]
    simp only [laws_markIntS.l0, hl, end_lt, if_false]
    exact Ev.val (by simp)
  · rintro pre x rest ⟨s, b⟩ e ⟨rfl, rfl⟩ ih
    subst e
    have hl : ((iota 1 id a pre.length ++ x :: rest).length : Int) = ((pre ++ x :: rest).length : Int) := by simp [iota_length]
    have hlen := mid_len (pre := pre) (rest := rest) (x := x)
    have hs := iota_set 1 id a pre rest x
    have hw : wrap64 (a + 1 * (pre.length : Int) + 1) = a + 1 * ((pre ++ [x]).length : Int) := by rw [wrap_id (by omega) (by omega)]; simp; omega
    simp only [laws_markIntS.l0, hl, mid_lt, mid_nn, mid_wrap hm, if_true, Int.toNat_natCast, hw]
    exact ih (_, _) ⟨hs, rfl⟩
theorem heldIntS_ev (n : Nat) (a : Int) (h0 : 0 ≤ a) (h1 : a + n ≤ 9223372036854775806) : Ev (fun k => laws_heldIntS.f k (iota 1 id a n) a) (a + n) := by
  have hm : (iota 1 id a n).length ≤ maxLen := by rw [iota_length, maxLen_eq]; omega
  simp only [laws_heldIntS.f]
  refine ev_loop (iota 1 id a n) (F := fun k s i => laws_heldIntS.l0 k (iota 1 id a n) s i) (fun pre rest s => s = a + 1 * pre.length) (fun _ _ _ => a + n) ?_ ?_ a (by simp)
  · rintro s rfl
    simp only [laws_heldIntS.l0, end_lt, if_false]
    exact Ev.val (by rw [iota_length]; omega)
  · rintro pre x rest s e rfl ih
    have hx := iota_mid 1 id pre rest x a n e
    have hn := congrArg List.length e
    rw [iota_length] at hn
    have hlen := mid_len (pre := pre) (rest := rest) (x := x)
    rw [e] at hm ⊢
    rw [e] at ih
    have hw : wrap64 (a + 1 * (pre.length : Int) + 1) = a + 1 * ((pre ++ [x]).length : Int) := by rw [wrap_id (by omega) (by omega)]; simp; omega
    have hx' : x = a + 1 * (pre.length : Int) := hx
    simp only [laws_heldIntS.l0, mid_lt, mid_nn, mid_wrap hm, if_true, rd, Int.toNat_natCast, mid_get, if_pos hx', hw]
    exact ih _ rfl
end Go.Proofs.Ytimpejidlnjhlaa.Pure
namespace Go.Proofs.Ytimpejidlnjhlaa.Pure
open Go.RowKit Go.Proofs.Ytimpejidlnjhlaa.QFnExactNewBand Go.Proofs.YtimpejidlnjhlaaW.PrintWords Go.Proofs.YtimpejidlnjhlaaW.PrintLast Go.Proofs.Ytimpejidlnjhlaa.Plain

theorem eqObjectS_ev (l : List S41) (hm : l.length ≤ maxLen) (hx : ∀ x ∈ l, x.f0.length ≤ maxLen) : Ev (fun k => laws_eqObjectS.f k l l) true := by
  simp only [laws_eqObjectS.f, if_true]
  refine ev_loop0 l (F := fun k i => laws_eqObjectS.l0 k l l i) (fun _ _ => true) ?_ (fun pre x rest e h => ?_)
  · simp only [laws_eqObjectS.l0, end_lt, if_false]; exact Ev.now _
  · have hxx := hx x (by rw [e]; simp)
    subst e
    simp only [laws_eqObjectS.l0, mid_lt, mid_nn, mid_wrap hm, if_true, rd_T41, Int.toNat_natCast, mid_get]
    exact Ev.bind (eqObject_ev x.f0 _ _ _ _ _ hxx) h
theorem eqBand_ev (p q : Int) (rows : List (List Int)) (l : List S41) (hr : rows.length ≤ maxLen) (hrx : ∀ x ∈ rows, x.length ≤ maxLen) (hm : l.length ≤ maxLen) (hx : ∀ x ∈ l, x.f0.length ≤ maxLen) : Ev (fun k => laws_eqBand.f k p q rows l p q rows l) true := by
  simp only [laws_eqBand.f, if_true]
  exact Ev.bind (eqIntSS_ev rows hr hrx) (Ev.bind (eqObjectS_ev l hm hx) (Ev.now _))
end Go.Proofs.Ytimpejidlnjhlaa.Pure
namespace Go.Proofs.Ytimpejidlnjhlaa.Pure
open Go.RowKit Go.Proofs.Ytimpejidlnjhlaa.QFnExactNewBand Go.Proofs.YtimpejidlnjhlaaW.PrintWords Go.Proofs.YtimpejidlnjhlaaW.PrintLast Go.Proofs.Ytimpejidlnjhlaa.Plain

def mkPoint (a : Int) : S166 := ⟨a, a + 1⟩
theorem markPointS_ev (l : List S166) (a : Int) (hm : l.length ≤ maxLen) (h0 : 0 ≤ a) (h1 : a + 2 * l.length ≤ 9223372036854775806) : Ev (fun k => laws_markPointS.f k l a) (a + 2 * l.length, iota 2 mkPoint a l.length) := by
  simp only [laws_markPointS.f]
  refine ev_loop l (F := fun k (s : List S166 × Int) i => laws_markPointS.l0 k s.1 s.2 i) (fun pre rest s => s.1 = iota 2 mkPoint a pre.length ++ rest ∧ s.2 = a + 2 * pre.length) (fun _ _ _ => (a + 2 * l.length, iota 2 mkPoint a l.length)) ?_ ?_ (l, a) ⟨rfl, by simp⟩
  · rintro ⟨s, b⟩ ⟨rfl, rfl⟩
    have hl : ((iota 2 mkPoint a l.length ++ ([] : List S166)).length : Int) = l.length := by simp [iota_length]
    simp only [laws_markPointS.l0, hl, end_lt, if_false]
    exact Ev.val (by simp)
  · rintro pre x rest ⟨s, b⟩ e ⟨rfl, rfl⟩ ih
    subst e
    have hl : ((iota 2 mkPoint a pre.length ++ x :: rest).length : Int) = ((pre ++ x :: rest).length : Int) := by simp [iota_length]
    have hlen := mid_len (pre := pre) (rest := rest) (x := x)
    have hs := iota_set 2 mkPoint a pre rest x
    have hw1 : wrap64 (a + 2 * (pre.length : Int) + 1) = a + 2 * (pre.length : Int) + 1 := wrap_id (by omega) (by omega)
    have hw : wrap64 (a + 2 * (pre.length : Int) + 1 + 1) = a + 2 * ((pre ++ [x]).length : Int) := by rw [wrap_id (by omega) (by omega)]; simp; omega
    have hg : ∀ y : S166, ((iota 2 mkPoint a pre.length ++ x :: rest).set pre.length y).getD pre.length z166 = y := by
      intro y
      rw [List.getD_eq_getElem?_getD, List.getElem?_set_self (by have := hl; omega)]
      rfl
    simp only [laws_markPointS.l0, hl, mid_lt, mid_nn, mid_wrap hm, if_true, Int.toNat_natCast, Option.bind_some, hw1, hw, rd_T166, hg, List.set_set]
    exact ih (_, _) ⟨hs, rfl⟩
theorem heldPointS_ev (n : Nat) (a : Int) (h0 : 0 ≤ a) (h1 : a + 2 * n ≤ 9223372036854775806) : Ev (fun k => laws_heldPointS.f k (iota 2 mkPoint a n) a) (a + 2 * n) := by
  have hm : (iota 2 mkPoint a n).length ≤ maxLen := by rw [iota_length, maxLen_eq]; omega
  simp only [laws_heldPointS.f]
  refine ev_loop (iota 2 mkPoint a n) (F := fun k s i => laws_heldPointS.l0 k (iota 2 mkPoint a n) s i) (fun pre rest s => s = a + 2 * pre.length) (fun _ _ _ => a + 2 * n) ?_ ?_ a (by simp)
  · rintro s rfl
    simp only [laws_heldPointS.l0, end_lt, if_false]
    exact Ev.val (by rw [iota_length])
  · rintro pre x rest s e rfl ih
    have hx := iota_mid 2 mkPoint pre rest x a n e
    have hn := congrArg List.length e
    rw [iota_length] at hn
    have hlen := mid_len (pre := pre) (rest := rest) (x := x)
    rw [e] at hm ⊢
    rw [e] at ih
    have hw1 : wrap64 (a + 2 * (pre.length : Int) + 1) = a + 2 * (pre.length : Int) + 1 := wrap_id (by omega) (by omega)
    have hw : wrap64 (a + 2 * (pre.length : Int) + 1 + 1) = a + 2 * ((pre ++ [x]).length : Int) := by rw [wrap_id (by omega) (by omega)]; simp; omega
    have e0 : x.f0 = a + 2 * (pre.length : Int) := by rw [hx]; rfl
    have e1 : x.f1 = a + 2 * (pre.length : Int) + 1 := by rw [hx]; rfl
    simp only [laws_heldPointS.l0, mid_lt, mid_nn, mid_wrap hm, if_true, rd_T166, Int.toNat_natCast, mid_get, e0, e1, hw1, hw]
    exact ih _ rfl
end Go.Proofs.Ytimpejidlnjhlaa.Pure
namespace Go.Proofs.Ytimpejidlnjhlaa.Pure
open Go.RowKit Go.Proofs.Ytimpejidlnjhlaa.QFnExactNewBand Go.Proofs.YtimpejidlnjhlaaW.PrintWords Go.Proofs.YtimpejidlnjhlaaW.PrintLast Go.Proofs.Ytimpejidlnjhlaa.Plain

theorem within_eq (a b c : Int) : impl_within.f a b c = some (inB a b c) := by unfold impl_within.f inB; by_cases h : b ≤ a <;> simp [h]
theorem l01In_eq (a b c : Int) : spec_l01In.f a b c = some (inB a b c) := by unfold spec_l01In.f inB; by_cases h : b ≤ a <;> simp [h]
def isH (a : Int) : Bool := decide (a = 1 ∨ a = 2 ∨ a = 4 ∨ a = 8 ∨ a = 16 ∨ a = 32)
theorem iIsHeight_eq (a : Int) : impl_IsHeight.f a = some (isH a) := by
  unfold impl_IsHeight.f isH
  by_cases h1 : a = 1
  · simp [h1]
  by_cases h2 : a = 2
  · simp [h2]
  by_cases h4 : a = 4
  · simp [h4]
  by_cases h8 : a = 8
  · simp [h8]
  by_cases h16 : a = 16
  · simp [h16]
  by_cases h32 : a = 32
  · simp [h32]
  simp [h1, h2, h4, h8, h16, h32]
theorem sIsHeight_eq (a : Int) : spec_IsHeight.f a = some (isH a) := by
  unfold spec_IsHeight.f isH
  by_cases h1 : a = 1
  · simp [h1]
  by_cases h2 : a = 2
  · simp [h2]
  by_cases h4 : a = 4
  · simp [h4]
  by_cases h8 : a = 8
  · simp [h8]
  by_cases h16 : a = 16
  · simp [h16]
  by_cases h32 : a = 32
  · simp [h32]
  simp [h1, h2, h4, h8, h16, h32]
def cntB (a : Int) : Int := if isH a = true then 32 / a else 0
theorem isH_cases {a : Int} (h : isH a = true) : a = 1 ∨ a = 2 ∨ a = 4 ∨ a = 8 ∨ a = 16 ∨ a = 32 := by simpa [isH] using h
theorem cntB_wrap {a : Int} (h : isH a = true) : ¬ a = 0 ∧ wrap64 ((32 : Int) / a) = 32 / a := by rcases isH_cases h with rfl | rfl | rfl | rfl | rfl | rfl <;> exact ⟨by decide, by unfold wrap64; omega⟩
theorem iCountBands_eq (a : Int) : impl_CountBands.f a = some (cntB a) := by
  unfold impl_CountBands.f cntB
  rw [iIsHeight_eq]
  by_cases h : isH a = true
  · simp [h, cntB_wrap h]
  · simp [h]
theorem sCountBands_eq (a : Int) : spec_CountBands.f a = some (cntB a) := by
  unfold spec_CountBands.f cntB
  rw [sIsHeight_eq]
  by_cases h : isH a = true
  · simp [h, cntB_wrap h]
  · simp [h]

def coord (a : Int) : Bool := inB a (-200) 200
def boxOk (a b c d : Int) : Bool := coord a && (coord b && (coord c && (coord d && (decide (a ≤ c) && decide (b ≤ d)))))
def rowOk (l : List Int) : Bool := decide ((l.length : Int) = 32) && l.all fun v => inB v 0 255
def rowsOk (l : List (List Int)) : Bool := decide ((l.length : Int) ≤ 32) && l.all rowOk
end Go.Proofs.Ytimpejidlnjhlaa.Pure
namespace Go.Proofs.Ytimpejidlnjhlaa.Pure
open Go.RowKit Go.Proofs.Ytimpejidlnjhlaa.QFnExactNewBand Go.Proofs.YtimpejidlnjhlaaW.PrintWords Go.Proofs.YtimpejidlnjhlaaW.PrintLast Go.Proofs.Ytimpejidlnjhlaa.Plain

abbrev BoxT := Int × Int × Int × Int
theorem mx_self (a : Int) : mx a a = a := by unfold mx; split <;> rfl
theorem mn_self (a : Int) : mn a a = a := by unfold mn; split <;> rfl
theorem mx_comm (a b : Int) : mx a b = mx b a := by unfold mx; omega
theorem mn_comm (a b : Int) : mn a b = mn b a := by unfold mn; omega
def meet (p q : BoxT) : BoxT := if boxOk p.1 p.2.1 p.2.2.1 p.2.2.2 = true ∧ boxOk q.1 q.2.1 q.2.2.1 q.2.2.2 = true ∧ mx p.1 q.1 < mn p.2.2.1 q.2.2.1 ∧ mx p.2.1 q.2.1 < mn p.2.2.2 q.2.2.2 then (mx p.1 q.1, mx p.2.1 q.2.1, mn p.2.2.1 q.2.2.1, mn p.2.2.2 q.2.2.2) else (0, 0, 0, 0)
/-- A loop that counts from lo to hi. -/
theorem ev_range {σ β : Type} {F : Nat → σ → Int → Option β} (lo hi : Int) (hlh : lo ≤ hi) (Inv : Int → σ → Prop) (r : β)
    (hnil : ∀ s, Inv hi s → Ev (fun k => F (k + 1) s hi) r)
    (hcons : ∀ i s, lo ≤ i → i < hi → Inv i s → (∀ s', Inv (i + 1) s' → Ev (fun k => F k s' (i + 1)) r) → Ev (fun k => F (k + 1) s i) r) :
    ∀ s, Inv lo s → Ev (fun k => F k s lo) r := by
  have main : ∀ (n : Nat) (i : Int) (s : σ), lo ≤ i → i + n = hi → Inv i s → Ev (fun k => F k s i) r := by
    intro n
    induction n with
    | zero =>
      intro i s h0 h1 hI
      have e : i = hi := by omega
      subst e
      exact Ev.up (hnil s hI)
    | succ n ih =>
      intro i s h0 h1 hI
      exact Ev.up (hcons i s h0 (by omega) hI (fun s' hI' => ih (i + 1) s' (by omega) (by omega) hI'))
  intro s hI
  exact main (hi - lo).toNat lo s (by omega) (by omega) hI
def inPage (p : BoxT) : Prop := 0 ≤ p.1 ∧ p.1 ≤ p.2.2.1 ∧ p.2.2.1 ≤ 32 ∧ 0 ≤ p.2.1 ∧ p.2.1 ≤ p.2.2.2 ∧ p.2.2.2 ≤ 32
theorem meet_page (p : BoxT) : inPage (meet p (0, 0, 32, 32)) := by
  unfold meet
  by_cases c : boxOk p.1 p.2.1 p.2.2.1 p.2.2.2 = true ∧ boxOk 0 0 32 32 = true ∧ mx p.1 0 < mn p.2.2.1 32 ∧ mx p.2.1 0 < mn p.2.2.2 32
  · rw [if_pos c]
    obtain ⟨_, _, h3, h4⟩ := c
    unfold inPage
    simp only
    unfold mx mn at *
    omega
  · rw [if_neg c]; simp [inPage]
def cntD (p : BoxT) : Int := if boxOk p.1 p.2.1 p.2.2.1 p.2.2.2 = true then wrap64 (wrap64 (p.2.2.1 - p.1) * wrap64 (p.2.2.2 - p.2.1)) else 0
def bandOk (h i : Int) : Bool := inB i 0 (wrap64 (cntB h - 1))
theorem bandOk_isH {h i : Int} (c : bandOk h i = true) : isH h = true := by
  unfold bandOk cntB at c
  rw [inB_iff] at c
  by_cases e : isH h = true
  · exact e
  · rw [if_neg e, wrap_id (by omega) (by omega)] at c; omega
theorem bandOk_page {h i : Int} (c : bandOk h i = true) : 0 ≤ i * h ∧ 1 ≤ h ∧ i * h + h ≤ 32 ∧ wrap64 (i * h) = i * h ∧ wrap64 (i * h + h) = i * h + h ∧ 0 ≤ i ∧ i ≤ 31 := by
  have e := bandOk_isH c
  unfold bandOk cntB at c
  rw [inB_iff, if_pos e] at c
  rcases isH_cases e with rfl | rfl | rfl | rfl | rfl | rfl <;> (rw [wrap_id (by omega) (by omega)] at c; refine ⟨?_, ?_, ?_, ?_, ?_, ?_, ?_⟩ <;> first | omega | exact wrap_id (by omega) (by omega))
end Go.Proofs.Ytimpejidlnjhlaa.Pure
namespace Go.Proofs.Ytimpejidlnjhlaa.Pure
open Go.RowKit Go.Proofs.Ytimpejidlnjhlaa.QFnExactNewBand Go.Proofs.YtimpejidlnjhlaaW.PrintWords Go.Proofs.YtimpejidlnjhlaaW.PrintLast Go.Proofs.Ytimpejidlnjhlaa.Plain

def wRow : List Int := List.replicate 32 255
def whiteRows (n : Int) : List (List Int) := if inB n 0 32 = true then List.replicate n.toNat wRow else []
theorem whiteRows_len (n : Int) : (whiteRows n).length ≤ 32 := by
  unfold whiteRows
  split
  · rename_i h; rw [inB_iff] at h; rw [List.length_replicate]; omega
  · simp
theorem whiteRows_row {n : Int} {x : List Int} (h : x ∈ whiteRows n) : x = wRow := by
  unfold whiteRows at h
  split at h
  · exact (List.mem_replicate.1 h).2
  · simp at h
theorem iWhiteRows_ev (n : Int) : Ev (fun k => impl_WhiteRows.f k n) (whiteRows n) := by
  simp only [impl_WhiteRows.f, within_eq, Option.bind_some]
  unfold whiteRows
  refine Ev.ite (fun c => ?_) (fun c => ?_)
  · rw [if_pos c]
    rw [inB_iff] at c
    have main : ∀ (m : Nat) (s : List (List Int)), s.length + m ≤ 64 → Ev (fun k => impl_WhiteRows.l0 k (m : Int) s) (s ++ List.replicate m wRow) := by
      intro m
      induction m with
      | zero =>
        intro s _
        refine Ev.up ?_
        simp only [impl_WhiteRows.l0, Int.ofNat_zero, gt_iff_lt, Int.lt_irrefl, if_false]
        exact Ev.val (by simp)
      | succ m ih =>
        intro s hs
        refine Ev.up ?_
        have hp : ((m + 1 : Nat) : Int) > 0 := by omega
        have hw : wrap64 (((m + 1 : Nat) : Int) - 1) = (m : Int) := by rw [wrap_id (by omega) (by omega)]; omega
        have hr : slices_Repeat_int_int.f ([255] : List Int) 32 = some wRow := by unfold slices_Repeat_int_int.f; rw [if_pos ⟨rfl, rfl⟩]; rfl
        have hl : s.length < 5864062014805 := by omega
        simp only [impl_WhiteRows.l0, if_pos hp, hr, Option.bind_some, if_pos hl, hw]
        have h := ih (s ++ [wRow]) (by simp; omega)
        simpa [List.replicate_succ] using h
    have h := main n.toNat [] (by simp; omega)
    rw [show ((n.toNat : Nat) : Int) = n by omega] at h
    simpa using h
  · rw [if_neg c]; exact Ev.now _
theorem sWhite_fill (n : Int) (s : List (List Int)) (x4 : Int) (r : List (List Int)) (hs : s.length < 5864062014805) (h : Ev (fun k => spec_WhiteRows.l0 k n (s ++ [wRow]) (wrap64 (x4 + 1))) r) :
    Ev (fun k => spec_WhiteRows.l1 k n s x4 (List.replicate 32 0) 0) r := by
  refine ev_range (F := fun k (row : List Int) i => spec_WhiteRows.l1 k n s x4 row i) 0 32 (by omega) (fun i row => ∃ m : Nat, i = m ∧ row = List.replicate m 255 ++ List.replicate (32 - m) 0) r ?_ ?_ _ ⟨0, rfl, rfl⟩
  · rintro row ⟨m, hm, rfl⟩
    obtain rfl : m = 32 := by omega
    simp only [spec_WhiteRows.l1, Int.lt_irrefl, if_false, if_pos hs]
    exact h
  · rintro i row h0 h1 ⟨m, rfl, rfl⟩ ih
    have hl : (m : Int) < ((List.replicate m (255 : Int) ++ List.replicate (32 - m) 0).length : Int) := by simp; omega
    have hw : wrap64 ((m : Int) + 1) = (m : Int) + 1 := wrap_id (by omega) (by omega)
    simp only [spec_WhiteRows.l1, if_pos h1, if_pos h0, if_pos hl, Int.toNat_natCast, hw]
    refine ih _ ⟨m + 1, by omega, ?_⟩
    obtain ⟨j, hj⟩ : ∃ j, 32 - m = j + 1 := ⟨31 - m, by omega⟩
    rw [List.set_append_right _ _ (by simp), List.length_replicate, Nat.sub_self, hj, List.replicate_succ, List.set_cons_zero, List.replicate_succ' (n := m), List.append_assoc, show 32 - (m + 1) = j by omega]
    rfl
theorem sWhiteRows_ev (n : Int) : Ev (fun k => spec_WhiteRows.f k n) (whiteRows n) := by
  simp only [spec_WhiteRows.f]
  unfold whiteRows
  by_cases c : inB n 0 32 = true
  · rw [if_pos c]
    rw [inB_iff] at c
    have hd : decide (n ≤ 32) = true := decide_eq_true c.2
    have main : ∀ (m : Nat) (s : List (List Int)), (s.length : Int) + m = n → Ev (fun k => spec_WhiteRows.l0 k n s (s.length : Int)) (s ++ List.replicate m wRow) := by
      intro m
      induction m with
      | zero =>
        intro s hs
        have e : (s.length : Int) = n := by omega
        refine Ev.up ?_
        simp only [spec_WhiteRows.l0, e, Int.lt_irrefl, if_false]
        refine Ev.up ?_
        simp only [spec_WhiteRows.j1, Bool.false_eq_true, if_false]
        exact Ev.val (by simp)
      | succ m ih =>
        intro s hs
        have hlt : (s.length : Int) < n := by omega
        have hl : s.length < 5864062014805 := by omega
        refine Ev.up ?_
        simp only [spec_WhiteRows.l0, if_pos hlt, hd]
        refine Ev.up ?_
        simp only [spec_WhiteRows.j1, if_true, if_pos (show 32 ≤ 35184372088832 by decide)]
        refine sWhite_fill n s _ _ hl ?_
        rw [wrap_id (by omega) (by omega)]
        have h := ih (s ++ [wRow]) (by simp; omega)
        have e : ((s ++ [wRow]).length : Int) = (s.length : Int) + 1 := by simp
        rw [e] at h
        simpa [List.replicate_succ] using h
    have h := main n.toNat [] (by simp; omega)
    simpa using h
  · rw [if_neg c]
    rw [inB_iff] at c
    refine Ev.up ?_
    simp only [spec_WhiteRows.l0]
    refine Ev.ite (fun h => ?_) (fun h => ?_)
    · have hd : decide (n ≤ 32) = false := decide_eq_false (by omega)
      rw [hd]
      exact Ev.up (by simp only [spec_WhiteRows.j1, Bool.false_eq_true, if_false]; exact Ev.now _)
    · exact Ev.up (by simp only [spec_WhiteRows.j1, Bool.false_eq_true, if_false]; exact Ev.now _)
end Go.Proofs.Ytimpejidlnjhlaa.Pure
namespace Go.Proofs.Ytimpejidlnjhlaa.Pure
open Go.RowKit Go.Proofs.Ytimpejidlnjhlaa.QFnExactNewBand Go.Proofs.YtimpejidlnjhlaaW.PrintWords Go.Proofs.YtimpejidlnjhlaaW.PrintLast Go.Proofs.Ytimpejidlnjhlaa.Plain

section
variable {α : Type} (mk : Int → α → α) (ln : α → Int)
def mkAll : Int → List α → List α
  | _, [] => []
  | a, x :: r => mk a x :: mkAll (a + ln x) r
def lnAll : List α → Int
  | [] => 0
  | x :: r => ln x + lnAll r
theorem mkAll_length : ∀ (a : Int) (l : List α), (mkAll mk ln a l).length = l.length
  | _, [] => rfl
  | a, x :: r => by simp [mkAll, mkAll_length (a + ln x) r]
theorem lnAll_nn : ∀ l : List α, (∀ x ∈ l, 0 ≤ ln x) → 0 ≤ lnAll ln l
  | [], _ => Int.le_refl _
  | x :: r, h => by
    have h1 := h x (by simp)
    have h2 := lnAll_nn r (fun y hy => h y (by simp [hy]))
    unfold lnAll; omega
theorem lnAll_le : ∀ l : List α, (∀ x ∈ l, ln x ≤ 4194304) → lnAll ln l ≤ 4194304 * l.length
  | [], _ => by simp [lnAll]
  | x :: r, h => by
    have h1 := h x (by simp)
    have h2 := lnAll_le r (fun y hy => h y (by simp [hy]))
    unfold lnAll; rw [List.length_cons]; omega
theorem ev_mark (xs : List α) {F : Nat → List α → Int → Int → Option (Int × List α)} (a : Int) (hn : ∀ x ∈ xs, 0 ≤ ln x)
    (hnil : ∀ s b, s.length = xs.length → Ev (fun k => F (k + 1) s b (xs.length : Int)) (b, s))
    (hcons : ∀ (done : List α) x rest b, done.length + (rest.length + 1) = xs.length → x ∈ xs → a ≤ b → b + ln x ≤ a + lnAll ln xs → ∀ r, Ev (fun k => F k (done ++ mk b x :: rest) (b + ln x) ((done.length : Int) + 1)) r → Ev (fun k => F (k + 1) (done ++ x :: rest) b (done.length : Int)) r) :
    Ev (fun k => F k xs a 0) (a + lnAll ln xs, mkAll mk ln a xs) := by
  have main : ∀ (rest done : List α) (b : Int), done.length + rest.length = xs.length → (∀ x ∈ rest, x ∈ xs) → a ≤ b → b + lnAll ln rest = a + lnAll ln xs → Ev (fun k => F k (done ++ rest) b (done.length : Int)) (a + lnAll ln xs, done ++ mkAll mk ln b rest) := by
    intro rest
    induction rest with
    | nil =>
      intro done b hl _ _ hb
      have h := hnil (done ++ []) b (by simpa using hl)
      have e : (done.length : Int) = xs.length := by simp at hl; omega
      have e2 : b = a + lnAll ln xs := by simpa [lnAll] using hb
      rw [e, ← e2]
      simpa [mkAll] using Ev.up (g := fun k => F k (done ++ []) b (xs.length : Int)) h
    | cons x rest ih =>
      intro done b hl hm hab hb
      have hx := hm x (by simp)
      have h0 := hn x hx
      have h1 := lnAll_nn ln rest (fun y hy => hn y (hm y (by simp [hy])))
      have hb' : ln x + lnAll ln rest + b = a + lnAll ln xs := by simp only [lnAll] at hb; omega
      refine Ev.up (hcons done x rest b (by simpa using hl) hx hab (by omega) _ ?_)
      have h := ih (done ++ [mk b x]) (b + ln x) (by simp at hl ⊢; omega) (fun y hy => hm y (by simp [hy])) (by omega) (by omega)
      have e : ((done ++ [mk b x]).length : Int) = (done.length : Int) + 1 := by simp
      rw [e] at h
      simpa [mkAll] using h
  simpa using main xs [] a (by simp) (fun _ h => h) (Int.le_refl _) rfl
theorem ev_held (xs : List α) {F : Nat → Int → Int → Option Int} (a : Int) (hn : ∀ x ∈ xs, 0 ≤ ln x)
    (hnil : ∀ b, Ev (fun k => F (k + 1) b ((mkAll mk ln a xs).length : Int)) b)
    (hcons : ∀ pre x rest b, mkAll mk ln a xs = pre ++ mk b x :: rest → x ∈ xs → a ≤ b → b + ln x ≤ a + lnAll ln xs → ∀ r, Ev (fun k => F k (b + ln x) ((pre.length : Int) + 1)) r → Ev (fun k => F (k + 1) b (pre.length : Int)) r) :
    Ev (fun k => F k a 0) (a + lnAll ln xs) := by
  have main : ∀ (rest : List α) (pre : List α) (b : Int), mkAll mk ln a xs = pre ++ mkAll mk ln b rest → (∀ x ∈ rest, x ∈ xs) → a ≤ b → b + lnAll ln rest = a + lnAll ln xs → Ev (fun k => F k b (pre.length : Int)) (a + lnAll ln xs) := by
    intro rest
    induction rest with
    | nil =>
      intro pre b he _ _ hb
      have e : mkAll mk ln a xs = pre := by simpa [mkAll] using he
      have e2 : b = a + lnAll ln xs := by simpa [lnAll] using hb
      have h := hnil b
      rw [e] at h
      rw [← e2]
      exact Ev.up h
    | cons x rest ih =>
      intro pre b he hm hab hb
      have hx := hm x (by simp)
      have h0 := hn x hx
      have h1 := lnAll_nn ln rest (fun y hy => hn y (hm y (by simp [hy])))
      have hb' : ln x + lnAll ln rest + b = a + lnAll ln xs := by simp only [lnAll] at hb; omega
      refine Ev.up (hcons pre x (mkAll mk ln (b + ln x) rest) b he hx hab (by omega) _ ?_)
      have h := ih (pre ++ [mk b x]) (b + ln x) (by rw [he]; simp [mkAll]) (fun y hy => hm y (by simp [hy])) (by omega) (by omega)
      have e : ((pre ++ [mk b x]).length : Int) = (pre.length : Int) + 1 := by simp
      rw [e] at h
      exact h
  simpa using main xs [] a rfl (fun _ h => h) (Int.le_refl _) rfl
end
theorem set_mid {α : Type} (done rest : List α) (x y : α) : (done ++ x :: rest).set done.length y = done ++ y :: rest := by
  rw [List.set_append_right _ _ (Nat.le_refl _), Nat.sub_self]; rfl
theorem mid_lt2 {α : Type} (done rest : List α) (x : α) : ((done.length : Int) < ((done ++ x :: rest).length : Int)) = True := mid_lt
theorem mid_w2 {n : Nat} (h : n + 1 ≤ maxLen) : wrap64 ((n : Int) + 1) = (n : Int) + 1 := by rw [maxLen_eq] at h; exact wrap_id (by omega) (by omega)
def mkI (b : Int) (x : List Int) : List Int := iota 1 id b x.length
def lnI (x : List Int) : Int := x.length
theorem markIntSS_ev (l : List (List Int)) (a : Int) (hm : l.length ≤ maxLen) (hx : ∀ x ∈ l, x.length ≤ maxLen) (h0 : 0 ≤ a) (h1 : a + lnAll lnI l ≤ 9223372036854775806) : Ev (fun k => laws_markIntSS.f k l a) (a + lnAll lnI l, mkAll mkI lnI a l) := by
  simp only [laws_markIntSS.f]
  refine ev_mark mkI lnI l a (fun x _ => by unfold lnI; omega) (fun s b hs => ?_) (fun done x rest b hl hxm hab hbl r ih => ?_)
  · simp only [laws_markIntSS.l0, hs, end_lt, if_false]; exact Ev.now _
  · simp only [laws_markIntSS.l0, mid_lt2, mid_nn, if_true, Int.toNat_natCast, mid_get, mid_w2 (show done.length + 1 ≤ maxLen by omega)]
    refine Ev.bind (markIntS_ev x b (hx x hxm) (by omega) (by rw [show lnI x = (x.length : Int) from rfl] at hbl; omega)) ?_
    simp only [set_mid]
    exact ih
theorem heldIntSS_ev (l : List (List Int)) (a : Int) (hm : l.length ≤ maxLen) (h0 : 0 ≤ a) (h1 : a + lnAll lnI l ≤ 9223372036854775806) : Ev (fun k => laws_heldIntSS.f k (mkAll mkI lnI a l) a) (a + lnAll lnI l) := by
  simp only [laws_heldIntSS.f]
  refine ev_held mkI lnI l (F := fun k b i => laws_heldIntSS.l0 k (mkAll mkI lnI a l) b i) a (fun x _ => by unfold lnI; omega) (fun b => ?_) (fun pre x rest b he hxm hab hbl r ih => ?_)
  · simp only [laws_heldIntSS.l0, end_lt, if_false]; exact Ev.now _
  · have hn := congrArg List.length he
    rw [mkAll_length, List.length_append, List.length_cons] at hn
    rw [he] at ih ⊢
    simp only [laws_heldIntSS.l0, mid_lt2, mid_nn, if_true, rd_L1, Int.toNat_natCast, mid_get, mid_w2 (show pre.length + 1 ≤ maxLen by omega)]
    refine Ev.bind (heldIntS_ev x.length b (by omega) (by rw [show lnI x = (x.length : Int) from rfl] at hbl; omega)) ?_
    simp only [if_neg (show ¬ b + (x.length : Int) < 0 by omega)]
    exact ih
def mkOb (b : Int) (x : S41) : S41 := ⟨iota 2 mkPoint b x.f0.length, b + 2 * x.f0.length, ⟨b + 2 * x.f0.length + 1, b + 2 * x.f0.length + 2, b + 2 * x.f0.length + 3, b + 2 * x.f0.length + 4⟩⟩
def lnOb (x : S41) : Int := 2 * x.f0.length + 5
theorem markObjectS_ev (l : List S41) (a : Int) (hm : l.length ≤ maxLen) (hx : ∀ x ∈ l, x.f0.length ≤ maxLen) (h0 : 0 ≤ a) (h1 : a + lnAll lnOb l ≤ 9223372036854775806) : Ev (fun k => laws_markObjectS.f k l a) (a + lnAll lnOb l, mkAll mkOb lnOb a l) := by
  simp only [laws_markObjectS.f]
  refine ev_mark mkOb lnOb l a (fun x _ => by unfold lnOb; omega) (fun s b hs => ?_) (fun done x rest b hl hxm hab hbl r ih => ?_)
  · simp only [laws_markObjectS.l0, hs, end_lt, if_false]; exact Ev.now _
  · rw [show lnOb x = 2 * (x.f0.length : Int) + 5 from rfl] at hbl
    simp only [laws_markObjectS.l0, mid_lt2, mid_nn, if_true, Int.toNat_natCast, mid_get, mid_w2 (show done.length + 1 ≤ maxLen by omega)]
    refine Ev.bind (markPointS_ev x.f0 b (hx x hxm) (by omega) (by omega)) ?_
    have w1 : wrap64 (b + 2 * (x.f0.length : Int) + 1) = b + 2 * x.f0.length + 1 := wrap_id (by omega) (by omega)
    have w2 : wrap64 (b + 2 * (x.f0.length : Int) + 1 + 1) = b + 2 * x.f0.length + 2 := by rw [wrap_id (by omega) (by omega)]; omega
    have w3 : wrap64 (b + 2 * (x.f0.length : Int) + 2 + 1) = b + 2 * x.f0.length + 3 := by rw [wrap_id (by omega) (by omega)]; omega
    have w4 : wrap64 (b + 2 * (x.f0.length : Int) + 3 + 1) = b + 2 * x.f0.length + 4 := by rw [wrap_id (by omega) (by omega)]; omega
    have w5 : wrap64 (b + 2 * (x.f0.length : Int) + 4 + 1) = b + lnOb x := by rw [wrap_id (by omega) (by omega)]; unfold lnOb; omega
    simp only [set_mid, w1, w2, w3, w4, w5]
    exact ih
theorem heldObjectS_ev (l : List S41) (a : Int) (hm : l.length ≤ maxLen) (h0 : 0 ≤ a) (h1 : a + lnAll lnOb l ≤ 9223372036854775806) : Ev (fun k => laws_heldObjectS.f k (mkAll mkOb lnOb a l) a) (a + lnAll lnOb l) := by
  simp only [laws_heldObjectS.f]
  refine ev_held mkOb lnOb l (F := fun k b i => laws_heldObjectS.l0 k (mkAll mkOb lnOb a l) b i) a (fun x _ => by unfold lnOb; omega) (fun b => ?_) (fun pre x rest b he hxm hab hbl r ih => ?_)
  · simp only [laws_heldObjectS.l0, end_lt, if_false]; exact Ev.now _
  · have hn := congrArg List.length he
    rw [mkAll_length, List.length_append, List.length_cons] at hn
    rw [show lnOb x = 2 * (x.f0.length : Int) + 5 from rfl] at hbl
    rw [he] at ih ⊢
    simp only [laws_heldObjectS.l0, mid_lt2, mid_nn, if_true, rd_T41, Int.toNat_natCast, mid_get, mid_w2 (show pre.length + 1 ≤ maxLen by omega), mkOb]
    refine Ev.bind (heldPointS_ev x.f0.length b (by omega) (by omega)) ?_
    have w1 : wrap64 (b + 2 * (x.f0.length : Int) + 1) = b + 2 * x.f0.length + 1 := wrap_id (by omega) (by omega)
    have w2 : wrap64 (b + 2 * (x.f0.length : Int) + 1 + 1) = b + 2 * x.f0.length + 2 := by rw [wrap_id (by omega) (by omega)]; omega
    have w3 : wrap64 (b + 2 * (x.f0.length : Int) + 2 + 1) = b + 2 * x.f0.length + 3 := by rw [wrap_id (by omega) (by omega)]; omega
    have w4 : wrap64 (b + 2 * (x.f0.length : Int) + 3 + 1) = b + 2 * x.f0.length + 4 := by rw [wrap_id (by omega) (by omega)]; omega
    have w5 : wrap64 (b + 2 * (x.f0.length : Int) + 4 + 1) = b + lnOb x := by rw [wrap_id (by omega) (by omega)]; unfold lnOb; omega
    simp only [if_neg (show ¬ b + 2 * (x.f0.length : Int) < 0 by omega), if_true, w1, w2, w3, w4, w5]
    exact ih
end Go.Proofs.Ytimpejidlnjhlaa.Pure
namespace Go.Proofs.Ytimpejidlnjhlaa.Pure
open Go.RowKit Go.Proofs.Ytimpejidlnjhlaa.QFnExactNewBand Go.Proofs.YtimpejidlnjhlaaW.PrintWords Go.Proofs.YtimpejidlnjhlaaW.PrintLast Go.Proofs.Ytimpejidlnjhlaa.Plain

def nbBase (h i : Int) : List (List Int) := if bandOk h i = true then whiteRows h else []
theorem iNewBand_ev (h i : Int) : Ev (fun k => impl_NewBand.f k h i) (if bandOk h i = true then h else 0, if bandOk h i = true then i else 0, nbBase h i, ([] : List S41), bandOk h i) := by
  simp only [impl_NewBand.f, iIsHeight_eq, iCountBands_eq, within_eq, Option.bind_some]
  unfold nbBase
  have hb : inB i 0 (wrap64 (cntB h - 1)) = bandOk h i := rfl
  rw [hb]
  by_cases e : isH h = true
  · simp only [if_pos e]
    by_cases cb : bandOk h i = true
    · simp only [cb, if_true]
      exact Ev.bind (iWhiteRows_ev h) (Ev.now _)
    · have c' : bandOk h i = false := by simpa using cb
      simp only [c', Bool.false_eq_true, if_false]; exact Ev.now _
  · have c' : bandOk h i = false := by
      cases hc : bandOk h i
      · rfl
      · exact absurd (bandOk_isH hc) e
    simp only [if_neg e, c', Bool.false_eq_true, if_false]; exact Ev.now _
end Go.Proofs.Ytimpejidlnjhlaa.Pure
namespace Go.Proofs.Ytimpejidlnjhlaa.Pure
open Go.RowKit Go.Proofs.Ytimpejidlnjhlaa.QFnExactNewBand Go.Proofs.YtimpejidlnjhlaaW.PrintWords Go.Proofs.YtimpejidlnjhlaaW.PrintLast Go.Proofs.Ytimpejidlnjhlaa.Plain

theorem markBand_ev (p q : Int) (rows : List (List Int)) (l : List S41) (a : Int) (hr : rows.length ≤ maxLen) (hrx : ∀ x ∈ rows, x.length ≤ maxLen) (hm : l.length ≤ maxLen) (hx : ∀ x ∈ l, x.f0.length ≤ maxLen) (h0 : 0 ≤ a) (h1 : a + lnAll lnI rows + lnAll lnOb l ≤ 9223372036854775806) :
    Ev (fun k => laws_markBand.f k p q rows l a) (a + lnAll lnI rows + lnAll lnOb l, mkAll mkI lnI a rows, mkAll mkOb lnOb (a + lnAll lnI rows) l) := by
  have hN := lnAll_nn lnI rows (fun x _ => by unfold lnI; omega)
  have hN2 := lnAll_nn lnOb l (fun x _ => by unfold lnOb; omega)
  simp only [laws_markBand.f]
  exact Ev.bind (markIntSS_ev rows a hr hrx h0 (by omega)) (Ev.bind (markObjectS_ev l _ hm hx (by simp only; omega) (by simp only; omega)) (Ev.now _))
theorem heldBand_ev (p q : Int) (rows : List (List Int)) (l : List S41) (a : Int) (hr : rows.length ≤ maxLen) (hm : l.length ≤ maxLen) (h0 : 0 ≤ a) (h1 : a + lnAll lnI rows + lnAll lnOb l ≤ 9223372036854775806) :
    Ev (fun k => laws_heldBand.f k p q (mkAll mkI lnI a rows) (mkAll mkOb lnOb (a + lnAll lnI rows) l) a) (a + lnAll lnI rows + lnAll lnOb l) := by
  have hN := lnAll_nn lnI rows (fun x _ => by unfold lnI; omega)
  have hN2 := lnAll_nn lnOb l (fun x _ => by unfold lnOb; omega)
  simp only [laws_heldBand.f]
  exact Ev.bind (heldIntSS_ev rows a hr h0 (by omega)) (Ev.ite (fun c => absurd c (by omega)) (fun _ => Ev.bind (heldObjectS_ev l _ hm (by omega) (by omega)) (Ev.ite (fun c => absurd c (by omega)) (fun _ => Ev.now _))))
theorem sNewBand_ev (h i : Int) : Ev (fun k => spec_NewBand.f k h i) (if bandOk h i = true then h else 0, if bandOk h i = true then i else 0, nbBase h i, ([] : List S41), bandOk h i) := by
  simp only [spec_NewBand.f, spec_l12Ok.f, sCountBands_eq, l01In_eq, Option.bind_some]
  unfold nbBase
  have hb : inB i 0 (wrap64 (cntB h - 1)) = bandOk h i := rfl
  rw [hb]
  by_cases cb : bandOk h i = true
  · simp only [cb, if_true]
    exact Ev.bind (sWhiteRows_ev h) (Ev.now _)
  · have c' : bandOk h i = false := by simpa using cb
    simp only [c', Bool.false_eq_true, if_false]; exact Ev.now _
theorem FnExactNewBand (hh i : Int) (_ : (Lit.int .i64 hh).wf = true) (_ : (Lit.int .i64 i).wf = true) : ∃ k, laws_FnExactNewBand.f k hh i = some true := by
  refine Ev.rounds (g := fun k => laws_FnExactNewBand.f k hh i) ?_
  simp only [laws_FnExactNewBand.f]
  have hI := iNewBand_ev hh i
  have hL : (nbBase hh i).length ≤ 32 ∧ ∀ x ∈ nbBase hh i, x.length = 32 := by
    unfold nbBase
    split
    · exact ⟨whiteRows_len hh, fun x hx => by rw [whiteRows_row hx]; decide⟩
    · simp
  refine Ev.bind (sNewBand_ev hh i) (Ev.bind hI ?_)
  generalize (if bandOk hh i = true then hh else 0) = p at hI ⊢
  generalize (if bandOk hh i = true then i else 0) = q at hI ⊢
  generalize bandOk hh i = B at hI ⊢
  generalize nbBase hh i = M at hI hL ⊢
  obtain ⟨hL1, hL2⟩ := hL
  have hM : M.length ≤ maxLen := by rw [maxLen_eq]; omega
  have hX : ∀ x ∈ M, x.length ≤ maxLen := fun x hx => by rw [hL2 x hx, maxLen_eq]; decide
  have hTm : lnAll lnI M ≤ 4194304 * M.length := lnAll_le lnI _ (fun x hx => by have := hL2 x hx; unfold lnI; omega)
  have hNm : 0 ≤ lnAll lnI M := lnAll_nn lnI _ (fun x _ => by unfold lnI; omega)
  have hz : lnAll lnOb ([] : List S41) = 0 := rfl
  have hE := eqBand_ev p q M ([] : List S41) hM hX (by simp) (by simp)
  have hH := heldBand_ev p q M ([] : List S41) 1 hM (by simp) (by omega) (by omega)
  refine Ev.bind hE (Ev.ite (fun _ => Ev.ite (fun c => absurd c (by simp)) (fun _ => ?_)) (fun c => absurd rfl c))
  refine Ev.bind (markBand_ev p q M ([] : List S41) 1 hM hX (by simp) (by simp) (by omega) (by omega)) ?_
  refine Ev.bind hH (Ev.ite (fun c => absurd c (by omega)) (fun _ => Ev.ite (fun _ => ?_) (fun c => absurd rfl c)))
  refine Ev.bind hI (Ev.bind hE (Ev.ite (fun _ => Ev.ite (fun c => absurd c (by simp)) (fun _ => ?_)) (fun c => absurd rfl c)))
  exact Ev.bind hH (Ev.ite (fun c => absurd c (by omega)) (fun _ => Ev.ite (fun _ => Ev.now _) (fun c => absurd rfl c)))
end Go.Proofs.Ytimpejidlnjhlaa.Pure
