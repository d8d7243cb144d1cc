/- The plain law of FnRuns7: over numbers and lists, what the printed functions answer, and that the law answers true. -/
import Derived.Test.YtpickbenfkcpmaaQFnRuns7x16
import Derived.Test.YtpickbenfkcpmaaPlain
set_option linter.unusedSimpArgs false
set_option linter.unusedVariables false
namespace Go.Proofs.Ytpickbenfkcpmaa.Pure
open Go.RowKit Go.Proofs.Ytpickbenfkcpmaa.QFnRuns7 Go.Proofs.YtpickbenfkcpmaaW.PrintWords Go.Proofs.YtpickbenfkcpmaaW.PrintLast Go.Proofs.Ytpickbenfkcpmaa.Plain

theorem within_eq (a b c : Int) : impl_within.f a b c = some (inB a b c) := by unfold impl_within.f inB; by_cases h : b ≤ a <;> simp [h]
def coord (a : Int) : Bool := inB a (-200) 200
def boxOk (a b c d : Int) : Bool := coord a && (coord b && (coord c && (coord d && (decide (a ≤ c) && decide (b ≤ d)))))
theorem coordOk_eq (a : Int) : impl_coordOk.f a = some (coord a) := by unfold impl_coordOk.f; rw [within_eq]; rfl
theorem iPointOk_eq (a b : Int) : impl_PointOk.f a b = some (coord a && coord b) := by unfold impl_PointOk.f; simp only [coordOk_eq, Option.bind_some, and_some]
theorem iBoxOk_eq (a b c d : Int) : impl_BoxOk.f a b c d = some (boxOk a b c d) := by unfold impl_BoxOk.f boxOk; simp only [coordOk_eq, Option.bind_some, and_some_p (a ≤ c), and_some]
def ptsOk (l : List S90) : Bool := l.all fun p => coord p.f0 && coord p.f1
theorem pointsOk_ev (l : List S90) (hm : l.length ≤ maxLen) : Ev (fun k => impl_pointsOk.f k l) (ptsOk l) := by
  simp only [impl_pointsOk.f]
  refine ev_loop0 l (F := fun k i => impl_pointsOk.l0 k l l.length i) (fun _ r => ptsOk r) ?_ (fun pre x rest e h => ?_)
  · simp only [impl_pointsOk.l0, end_lt, if_false]; exact Ev.now _
  · subst e
    simp only [impl_pointsOk.l0, mid_lt, mid_nn, mid_wrap hm, if_true, rd_T90, Int.toNat_natCast, mid_get, iPointOk_eq, Option.bind_some]
    exact Ev.andB (fun _ => h)
def objOk (l : List S90) (g a b c d : Int) : Bool := decide (3 ≤ (l.length : Int)) && (decide ((l.length : Int) ≤ 8) && (ptsOk l && (inB g 0 255 && boxOk a b c d)))
theorem iObjectOk_ev (l : List S90) (g a b c d : Int) (hm : l.length ≤ maxLen) : Ev (fun k => impl_ObjectOk.f k l g a b c d) (objOk l g a b c d) := by
  simp only [impl_ObjectOk.f, within_eq, iBoxOk_eq, Option.bind_some, and_some]
  unfold objOk
  rw [← Bool.and_assoc]
  exact Ev.andB (fun _ => Ev.bind (pointsOk_ev l hm) (Ev.now _))
def rowOk (l : List Int) : Bool := decide ((l.length : Int) = 32) && l.all fun v => inB v 0 255
def rowsOk (l : List (List Int)) : Bool := decide ((l.length : Int) ≤ 32) && l.all rowOk
end Go.Proofs.Ytpickbenfkcpmaa.Pure
namespace Go.Proofs.Ytpickbenfkcpmaa.Pure
open Go.RowKit Go.Proofs.Ytpickbenfkcpmaa.QFnRuns7 Go.Proofs.YtpickbenfkcpmaaW.PrintWords Go.Proofs.YtpickbenfkcpmaaW.PrintLast Go.Proofs.Ytpickbenfkcpmaa.Plain

abbrev BoxT := Int × Int × Int × Int
theorem mx_self (a : Int) : mx a a = a := by unfold mx; split <;> rfl
theorem mn_self (a : Int) : mn a a = a := by unfold mn; split <;> rfl
theorem mx_comm (a b : Int) : mx a b = mx b a := by unfold mx; omega
theorem mn_comm (a b : Int) : mn a b = mn b a := by unfold mn; omega
def meet (p q : BoxT) : BoxT := if boxOk p.1 p.2.1 p.2.2.1 p.2.2.2 = true ∧ boxOk q.1 q.2.1 q.2.2.1 q.2.2.2 = true ∧ mx p.1 q.1 < mn p.2.2.1 q.2.2.1 ∧ mx p.2.1 q.2.1 < mn p.2.2.2 q.2.2.2 then (mx p.1 q.1, mx p.2.1 q.2.1, mn p.2.2.1 q.2.2.1, mn p.2.2.2 q.2.2.2) else (0, 0, 0, 0)
theorem iMeetBox_j0 (k : Nat) (z : Bool) (a b c d e f g h : Int) : impl_MeetBox.j0 (k + 1) z a b c d e f g h = some (if z = false ∧ mx a e < mn c g ∧ mx b f < mn d h then (mx a e, mx b f, mn c g, mn d h) else (0, 0, 0, 0)) := by
  simp only [impl_MeetBox.j0]
  cases z
  · by_cases c3 : mx a e < mn c g
    · have n3 : ¬ mx a e ≥ mn c g := by omega
      by_cases c4 : mx b f < mn d h
      · have n4 : ¬ mx b f ≥ mn d h := by omega
        simp only [Bool.false_eq_true, if_false, if_neg n3, if_neg n4]
        rw [if_pos ⟨trivial, c3, c4⟩]
      · have n4 : mx b f ≥ mn d h := by omega
        simp only [Bool.false_eq_true, if_false, if_neg n3, if_pos n4]
        rw [if_neg (fun q => c4 q.2.2)]
    · have n3 : mx a e ≥ mn c g := by omega
      simp only [Bool.false_eq_true, if_false, if_pos n3]
      rw [if_neg (fun q => c3 q.2.1)]
  · simp
theorem iMeetBox_ev (a b c d e f g h : Int) : Ev (fun k => impl_MeetBox.f k a b c d e f g h) (meet (a, b, c, d) (e, f, g, h)) := by
  simp only [impl_MeetBox.f, iBoxOk_eq, Option.bind_some]
  unfold meet
  by_cases c1 : boxOk a b c d = true
  · simp only [if_pos c1]
    refine Ev.up ?_
    simp only [iMeetBox_j0]
    refine Ev.val ?_
    by_cases c2 : boxOk e f g h = true
    · simp [c1, c2]
    · simp [c1, c2]
  · simp only [if_neg c1]
    refine Ev.up ?_
    simp only [iMeetBox_j0]
    exact Ev.val (by simp [c1])
def boxFrom : List S90 → BoxT → BoxT
  | [], b => b
  | x :: r, b => boxFrom r (mn b.1 x.f0, mn b.2.1 x.f1, mx b.2.2.1 x.f0, mx b.2.2.2 x.f1)
def boxOf (l : List S90) : BoxT :=
  match l with
  | [] => (0, 0, 0, 0)
  | x :: r => if ptsOk (x :: r) = true then boxFrom r (x.f0, x.f1, x.f0, x.f1) else (0, 0, 0, 0)
theorem iBoxOf_ev (l : List S90) (hm : l.length ≤ maxLen) : Ev (fun k => impl_BoxOf.f k l) (boxOf l) := by
  simp only [impl_BoxOf.f]
  match l, hm with
  | [], hm =>
    simp only [List.length_nil, Int.ofNat_zero, if_true]
    exact Ev.up (by simp only [impl_BoxOf.j0, if_true]; exact Ev.now _)
  | x :: r, hm =>
    have hne : ¬ ((x :: r).length : Int) = 0 := by rw [List.length_cons]; omega
    have hpos : (0 : Int) < ((x :: r).length : Int) := by rw [List.length_cons]; omega
    simp only [if_neg hne]
    refine Ev.bind (pointsOk_ev _ hm) (Ev.up ?_)
    unfold boxOf
    by_cases c : ptsOk (x :: r) = true
    · have hx : rd_T90 (x :: r) 0 = x := rfl
      simp only [c, Bool.not_true, impl_BoxOf.j0, Bool.false_eq_true, if_false, if_pos hpos, hx, if_true]
      have hb : boxFrom r (x.f0, x.f1, x.f0, x.f1) = boxFrom (x :: r) (x.f0, x.f1, x.f0, x.f1) := by simp only [boxFrom, mn_self, mx_self]
      rw [hb]
      generalize hq : x :: r = q at *
      refine ev_loop q (F := fun k (s : BoxT) i => impl_BoxOf.l0 k q q.length i s.1 s.2.1 s.2.2.1 s.2.2.2) (fun _ _ _ => True) (fun _ r s => boxFrom r s) ?_ ?_ (x.f0, x.f1, x.f0, x.f1) trivial
      · intro s _; simp only [impl_BoxOf.l0, end_lt, if_false]; exact Ev.now _
      · rintro pre y rest s e _ ih
        clear hq
        subst e
        simp only [impl_BoxOf.l0, mid_lt, mid_nn, mid_wrap hm, if_true, rd_T90, Int.toNat_natCast, mid_get]
        exact ih (mn s.1 y.f0, mn s.2.1 y.f1, mx s.2.2.1 y.f0, mx s.2.2.2 y.f1) trivial
    · have c' : ptsOk (x :: r) = false := by simpa using c
      simp only [c', Bool.not_false, impl_BoxOf.j0, if_true, Bool.false_eq_true, if_false]; exact Ev.now _
/-- A loop that counts from lo to hi. -/
theorem ev_range {σ β : Type} {F : Nat → σ → Int → Option β} (lo hi : Int) (hlh : lo ≤ hi) (Inv : Int → σ → Prop) (r : β)
    (hnil : ∀ s, Inv hi s → Ev (fun k => F (k + 1) s hi) r)
    (hcons : ∀ i s, lo ≤ i → i < hi → Inv i s → (∀ s', Inv (i + 1) s' → Ev (fun k => F k s' (i + 1)) r) → Ev (fun k => F (k + 1) s i) r) :
    ∀ s, Inv lo s → Ev (fun k => F k s lo) r := by
  have main : ∀ (n : Nat) (i : Int) (s : σ), lo ≤ i → i + n = hi → Inv i s → Ev (fun k => F k s i) r := by
    intro n
    induction n with
    | zero =>
      intro i s h0 h1 hI
      have e : i = hi := by omega
      subst e
      exact Ev.up (hnil s hI)
    | succ n ih =>
      intro i s h0 h1 hI
      exact Ev.up (hcons i s h0 (by omega) hI (fun s' hI' => ih (i + 1) s' (by omega) (by omega) hI'))
  intro s hI
  exact main (hi - lo).toNat lo s (by omega) (by omega) hI
def inPage (p : BoxT) : Prop := 0 ≤ p.1 ∧ p.1 ≤ p.2.2.1 ∧ p.2.2.1 ≤ 32 ∧ 0 ≤ p.2.1 ∧ p.2.1 ≤ p.2.2.2 ∧ p.2.2.2 ≤ 32
def rowsIn (lo y0 y1 y : Int) : Int := if mx lo y0 < mn y y1 then mn y y1 - mx lo y0 else 0
theorem mx_tells (a b : Int) : a ≤ mx a b ∧ b ≤ mx a b ∧ (mx a b = a ∨ mx a b = b) := by unfold mx; omega
theorem mn_tells (a b : Int) : mn a b ≤ a ∧ mn a b ≤ b ∧ (mn a b = a ∨ mn a b = b) := by unfold mn; omega
theorem rowsIn_bd {lo y0 y1 y : Int} (h0 : 0 ≤ lo) (h1 : y1 ≤ 32) : 0 ≤ rowsIn lo y0 y1 y ∧ rowsIn lo y0 y1 y ≤ 32 := by
  unfold rowsIn
  have a := mx_tells lo y0
  have b := mn_tells y y1
  split <;> omega
theorem rowsIn_pos {lo y0 y1 y : Int} (h1 : lo < y) (h2 : lo < y1) (h3 : y0 < y) (h4 : y0 < y1) : rowsIn lo y0 y1 y = mn y1 y - mx y0 lo := by
  unfold rowsIn
  rw [mx_comm y0, mn_comm y1]
  have a := mx_tells lo y0
  have b := mn_tells y y1
  rw [if_pos (by omega)]
theorem rowsIn_in {lo y0 y1 y : Int} (h1 : lo ≤ y) (h2 : y0 ≤ y) (h3 : y < y1) : rowsIn lo y0 y1 (y + 1) = rowsIn lo y0 y1 y + 1 := by
  unfold rowsIn
  have a := mx_tells lo y0
  have b := mn_tells y y1
  have c := mn_tells (y + 1) y1
  split <;> split <;> omega
theorem rowsIn_out {lo y0 y1 y : Int} (h1 : lo ≤ y) (h2 : y < y0 ∨ y1 ≤ y) : rowsIn lo y0 y1 (y + 1) = rowsIn lo y0 y1 y := by
  unfold rowsIn
  have a := mx_tells lo y0
  have b := mn_tells y y1
  have c := mn_tells (y + 1) y1
  split <;> split <;> omega
theorem rowsIn_lo {lo y0 y1 : Int} : rowsIn lo y0 y1 lo = 0 := by
  unfold rowsIn
  have a := mx_tells lo y0
  have b := mn_tells lo y1
  rw [if_neg (by omega)]
theorem meet_page (p : BoxT) : inPage (meet p (0, 0, 32, 32)) := by
  unfold meet
  by_cases c : boxOk p.1 p.2.1 p.2.2.1 p.2.2.2 = true ∧ boxOk 0 0 32 32 = true ∧ mx p.1 0 < mn p.2.2.1 32 ∧ mx p.2.1 0 < mn p.2.2.2 32
  · rw [if_pos c]
    obtain ⟨_, _, h3, h4⟩ := c
    unfold inPage
    simp only
    unfold mx mn at *
    omega
  · rw [if_neg c]; simp [inPage]
def cntD (p : BoxT) : Int := if boxOk p.1 p.2.1 p.2.2.1 p.2.2.2 = true then wrap64 (wrap64 (p.2.2.1 - p.1) * wrap64 (p.2.2.2 - p.2.1)) else 0
end Go.Proofs.Ytpickbenfkcpmaa.Pure
namespace Go.Proofs.Ytpickbenfkcpmaa.Pure
open Go.RowKit Go.Proofs.Ytpickbenfkcpmaa.QFnRuns7 Go.Proofs.YtpickbenfkcpmaaW.PrintWords Go.Proofs.YtpickbenfkcpmaaW.PrintLast Go.Proofs.Ytpickbenfkcpmaa.Plain

def objsOk (l : List S82) : Bool := l.all fun o => objOk o.f0 o.f1 o.f2.f0 o.f2.f1 o.f2.f2 o.f2.f3
end Go.Proofs.Ytpickbenfkcpmaa.Pure
namespace Go.Proofs.Ytpickbenfkcpmaa.Pure
open Go.RowKit Go.Proofs.Ytpickbenfkcpmaa.QFnRuns7 Go.Proofs.YtpickbenfkcpmaaW.PrintWords Go.Proofs.YtpickbenfkcpmaaW.PrintLast Go.Proofs.Ytpickbenfkcpmaa.Plain

theorem and255 (x : Int) : 0 ≤ Go.bits .and .i64 x 255 ∧ Go.bits .and .i64 x 255 ≤ 255 := by
  have h : ((BitVec.ofInt 64 x) &&& (BitVec.ofInt 64 255)).toNat ≤ 255 := by
    rw [BitVec.toNat_and]; exact Nat.le_trans Nat.and_le_right (by decide)
  have e : Go.bits .and .i64 x 255 = IntKind.wrap .i64 (((BitVec.ofInt 64 x) &&& (BitVec.ofInt 64 255)).toNat : Int) := rfl
  rw [e]
  generalize ((BitVec.ofInt 64 x) &&& (BitVec.ofInt 64 255)).toNat = n at h
  have e2 : IntKind.wrap .i64 (n : Int) = n := by
    have e3 : IntKind.wrap .i64 (n : Int) = if ((true && decide ((n : Int) % 2 ^ 64 ≥ 2 ^ 63)) = true) then (n : Int) % 2 ^ 64 - 2 ^ 64 else (n : Int) % 2 ^ 64 := rfl
    rw [e3]
    have c : ¬ ((true && decide ((n : Int) % 2 ^ 64 ≥ 2 ^ 63)) = true) := by simp; omega
    rw [if_neg c]; omega
  rw [e2]; omega
theorem byte_ok (b : List Int) (i h : Int) (hb : (b.length : Int) ≤ 1048576) (h0 : 0 ≤ i) (h1 : i ≤ 1048576) : ∃ v i' h', spec_l01Byte.f b i h = some (v, i', h') ∧ 0 ≤ v ∧ v ≤ 255 ∧ 0 ≤ i' ∧ i' ≤ 1048576 := by
  unfold spec_l01Byte.f
  by_cases c : i < (b.length : Int)
  · rw [if_pos c, if_pos h0]
    have hw : wrap64 (i + 1) = i + 1 := wrap_id (by omega) (by omega)
    exact ⟨_, _, _, rfl, (and255 _).1, (and255 _).2, by rw [hw]; omega, by rw [hw]; omega⟩
  · rw [if_neg c]
    exact ⟨_, _, _, rfl, (and255 _).1, (and255 _).2, h0, h1⟩
theorem below_ok (b : List Int) (i h n : Int) (hn : 0 < n) (hn2 : n ≤ 256) (hb : (b.length : Int) ≤ 1048576) (h0 : 0 ≤ i) (h1 : i ≤ 1048576) : ∃ v i' h', spec_l01Below.f b i h n = some (v, i', h') ∧ 0 ≤ v ∧ v < n ∧ 0 ≤ i' ∧ i' ≤ 1048576 := by
  obtain ⟨v, i', h', e, g0, g1, g2, g3⟩ := byte_ok b i h hb h0 h1
  unfold spec_l01Below.f
  rw [if_neg (by omega), if_pos hn2, e]
  refine ⟨Int.tmod v n, i', h', ?_, Int.tmod_nonneg _ g0, Int.tmod_lt_of_pos _ hn, g2, g3⟩
  simp only [Option.bind_some]
  rw [if_neg (by omega)]
theorem once_ok (b : List Int) (i h n : Int) (hn : 0 < n) (hn2 : n ≤ 256) (hb : (b.length : Int) ≤ 1048576) (h0 : 0 ≤ i) (h1 : i ≤ 1048576) : ∃ v i' h', spec_l01Once.f b i h n = some (v, i', h') ∧ 0 ≤ i' ∧ i' ≤ 1048576 := by
  obtain ⟨v, i', h', e, _, _, g2, g3⟩ := below_ok b i h n hn hn2 hb h0 h1
  unfold spec_l01Once.f
  rw [e]
  exact ⟨_, _, _, rfl, g2, g3⟩
theorem pick_ok (b : List Int) (i h : Int) (l : List Int) (hn : 0 < l.length) (hn2 : l.length ≤ 256) (hb : (b.length : Int) ≤ 1048576) (h0 : 0 ≤ i) (h1 : i ≤ 1048576) : ∃ v i' h', spec_l01PickInt.f b i h l = some (v, i', h') ∧ v ∈ l ∧ 0 ≤ i' ∧ i' ≤ 1048576 := by
  obtain ⟨v, i', h', e, g0, g1, g2, g3⟩ := below_ok b i h l.length (by omega) (by omega) hb h0 h1
  unfold spec_l01PickInt.f
  rw [e]
  simp only [Option.bind_some, if_pos g0, if_pos g1]
  refine ⟨_, _, _, rfl, ?_, g2, g3⟩
  have hv : v.toNat < l.length := by omega
  have e2 : rd l v = l[v.toNat] := by simp [rd, List.getD_eq_getElem?_getD, List.getElem?_eq_getElem hv]
  rw [e2]
  exact List.getElem_mem hv
theorem new_ok (b : List Int) (hb : (b.length : Int) ≤ 1048576) : ∃ h', Ev (fun k => spec_l01New.f k b) (b, 0, h') := by
  simp only [spec_l01New.f]
  have main : ∀ (m : Nat) (i : Nat) (h : Int), 4001 - i = m → ∃ h', Ev (fun k => spec_l01New.l0 k b h (i : Int)) (b, 0, h') := by
    intro m
    induction m with
    | zero =>
      intro i h hm
      refine ⟨h, Ev.up ?_⟩
      simp only [spec_l01New.l0, if_neg (show ¬ (i : Int) < 4000 by omega)]
      exact Ev.ite (fun _ => Ev.now _) (fun _ => Ev.now _)
    | succ m ih =>
      intro i h hm
      by_cases c : (i : Int) < (b.length : Int)
      · by_cases c2 : (i : Int) < 4000
        · have hw : wrap64 ((i : Int) + 1) = ((i + 1 : Nat) : Int) := by rw [wrap_id (by omega) (by omega)]; simp
          obtain ⟨h', e⟩ := ih (i + 1) (Go.bits .and .i64 (wrap64 ((wrap64 ((wrap64 (h * 131)) + (wrap64 (rd b (i : Int))))) + 7)) 1073741823) (by omega)
          refine ⟨h', Ev.up ?_⟩
          simp only [spec_l01New.l0, if_pos c, if_pos c2, mid_nn, if_true, hw]
          exact e
        · refine ⟨h, Ev.up ?_⟩
          simp only [spec_l01New.l0, if_pos c, if_neg c2]; exact Ev.now _
      · refine ⟨h, Ev.up ?_⟩
        simp only [spec_l01New.l0, if_neg c]; exact Ev.now _
  exact main 4001 0 _ rfl
theorem sameInts_ev (l : List Int) (hm : l.length ≤ maxLen) : Ev (fun k => laws_sameInts.f k l l) true := by
  simp only [laws_sameInts.f, if_true]
  refine ev_loop0 l (F := fun k i => laws_sameInts.l0 k l l i) (fun _ _ => true) ?_ (fun pre x rest e h => ?_)
  · simp only [laws_sameInts.l0, end_lt, if_false]; exact Ev.now _
  · subst e
    simp only [laws_sameInts.l0, mid_lt, mid_nn, mid_wrap hm, if_true]
    exact h
end Go.Proofs.Ytpickbenfkcpmaa.Pure
namespace Go.Proofs.Ytpickbenfkcpmaa.Pure
open Go.RowKit Go.Proofs.Ytpickbenfkcpmaa.QFnRuns7 Go.Proofs.YtpickbenfkcpmaaW.PrintWords Go.Proofs.YtpickbenfkcpmaaW.PrintLast Go.Proofs.Ytpickbenfkcpmaa.Plain

def stkOk (l : List Int) : Bool := (l.all fun v => inB v (-9999) 9999) && decide ((l.length : Int) ≤ 12)
theorem iStackOk_ev (l : List Int) (hm : l.length ≤ maxLen) : Ev (fun k => impl_StackOk.f k l) (stkOk l) := by
  simp only [impl_StackOk.f]
  unfold stkOk
  by_cases c : (l.length : Int) > 12
  · simp only [if_pos c, decide_eq_false (show ¬ (l.length : Int) ≤ 12 by omega), Bool.and_false]; exact Ev.now _
  · simp only [if_neg c, decide_eq_true (show (l.length : Int) ≤ 12 by omega), Bool.and_true]
    refine ev_loop0 l (F := fun k i => impl_StackOk.l0 k l l.length i) (fun _ r => r.all fun v => inB v (-9999) 9999) ?_ (fun pre x rest e h => ?_)
    · simp only [impl_StackOk.l0, end_lt, if_false]; exact Ev.now _
    · clear c
      subst e
      simp only [impl_StackOk.l0, mid_lt, mid_nn, mid_wrap hm, if_true, rd, Int.toNat_natCast, mid_get, within_eq, Option.bind_some, List.all_cons]
      exact Ev.andB (fun _ => h)
def turnOk (a b c d : Int) : Bool := inB a 0 3 && (inB b 1 4 && (coord c && coord d))
theorem iTurnOk_eq (a b c d : Int) : impl_TurnOk.f a b c d = some (turnOk a b c d) := by
  unfold impl_TurnOk.f turnOk
  simp only [within_eq, coordOk_eq, Option.bind_some, and_some]
def grOk (st : List Int) (p q r s : Int) (l : List S90) (g t u v x : Int) : Bool := stkOk st && (turnOk p q r s && (boxOk t u v x && ((ptsOk l && decide ((l.length : Int) ≤ 8)) && inB g 0 255)))
theorem iGraphicsOk_ev (st : List Int) (p q r s : Int) (l : List S90) (g t u v x : Int) (hs : st.length ≤ maxLen) (hl : l.length ≤ maxLen) : Ev (fun k => impl_GraphicsOk.f k st p q r s l g t u v x) (grOk st p q r s l g t u v x) := by
  simp only [impl_GraphicsOk.f, iTurnOk_eq, iBoxOk_eq, within_eq, Option.bind_some]
  unfold grOk
  refine Ev.bind (iStackOk_ev st hs) (Ev.andB (fun _ => Ev.andB (fun _ => Ev.andB (fun _ => ?_))))
  rw [show (ptsOk l && decide ((l.length : Int) ≤ 8)) = (decide ((l.length : Int) ≤ 8) && ptsOk l) from Bool.and_comm _ _, Bool.and_assoc]
  exact Ev.andP (fun _ => Ev.bind (pointsOk_ev l hl) (Ev.andB (fun _ => Ev.now _)))
def grO (x : S33) : Bool := grOk x.f0 x.f1.f0 x.f1.f1 x.f1.f2 x.f1.f3 x.f2 x.f3 x.f4.f0 x.f4.f1 x.f4.f2 x.f4.f3
def pgOk (st : List Int) (p q r s : Int) (l : List S90) (g t u v x : Int) (G : List S33) (O : List S82) : Bool := grOk st p q r s l g t u v x && (decide ((G.length : Int) ≤ 4) && (decide ((O.length : Int) ≤ 12) && (G.all grO && objsOk O)))
theorem iPageOk_ev (st : List Int) (p q r s : Int) (l : List S90) (g t u v x : Int) (G : List S33) (O : List S82) (hs : st.length ≤ maxLen) (hl : l.length ≤ maxLen) (hG : G.length ≤ maxLen) (hGx : ∀ x ∈ G, x.f0.length ≤ maxLen ∧ x.f2.length ≤ maxLen) (hO : O.length ≤ maxLen) (hOx : ∀ x ∈ O, x.f0.length ≤ maxLen) :
    Ev (fun k => impl_PageOk.f k st p q r s l g t u v x G O) (pgOk st p q r s l g t u v x G O) := by
  have no : Ev (fun k => impl_PageOk.j0 k true st p q r s l g t u v x G O) false := Ev.up (by simp only [impl_PageOk.j0, if_true]; exact Ev.now _)
  have objs : Ev (fun k => impl_PageOk.l1 k O (O.length : Int) 0) (objsOk O) := by
    refine ev_loop0 O (F := fun k i => impl_PageOk.l1 k O O.length i) (fun _ r => objsOk r) ?_ (fun pre y rest e h => ?_)
    · simp only [impl_PageOk.l1, end_lt, if_false]; exact Ev.now _
    · have hxx := hOx y (by rw [e]; simp)
      subst e
      simp only [impl_PageOk.l1, mid_lt, mid_nn, mid_wrap hO, if_true, rd_T82, Int.toNat_natCast, mid_get]
      exact Ev.bind (iObjectOk_ev y.f0 _ _ _ _ _ hxx) (Ev.andB (fun _ => h))
  have grs : Ev (fun k => impl_PageOk.l0 k G (G.length : Int) 0 st p q r s l g t u v x G O) (G.all grO && objsOk O) := by
    have hGG : ∀ H : List S33, Ev (fun k => impl_PageOk.l0 k G (G.length : Int) 0 st p q r s l g t u v x H O) (G.all grO && objsOk O) := fun H => by
      refine ev_loop0 G (F := fun k i => impl_PageOk.l0 k G G.length i st p q r s l g t u v x H O) (fun _ r => r.all grO && objsOk O) ?_ (fun pre y rest e h => ?_)
      · simp only [impl_PageOk.l0, end_lt, if_false, List.all_nil, Bool.true_and]; exact objs
      · have hxx := hGx y (by rw [e]; simp)
        rw [List.all_cons, Bool.and_assoc]
        subst e
        simp only [impl_PageOk.l0, mid_lt, mid_nn, mid_wrap hG, if_true, rd_T33, Int.toNat_natCast, mid_get]
        exact Ev.bind (iGraphicsOk_ev y.f0 _ _ _ _ y.f2 _ _ _ _ _ hxx.1 hxx.2) (Ev.andB (fun _ => h))
    exact hGG G
  simp only [impl_PageOk.f]
  unfold pgOk
  refine Ev.bind (iGraphicsOk_ev st p q r s l g t u v x hs hl) ?_
  by_cases c : grOk st p q r s l g t u v x = true
  · simp only [c, if_true, Bool.true_and]
    by_cases c1 : (G.length : Int) > 4
    · simp only [if_pos c1, decide_eq_false (show ¬ (G.length : Int) ≤ 4 by omega), Bool.false_and]; exact no
    · simp only [if_neg c1, decide_eq_true (show (G.length : Int) ≤ 4 by omega), Bool.true_and]
      by_cases c2 : (O.length : Int) > 12
      · simp only [decide_eq_true c2, decide_eq_false (show ¬ (O.length : Int) ≤ 12 by omega), Bool.false_and]; exact no
      · simp only [decide_eq_false c2, decide_eq_true (show (O.length : Int) ≤ 12 by omega), Bool.true_and]
        refine Ev.up ?_
        simp only [impl_PageOk.j0, Bool.false_eq_true, if_false]
        exact grs
  · simp only [c, Bool.false_eq_true, if_false, Bool.false_and]; exact no
end Go.Proofs.Ytpickbenfkcpmaa.Pure
namespace Go.Proofs.Ytpickbenfkcpmaa.Pure
open Go.RowKit Go.Proofs.Ytpickbenfkcpmaa.QFnRuns7 Go.Proofs.YtpickbenfkcpmaaW.PrintWords Go.Proofs.YtpickbenfkcpmaaW.PrintLast Go.Proofs.Ytpickbenfkcpmaa.Plain

/-! Names, tokens -/
def nmFrom (a : ByteArray) : Nat → Int → Bool
  | 0, _ => true
  | n + 1, i => if bt a i < 97 then false else if bt a i > 122 then false else nmFrom a n (i + 1)
def nameOk (a : ByteArray) : Bool := if (a.size : Int) < 1 then false else if (a.size : Int) > 8 then false else nmFrom a a.size 0
def tokOk (a : ByteArray) (n : Int) : Bool := if a.toList = ([] : List UInt8) then inB n (-999) 999 else (nameOk a && (n == 0))
theorem iIsName_ev (a : ByteArray) : Ev (fun k => impl_IsName.f k a) (nameOk a) := by
  simp only [impl_IsName.f]
  unfold nameOk
  have no : Ev (fun k => impl_IsName.j0 k a true) false := Ev.up (by simp only [impl_IsName.j0, if_true]; exact Ev.now _)
  by_cases c : (a.size : Int) < 1
  · simp only [if_pos c]; exact no
  · simp only [if_neg c]
    by_cases c2 : (a.size : Int) > 8
    · simp only [if_pos c2, decide_eq_true c2]; exact no
    · simp only [if_neg c2, decide_eq_false c2]
      refine Ev.up ?_
      simp only [impl_IsName.j0, Bool.false_eq_true, if_false]
      have main : ∀ (n : Nat) (i : Int), 0 ≤ i → i + n = a.size → Ev (fun k => impl_IsName.l0 k a i) (nmFrom a n i) := by
        intro n
        induction n with
        | zero =>
          intro i h0 h1
          refine Ev.up ?_
          simp only [impl_IsName.l0, if_neg (show ¬ i < (a.size : Int) by omega)]
          exact Ev.now _
        | succ n ih =>
          intro i h0 h1
          refine Ev.up ?_
          have hw : wrap64 (i + 1) = i + 1 := wrap_id (by omega) (by omega)
          simp only [impl_IsName.l0, if_pos (show i < (a.size : Int) by omega), if_pos h0, hw, nmFrom]
          exact Ev.ite (fun z => by rw [if_pos z]; exact Ev.now _) (fun z => by rw [if_neg z]; exact Ev.ite (fun z2 => by rw [if_pos z2]; exact Ev.now _) (fun z2 => by rw [if_neg z2]; exact ih (i + 1) (by omega) (by omega)))
      exact main a.size 0 (by omega) (by omega)
theorem iTokenOk_ev (a : ByteArray) (n : Int) : Ev (fun k => impl_TokenOk.f k a n) (tokOk a n) := by
  simp only [impl_TokenOk.f]
  unfold tokOk
  refine Ev.ite (fun z => ?_) (fun z => ?_)
  · simp only [if_pos z, within_eq, Option.bind_some]; exact Ev.now _
  · simp only [if_neg z]
    exact Ev.bind (iIsName_ev a) (Ev.andB (fun _ => Ev.now _))
def tksOk (l : List S46) : Bool := l.all fun t => tokOk t.f0 t.f1
theorem itokensOk_ev (l : List S46) (hm : l.length ≤ maxLen) : Ev (fun k => impl_tokensOk.f k l) (tksOk l) := by
  simp only [impl_tokensOk.f]
  refine ev_loop0 l (F := fun k i => impl_tokensOk.l0 k l l.length i) (fun _ r => tksOk r) ?_ (fun pre x rest e h => ?_)
  · simp only [impl_tokensOk.l0, end_lt, if_false]; exact Ev.now _
  · subst e
    simp only [impl_tokensOk.l0, mid_lt, mid_nn, mid_wrap hm, if_true, rd_T46, Int.toNat_natCast, mid_get]
    exact Ev.bind (iTokenOk_ev _ _) (Ev.andB (fun _ => h))
/-! Blocks -/
abbrev nRep : List UInt8 := [114, 101, 112, 101, 97, 116]
abbrev nEnd : List UInt8 := [101, 110, 100]
def repOk : Option S46 → Bool
  | some q => if q.f0.toList = ([] : List UInt8) then inB q.f1 0 9 else false
  | none => false
def blkGo : Option S46 → Int → List S46 → Bool
  | _, d, [] => d == 0
  | p, d, t :: r => if t.f0.toList = nRep then (repOk p && (decide (d + 1 ≤ 3) && blkGo (some t) (d + 1) r)) else if t.f0.toList = nEnd then (decide (0 ≤ d - 1) && blkGo (some t) (d - 1) r) else blkGo (some t) d r
def blkOk (l : List S46) : Bool := decide ((l.length : Int) ≤ 60) && (tksOk l && blkGo none 0 l)
theorem getLast_rd {pre rest : List S46} (hne : pre ≠ []) (hm : pre.length ≤ 60) : pre.getLast? = some (rd_T46 (pre ++ rest) (wrap64 ((pre.length : Int) - 1))) ∧ 0 ≤ wrap64 ((pre.length : Int) - 1) ∧ wrap64 ((pre.length : Int) - 1) < ((pre ++ rest).length : Int) := by
  have hp : 0 < pre.length := List.length_pos_iff.2 hne
  have hw : wrap64 ((pre.length : Int) - 1) = (pre.length : Int) - 1 := wrap_id (by omega) (by omega)
  rw [hw]
  refine ⟨?_, by omega, by rw [List.length_append]; omega⟩
  rw [List.getLast?_eq_getElem?, rd_T46, show ((pre.length : Int) - 1).toNat = pre.length - 1 by omega, List.getD_eq_getElem?_getD, List.getElem?_append_left (by omega), List.getElem?_eq_getElem (by omega)]
  rfl
theorem iBlocksOk_ev (l : List S46) (hm : l.length ≤ maxLen) : Ev (fun k => impl_BlocksOk.f k l) (blkOk l) := by
  simp only [impl_BlocksOk.f]
  unfold blkOk
  have no : Ev (fun k => impl_BlocksOk.j0 k l true) false := Ev.up (by simp only [impl_BlocksOk.j0, if_true]; exact Ev.now _)
  by_cases c : (l.length : Int) > 60
  · simp only [if_pos c, decide_eq_false (show ¬ (l.length : Int) ≤ 60 by omega), Bool.false_and]; exact no
  · simp only [if_neg c, decide_eq_true (show (l.length : Int) ≤ 60 by omega), Bool.true_and]
    refine Ev.bind (itokensOk_ev l hm) ?_
    cases ht : tksOk l with
    | false => exact no
    | true =>
      simp only [Bool.not_true, Bool.true_and]
      refine Ev.up ?_
      simp only [impl_BlocksOk.j0, Bool.false_eq_true, if_false]
      have main : ∀ (rest pre : List S46) (d : Int), l = pre ++ rest → 0 ≤ d → d ≤ 3 → Ev (fun k => impl_BlocksOk.l0 k l d l (l.length : Int) (pre.length : Int)) (blkGo pre.getLast? d rest) := by
        intro rest
        induction rest with
        | nil =>
          intro pre d e h0 h1
          refine Ev.up ?_
          have e' : pre.length = l.length := by rw [e]; simp
          simp only [impl_BlocksOk.l0, e', end_lt, if_false, blkGo]
          exact Ev.now _
        | cons t r ih =>
          intro pre d e h0 h1
          have hpl : pre.length ≤ 60 := by have := congrArg List.length e; simp at this; omega
          have ih' : ∀ d', 0 ≤ d' → d' ≤ 3 → Ev (fun k => impl_BlocksOk.l0 k l d' l (l.length : Int) ((pre ++ [t]).length : Int)) (blkGo (some t) d' r) := fun d' g0 g1 => by
            have := ih (pre ++ [t]) d' (by simp [e]) g0 g1
            rwa [List.getLast?_concat] at this
          have hlt : (pre.length : Int) < (l.length : Int) := by rw [e, mid_len]; omega
          have hw : wrap64 ((pre.length : Int) + 1) = ((pre ++ [t]).length : Int) := mid_wrap (pre := pre) (rest := r) (x := t) (by rw [← e]; exact hm)
          have hrd : rd_T46 l (pre.length : Int) = t := by rw [e]; simp [rd_T46, List.getD_eq_getElem?_getD]
          have hw1 : wrap64 (d + 1) = d + 1 := wrap_id (by omega) (by omega)
          have hw2 : wrap64 (d - 1) = d - 1 := wrap_id (by omega) (by omega)
          refine Ev.up ?_
          simp only [impl_BlocksOk.l0, if_pos hlt, mid_nn, if_true, hrd, hw, hw1, hw2, blkGo]
          by_cases z : t.f0.toList = nRep
          · simp only [if_pos z]
            have bad : Ev (fun k => impl_BlocksOk.j2 k l d l (l.length : Int) (pre.length : Int) true) false := Ev.up (by simp only [impl_BlocksOk.j2, if_true]; exact Ev.now _)
            have good : Ev (fun k => impl_BlocksOk.j2 k l d l (l.length : Int) (pre.length : Int) false) (decide (d + 1 ≤ 3) && blkGo (some t) (d + 1) r) := by
              refine Ev.up ?_
              simp only [impl_BlocksOk.j2, Bool.false_eq_true, if_false, hw1, hw]
              by_cases q : d + 1 > 3
              · simp only [if_pos q, decide_eq_false (show ¬ d + 1 ≤ 3 by omega), Bool.false_and]; exact Ev.now _
              · simp only [if_neg q, decide_eq_true (show d + 1 ≤ 3 by omega), Bool.true_and]; exact ih' (d + 1) (by omega) (by omega)
            by_cases hp : pre = []
            · subst hp
              simp only [List.length_nil, Int.natCast_zero, if_true, List.getLast?_nil, repOk, Bool.false_and]
              exact bad
            · obtain ⟨g1, g2, g3⟩ := getLast_rd (rest := t :: r) hp hpl
              rw [← e] at g1 g3
              rw [g1]
              have hne : ¬ (pre.length : Int) = 0 := by have := List.length_pos_iff.2 hp; omega
              simp only [if_neg hne, if_pos g2, if_pos g3, repOk]
              by_cases y : (rd_T46 l (wrap64 ((pre.length : Int) - 1))).f0.toList = ([] : List UInt8)
              · simp only [if_pos y, within_eq, Option.bind_some]
                cases inB (rd_T46 l (wrap64 ((pre.length : Int) - 1))).f1 0 9 with
                | true => exact good
                | false => exact bad
              · simp only [if_neg y, Bool.false_and]; exact bad
          · simp only [if_neg z]
            by_cases y : t.f0.toList = nEnd
            · simp only [if_pos y]
              by_cases q : d - 1 < 0
              · simp only [if_pos q, decide_eq_false (show ¬ 0 ≤ d - 1 by omega), Bool.false_and]; exact Ev.now _
              · simp only [if_neg q, decide_eq_true (show 0 ≤ d - 1 by omega), Bool.true_and]; exact ih' (d - 1) (by omega) (by omega)
            · simp only [if_neg y]; exact ih' d h0 h1
      exact main l [] 0 rfl (by omega) (by omega)
/-! Flattening -/
def repN : Nat → List S46 → List S46 → List S46
  | 0, _, o => o
  | n + 1, i, o => repN n i (o ++ i)
def flatGo : Nat → List S46 → List S46 → List S46 × List S46
  | 0, r, o => (o, r)
  | _ + 1, [], o => (o, [])
  | n + 1, t :: r, o => if t.f0.toList = nEnd then (o, t :: r) else if t.f0.toList = nRep then flatGo n (flatGo n r []).2.tail (repN (o.getLastD z46).f1.toNat (flatGo n r []).1 o.dropLast) else flatGo n r (o ++ [t])
theorem repN_len : ∀ (n : Nat) (i o : List S46), (repN n i o).length = o.length + n * i.length
  | 0, i, o => by simp [repN]
  | n + 1, i, o => by rw [repN, repN_len n i (o ++ i), List.length_append, Nat.succ_mul]; omega
theorem rep_ne_end : nRep ≠ nEnd := by decide
theorem flat_rep (l : List S46) (i : List S46) (e : Int) (he : 0 ≤ e) (he2 : e ≤ 60) {R : List S46 × Int} :
    ∀ (n : Nat) (o : List S46), n ≤ 9 → o.length + n * i.length ≤ 1000000 → (Ev (fun k => impl_flat.l0 k l (e + 1) (repN n i o)) R) → Ev (fun k => impl_flat.l1 k l o (n : Int) i e) R := by
  intro n
  induction n with
  | zero =>
    intro o hn hl h
    refine Ev.up ?_
    have hw : wrap64 (e + 1) = e + 1 := wrap_id (by omega) (by omega)
    simp only [impl_flat.l1, hw, if_neg (show ¬ ((0 : Nat) : Int) > 0 by omega)]
    exact h
  | succ n ih =>
    intro o hn hl h
    rw [Nat.succ_mul] at hl
    refine Ev.up ?_
    have hw : wrap64 (((n + 1 : Nat) : Int) - 1) = (n : Int) := by rw [wrap_id (by omega) (by omega)]; omega
    simp only [impl_flat.l1, hw, if_pos (show ((n + 1 : Nat) : Int) > 0 by omega), if_pos (show o.length + i.length < 5864062014805 by omega)]
    exact ih (o ++ i) (by omega) (by rw [List.length_append]; omega) h
theorem flat_clip (l : List S46) : impl_Token.f l = some l := by
  unfold impl_Token.f
  rw [if_pos (by omega), if_pos (Int.le_refl _), Int.toNat_natCast, List.take_length]
def pw (d : Int) : Nat := 9 ^ (3 - d).toNat
theorem pw_step {d : Int} (h0 : 0 ≤ d) (h1 : d + 1 ≤ 3) : pw d = 9 * pw (d + 1) := by
  unfold pw
  rw [show (3 - d).toNat = (3 - (d + 1)).toNat + 1 by omega, Nat.pow_succ, Nat.mul_comm]
theorem pw_pos (d : Int) : 1 ≤ pw d := by unfold pw; exact Nat.pow_pos (by omega)
theorem pw_le {d : Int} (h0 : 0 ≤ d) : pw d ≤ 729 := by
  unfold pw
  calc 9 ^ (3 - d).toNat ≤ 9 ^ 3 := Nat.pow_le_pow_right (by omega) (by omega)
    _ = 729 := by decide
theorem fl1 {R s P P1 q i : Nat} (hd : P = 9 * P1) (hq : q ≤ 9) (hi : i ≤ (R - (s + 1)) * P1) : q * i ≤ (R - (s + 1)) * P := by
  calc q * i ≤ 9 * ((R - (s + 1)) * P1) := Nat.mul_le_mul hq hi
    _ = (R - (s + 1)) * P := by rw [hd, Nat.mul_left_comm]
theorem fl2 {o R s P m : Nat} (h : o + 1 + (R + 1) * P ≤ 100000) (hm : m ≤ (R - (s + 1)) * P) (hs : s + 1 ≤ R) : o + m + s * P ≤ 100000 := by
  have h1 : (R - (s + 1)) * P + s * P ≤ (R + 1) * P := by rw [← Nat.add_mul]; exact Nat.mul_le_mul_right _ (by omega)
  generalize (R - (s + 1)) * P = a at *
  generalize (R + 1) * P = b at *
  generalize s * P = c at *
  omega
theorem fl3 {L o R s P m z : Nat} (h : L ≤ o + m + (s - z) * P) (hm : m ≤ (R - (s + 1)) * P) (hs : s + 1 ≤ R) (hz : z ≤ s) : L ≤ o + 1 + (R + 1 - z) * P := by
  have h1 : (R - (s + 1)) * P + (s - z) * P ≤ (R + 1 - z) * P := by rw [← Nat.add_mul]; exact Nat.mul_le_mul_right _ (by omega)
  generalize (R - (s + 1)) * P = a at *
  generalize (R + 1 - z) * P = b at *
  generalize (s - z) * P = c at *
  omega
theorem fl4 {L o R P z : Nat} (h : L ≤ o + 1 + (R - z) * P) (hp : 1 ≤ P) (hz : z ≤ R) : L ≤ o + (R + 1 - z) * P := by
  have h1 : P + (R - z) * P ≤ (R + 1 - z) * P := by
    rw [show R + 1 - z = (R - z) + 1 by omega, Nat.succ_mul]; omega
  generalize (R - z) * P = a at *
  generalize (R + 1 - z) * P = b at *
  omega
theorem fl5 {o R P : Nat} (h : o + (R + 1) * P ≤ 100000) (hp : 1 ≤ P) : o + 1 + R * P ≤ 100000 := by
  rw [Nat.succ_mul] at h
  generalize R * P = a at *
  omega
theorem fl6 {o R P P1 : Nat} (hd : P = 9 * P1) (h : o + 1 + (R + 1) * P ≤ 100000) : R * P1 ≤ 100000 := by
  have h1 : R * P1 ≤ (R + 1) * P := by rw [hd]; exact Nat.mul_le_mul (by omega) (by omega)
  generalize R * P1 = a at *
  generalize (R + 1) * P = b at *
  omega
theorem flat_ev (l : List S46) (hl : l.length ≤ 60) : ∀ (n : Nat) (pre rest o : List S46) (p : Option S46) (d : Int), l = pre ++ rest → rest.length < n → 0 ≤ d → d ≤ 3 → blkGo p d rest = true →
    (∀ t r, rest = t :: r → t.f0.toList = nRep → ∃ o' q, o = o' ++ [q] ∧ p = some q) → o.length + rest.length * pw d ≤ 100000 →
    Ev (fun k => impl_flat.l0 k l (pre.length : Int) o) ((flatGo n rest o).1, ((l.length - (flatGo n rest o).2.length : Nat) : Int)) ∧ (flatGo n rest o).2.length ≤ rest.length ∧ (∃ mid, rest = mid ++ (flatGo n rest o).2) ∧
    (flatGo n rest o).1.length ≤ o.length + (rest.length - (flatGo n rest o).2.length) * pw d ∧ (∀ t r, (flatGo n rest o).2 = t :: r → t.f0.toList = nEnd) ∧ ∃ p', blkGo p' d (flatGo n rest o).2 = true := by
  intro n
  induction n with
  | zero => intro pre rest o p d e hn; omega
  | succ n ih =>
    intro pre rest o p d e hn h0 h1 hb hlink hlen
    have hll := congrArg List.length e
    rw [List.length_append] at hll
    match rest, hb, hlink, hlen, hn, e, hll with
    | [], hb, hlink, hlen, hn, e, hll =>
      have hlt : ¬ (pre.length : Int) < (l.length : Int) := by simp at hll; omega
      refine ⟨?_, by simp [flatGo], ⟨[], by simp [flatGo]⟩, by simp [flatGo], by simp [flatGo], p, by simpa [flatGo] using hb⟩
      refine Ev.up ?_
      simp only [impl_flat.l0, if_neg hlt]
      refine Ev.up ?_
      simp only [impl_flat.j1, Bool.false_eq_true, if_false, flat_clip, Option.bind_some, flatGo]
      refine Ev.val ?_
      simp at hll
      simp [hll]
    | t :: r, hb, hlink, hlen, hn, e, hll =>
      rw [List.length_cons] at hll hn hlen
      have hlt : (pre.length : Int) < (l.length : Int) := by omega
      have hrd : rd_T46 l (pre.length : Int) = t := by rw [e]; simp [rd_T46, List.getD_eq_getElem?_getD]
      have hpe : ((pre ++ [t]).length : Int) = (pre.length : Int) + 1 := by simp
      have hw : wrap64 ((pre.length : Int) + 1) = ((pre ++ [t]).length : Int) := by rw [hpe, wrap_id (by omega) (by omega)]
      have hp1 := pw_pos d
      by_cases z : t.f0.toList = nEnd
      · have eg : flatGo (n + 1) (t :: r) o = (o, t :: r) := by simp only [flatGo, if_pos z]
        rw [eg]
        refine ⟨?_, Nat.le_refl _, ⟨[], rfl⟩, by simp, fun t' r' he => by injection he with h3 _; rw [← h3]; exact z, p, hb⟩
        refine Ev.up ?_
        have hne : (t.f0.toList != nEnd) = false := by simp [z]
        simp only [impl_flat.l0, if_pos hlt, mid_nn, if_true, hrd, hne]
        refine Ev.up ?_
        simp only [impl_flat.j1, Bool.false_eq_true, if_false, flat_clip, Option.bind_some]
        refine Ev.val ?_
        rw [List.length_cons, hll, Nat.add_sub_cancel]
      · have hne : (t.f0.toList != nEnd) = true := by simp [z]
        by_cases y : t.f0.toList = nRep
        · obtain ⟨o', q, rfl, rfl⟩ := hlink t r rfl y
          simp only [blkGo, if_pos y, Bool.and_eq_true, decide_eq_true_eq] at hb
          obtain ⟨hq, hd, hb⟩ := hb
          have hq9 : 0 ≤ q.f1 ∧ q.f1 ≤ 9 := by
            simp only [repOk] at hq
            split at hq
            · exact inB_iff.1 hq
            · cases hq
          rw [List.length_append, List.length_singleton] at hlen
          have hpw := pw_step h0 hd
          obtain ⟨i1, i2, ⟨mid, i3⟩, i4, i5, p', i6⟩ := ih (pre ++ [t]) r [] (some t) (d + 1) (by simp [e]) (by omega) (by omega) hd hb (fun t2 r2 e2 z2 => by
            rw [e2] at hb
            simp only [blkGo, if_pos z2, Bool.and_eq_true] at hb
            have h3 := hb.1
            simp only [repOk, y] at h3
            simp at h3) (by rw [List.length_nil, Nat.zero_add]; exact fl6 hpw hlen)
          have eg : flatGo (n + 1) (t :: r) (o' ++ [q]) = flatGo n (flatGo n r []).2.tail (repN q.f1.toNat (flatGo n r []).1 o') := by
            simp only [flatGo, if_neg z, if_pos y, List.dropLast_concat, List.getLastD_concat]
          rw [eg]
          generalize flatGo n r [] = Z at i1 i2 i3 i4 i5 i6 ⊢
          obtain ⟨inner, rem⟩ := Z
          simp only at i1 i2 i3 i4 i5 i6 ⊢
          match rem, i1, i2, i3, i4, i5, i6 with
          | [], i1, i2, i3, i4, i5, i6 => simp [blkGo] at i6; omega
          | t' :: r', i1, i2, i3, i4, i5, i6 =>
            have hend := i5 t' r' rfl
            have hnr : ¬ t'.f0.toList = nRep := by rw [hend]; exact fun h => rep_ne_end h.symm
            simp only [blkGo, if_neg hnr, if_pos hend, Bool.and_eq_true] at i6
            have i7 : blkGo (some t') d r' = true := by have := i6.2; rwa [show d + 1 - 1 = d by omega] at this
            rw [List.length_cons] at i2 i4
            have hq10 : q.f1.toNat ≤ 9 := by omega
            have hin : inner.length ≤ (r.length - (r'.length + 1)) * pw (d + 1) := by simpa using i4
            have hin9 : q.f1.toNat * inner.length ≤ (r.length - (r'.length + 1)) * pw d := fl1 hpw hq10 hin
            have hrp : (repN q.f1.toNat inner o').length + r'.length * pw d ≤ 100000 := by rw [repN_len]; exact fl2 hlen hin9 i2
            have hl' : l = (pre ++ t :: mid ++ [t']) ++ r' := by rw [e, i3]; simp
            obtain ⟨j1, j2, ⟨mid2, j3⟩, j4, j5, p2, j6⟩ := ih (pre ++ t :: mid ++ [t']) r' (repN q.f1.toNat inner o') (some t') d hl' (by omega) h0 h1 i7 (fun t2 r2 e2 z2 => by
              rw [e2] at i7
              simp only [blkGo, if_pos z2, Bool.and_eq_true] at i7
              have h3 := i7.1
              simp only [repOk, hend] at h3
              simp at h3) hrp
            simp only [List.tail_cons]
            have hmid : (mid.length : Int) + (r'.length + 1) = r.length := by have := congrArg List.length i3; simp at this; omega
            refine ⟨?_, by rw [List.length_cons]; omega, ⟨t :: mid ++ t' :: mid2, ?_⟩, ?_, j5, p2, j6⟩
            · refine Ev.up ?_
              simp only [impl_flat.l0, if_pos hlt, mid_nn, if_true, hrd, hne]
              refine Ev.up ?_
              have ho : wrap64 (((o' ++ [q]).length : Int) - 1) = (o'.length : Int) := by
                have h7 : ((o' ++ [q]).length : Int) - 1 = (o'.length : Int) := by simp
                rw [h7]; exact wrap_id (by omega) (by omega)
              have hrq : rd_T46 (o' ++ [q]) (o'.length : Int) = q := by simp [rd_T46, List.getD_eq_getElem?_getD]
              have hT : (o' ++ [q]).take o'.length = o' := by simp
              simp only [impl_flat.j1, if_true, if_pos hlt, mid_nn, hrd, if_pos y, ho, hrq, Int.toNat_natCast, hT, hw, if_pos (show (o'.length : Int) < ((o' ++ [q]).length : Int) by rw [List.length_append, List.length_singleton]; omega), if_pos (show (o'.length : Int) ≤ ((o' ++ [q]).length : Int) by rw [List.length_append, List.length_singleton]; omega)]
              have i1' : Ev (fun k => impl_flat.f k l ((pre ++ [t]).length : Int)) (inner, ((l.length - (r'.length + 1) : Nat) : Int)) := Ev.up (by simp only [impl_flat.f]; exact i1)
              refine Ev.bind i1' ?_
              have hee : ((l.length - (r'.length + 1) : Nat) : Int) + 1 = ((pre ++ t :: mid ++ [t']).length : Int) := by simp; omega
              have hqn : (q.f1.toNat : Int) = q.f1 := by omega
              have hR := flat_rep l inner ((l.length - (r'.length + 1) : Nat) : Int) (by omega) (by omega) q.f1.toNat o' hq10 (by rw [repN_len] at hrp; exact Nat.le_trans (Nat.le_trans (Nat.le_add_right _ _) hrp) (by decide)) (by rw [hee]; exact j1)
              rw [hqn] at hR
              exact hR
            · generalize (flatGo n r' (repN q.f1.toNat inner o')).2 = X at j3 ⊢
              rw [i3, j3]; simp
            · rw [repN_len] at j4
              rw [List.length_append, List.length_singleton, List.length_cons]
              exact fl3 j4 hin9 i2 j2
        · have eg : flatGo (n + 1) (t :: r) o = flatGo n r (o ++ [t]) := by simp only [flatGo, if_neg z, if_neg y]
          rw [eg]
          simp only [blkGo, if_neg y, if_neg z] at hb
          obtain ⟨i1, i2, ⟨mid, i3⟩, i4, i5, i6⟩ := ih (pre ++ [t]) r (o ++ [t]) (some t) d (by simp [e]) (by omega) h0 h1 hb (fun _ _ _ _ => ⟨o, t, rfl, rfl⟩) (by rw [List.length_append, List.length_singleton]; exact fl5 hlen hp1)
          refine ⟨?_, by rw [List.length_cons]; omega, ⟨t :: mid, by rw [List.cons_append, ← i3]⟩, ?_, i5, i6⟩
          · refine Ev.up ?_
            simp only [impl_flat.l0, if_pos hlt, mid_nn, if_true, hrd, hne]
            refine Ev.up ?_
            simp only [impl_flat.j1, if_true, if_pos hlt, mid_nn, hrd, if_neg y, hw, if_pos (show o.length < 5864062014805 from Nat.lt_of_le_of_lt (Nat.le_trans (Nat.le_add_right _ _) hlen) (by decide))]
            exact i1
          · rw [List.length_append, List.length_singleton] at i4
            rw [List.length_cons]
            exact fl4 i4 hp1 i2
def flatV (l : List S46) : List S46 := (flatGo (l.length + 1) l []).1
def flattenV (l : List S46) : List S46 × Bool := if blkOk l = true then (if ((flatV l).length : Int) > 200 then ([], false) else (flatV l, true)) else ([], false)
theorem iFlatten_ev (l : List S46) (hm : l.length ≤ maxLen) : Ev (fun k => impl_FlattenBlocks.f k l) (flattenV l) := by
  simp only [impl_FlattenBlocks.f]
  unfold flattenV
  refine Ev.bind (iBlocksOk_ev l hm) ?_
  cases hb : blkOk l with
  | false => simp only [Bool.false_eq_true, if_false]; exact Ev.now _
  | true =>
    simp only [if_true]
    unfold blkOk at hb
    simp only [Bool.and_eq_true, decide_eq_true_eq] at hb
    obtain ⟨i1, _⟩ := flat_ev l (by omega) (l.length + 1) [] l [] none 0 rfl (by omega) (by omega) (by omega) hb.2.2 (fun t r e z => by
      have h3 := hb.2.2
      rw [e] at h3
      simp only [blkGo, if_pos z, repOk, Bool.false_and] at h3
      cases h3) (by
        have h4 : l.length * pw 0 ≤ 60 * 729 := Nat.mul_le_mul (by omega) (pw_le (by omega))
        simp only [List.length_nil]; omega)
    have i1' : Ev (fun k => impl_flat.f k l 0) (flatV l, ((l.length - (flatGo (l.length + 1) l []).2.length : Nat) : Int)) := Ev.up (by simp only [impl_flat.f]; exact i1)
    refine Ev.bind i1' ?_
    exact Ev.ite (fun z => by rw [if_pos z]; exact Ev.now _) (fun z => by rw [if_neg z]; exact Ev.now _)
theorem flattenV_len (l : List S46) : ((flattenV l).1.length : Int) ≤ 200 := by
  unfold flattenV
  split
  · split
    · simp
    · simp only; omega
  · simp
end Go.Proofs.Ytpickbenfkcpmaa.Pure
namespace Go.Proofs.Ytpickbenfkcpmaa.Pure
open Go.RowKit Go.Proofs.Ytpickbenfkcpmaa.QFnRuns7 Go.Proofs.YtpickbenfkcpmaaW.PrintWords Go.Proofs.YtpickbenfkcpmaaW.PrintLast Go.Proofs.Ytpickbenfkcpmaa.Plain

/-! What executing a token does, as a function over values -/
structure Pg where
  g : S33
  sv : List S33
  ob : List S82
abbrev PgT := List Int × Int × Int × Int × Int × (List S90) × Int × Int × Int × Int × Int × (List S33) × (List S82)
abbrev PgB := List Int × Int × Int × Int × Int × (List S90) × Int × Int × Int × Int × Int × (List S33) × (List S82) × Bool
abbrev tup (p : Pg) : PgT := (p.g.f0, p.g.f1.f0, p.g.f1.f1, p.g.f1.f2, p.g.f1.f3, p.g.f2, p.g.f3, p.g.f4.f0, p.g.f4.f1, p.g.f4.f2, p.g.f4.f3, p.sv, p.ob)
def tupB (z : Pg × Bool) : PgB := (z.1.g.f0, z.1.g.f1.f0, z.1.g.f1.f1, z.1.g.f1.f2, z.1.g.f1.f3, z.1.g.f2, z.1.g.f3, z.1.g.f4.f0, z.1.g.f4.f1, z.1.g.f4.f2, z.1.g.f4.f3, z.1.sv, z.1.ob, z.2)
def okP (p : Pg) : Bool := pgOk p.g.f0 p.g.f1.f0 p.g.f1.f1 p.g.f1.f2 p.g.f1.f3 p.g.f2 p.g.f3 p.g.f4.f0 p.g.f4.f1 p.g.f4.f2 p.g.f4.f3 p.sv p.ob
def pgN (n : Nat) (p : Pg) : Prop := p.g.f0.length ≤ n ∧ p.g.f2.length ≤ n ∧ p.sv.length ≤ n ∧ (∀ x ∈ p.sv, x.f0.length ≤ n ∧ x.f2.length ≤ n) ∧ p.ob.length ≤ n ∧ ∀ x ∈ p.ob, x.f0.length ≤ n
def takeN (l : List Int) (n : Int) : List Int × List Int × Bool := if stkOk l = true ∧ inB n 0 (l.length : Int) = true then (l.take ((l.length : Int) - n).toNat, l.drop ((l.length : Int) - n).toNat, true) else (l, [], false)
def pushN (l : List Int) (n : Int) : List Int × Bool := if stkOk l = true ∧ stkOk (l ++ [n]) = true then (l ++ [n], true) else (l, false)
def isOp (a : ByteArray) : Bool := if a.toList = ([97, 100, 100] : List UInt8) then true else if a.toList = ([115, 117, 98] : List UInt8) then true else if a.toList = ([109, 117, 108] : List UInt8) then true else if a.toList = ([110, 101, 103] : List UInt8) then true else if a.toList = ([100, 117, 112] : List UInt8) then true else if a.toList = ([112, 111, 112] : List UInt8) then true else if a.toList = ([101, 120, 99, 104] : List UInt8) then true else false
def stkCnt (a : ByteArray) : Int := if a.toList = ([110, 101, 103] : List UInt8) then 1 else if a.toList = ([100, 117, 112] : List UInt8) then 1 else if a.toList = ([112, 111, 112] : List UInt8) then 1 else 2
def stkRes (a : ByteArray) (r x : List Int) : List Int :=
  if a.toList = ([97, 100, 100] : List UInt8) then r ++ [wrap64 ((rd x 0) + (rd x 1))] else if a.toList = ([115, 117, 98] : List UInt8) then r ++ [wrap64 ((rd x 0) - (rd x 1))] else if a.toList = ([109, 117, 108] : List UInt8) then r ++ [wrap64 ((rd x 0) * (rd x 1))]
  else if a.toList = ([101, 120, 99, 104] : List UInt8) then r ++ [rd x 1, rd x 0] else if a.toList = ([110, 101, 103] : List UInt8) then r ++ [wrap64 (-(rd x 0))] else if a.toList = ([100, 117, 112] : List UInt8) then r ++ [rd x 0, rd x 0] else r
def stackOpV (l : List Int) (a : ByteArray) : List Int × Bool := if (takeN l (stkCnt a)).2.2 = true ∧ isOp a = true ∧ stkOk (stkRes a (takeN l (stkCnt a)).1 (takeN l (stkCnt a)).2.1) = true then (stkRes a (takeN l (stkCnt a)).1 (takeN l (stkCnt a)).2.1, true) else (l, false)
def takenV (a : ByteArray) : Int × Bool :=
  if a.toList = ([110, 101, 119] : List UInt8) then (0, true) else if a.toList = ([102, 105, 108, 108] : List UInt8) then (0, true) else if a.toList = ([99, 108, 105, 112] : List UInt8) then (0, true) else if a.toList = ([115, 97, 118, 101] : List UInt8) then (0, true) else if a.toList = ([114, 101, 115, 116, 111, 114, 101] : List UInt8) then (0, true)
  else if a.toList = ([103, 114, 97, 121] : List UInt8) then (1, true) else if a.toList = ([116, 117, 114, 110] : List UInt8) then (1, true) else if a.toList = ([115, 99, 97, 108, 101] : List UInt8) then (1, true)
  else if a.toList = ([109, 111, 118, 101, 116, 111] : List UInt8) then (2, true) else if a.toList = ([108, 105, 110, 101, 116, 111] : List UInt8) then (2, true) else if a.toList = ([115, 104, 105, 102, 116] : List UInt8) then (2, true) else if a.toList = ([114, 101, 99, 116] : List UInt8) then (4, true) else (0, false)
def qrt : Nat → Int → Int → Int × Int
  | 0, x, y => (x, y)
  | n + 1, x, y => qrt n (wrap64 (-y)) x
def movedV (t : S28) (x y : Int) : Int × Int := (wrap64 ((qrt t.f0.toNat (wrap64 (x * t.f1)) (wrap64 (y * t.f1))).1 + t.f2), wrap64 ((qrt t.f0.toNat (wrap64 (x * t.f1)) (wrap64 (y * t.f1))).2 + t.f3))
def tnOk (t : S28) : Bool := turnOk t.f0 t.f1 t.f2 t.f3
def joinT (a b : S28) : S28 := ⟨Int.tmod (wrap64 (a.f0 + b.f0)) 4, wrap64 (a.f1 * b.f1), (movedV b a.f2 a.f3).1, (movedV b a.f2 a.f3).2⟩
def joinV (a b : S28) : S28 × Bool := if tnOk a = true ∧ tnOk b = true ∧ tnOk (joinT a b) = true then (joinT a b, true) else (⟨0, 0, 0, 0⟩, false)
def mvP (t : S28) (x y : Int) : S90 := ⟨(movedV t x y).1, (movedV t x y).2⟩
def box4 (b : BoxT) : S31 := ⟨b.1, b.2.1, b.2.2.1, b.2.2.2⟩
def otherT (a : ByteArray) (x : List Int) : S28 := if a.toList = ([115, 104, 105, 102, 116] : List UInt8) then ⟨0, 1, rd x 0, rd x 1⟩ else if a.toList = ([116, 117, 114, 110] : List UInt8) then ⟨rd x 0, 1, 0, 0⟩ else if a.toList = ([115, 99, 97, 108, 101] : List UInt8) then ⟨0, rd x 0, 0, 0⟩ else ⟨0, 1, 0, 0⟩
def rectP (t : S28) (x : List Int) : List S90 := [mvP t (rd x 0) (rd x 1), mvP t (wrap64 (rd x 0 + rd x 2)) (rd x 1), mvP t (wrap64 (rd x 0 + rd x 2)) (wrap64 (rd x 1 + rd x 3)), mvP t (rd x 0) (wrap64 (rd x 1 + rd x 3))]
def paint (p : Pg) (a : ByteArray) (x : List Int) : Option Pg :=
  if a.toList = ([110, 101, 119] : List UInt8) then some { p with g := { p.g with f2 := [] } }
  else if a.toList = ([109, 111, 118, 101, 116, 111] : List UInt8) then some { p with g := { p.g with f2 := [mvP p.g.f1 (rd x 0) (rd x 1)] } }
  else if a.toList = ([108, 105, 110, 101, 116, 111] : List UInt8) then (if (p.g.f2.length : Int) = 0 then none else some { p with g := { p.g with f2 := p.g.f2 ++ [mvP p.g.f1 (rd x 0) (rd x 1)] } })
  else if a.toList = ([114, 101, 99, 116] : List UInt8) then (if inB (rd x 2) 0 200 = true ∧ inB (rd x 3) 0 200 = true then some { p with g := { p.g with f2 := rectP p.g.f1 x } } else none)
  else if a.toList = ([102, 105, 108, 108] : List UInt8) then (if (p.g.f2.length : Int) < 3 then none else some { p with g := { p.g with f2 := [] }, ob := p.ob ++ [⟨p.g.f2, p.g.f3, p.g.f4⟩] })
  else if a.toList = ([103, 114, 97, 121] : List UInt8) then some { p with g := { p.g with f3 := rd x 0 } }
  else if a.toList = ([99, 108, 105, 112] : List UInt8) then (if (p.g.f2.length : Int) = 0 then none else some { p with g := { p.g with f2 := [], f4 := box4 (meet (p.g.f4.f0, p.g.f4.f1, p.g.f4.f2, p.g.f4.f3) (boxOf p.g.f2)) } })
  else if a.toList = ([115, 97, 118, 101] : List UInt8) then some { p with sv := p.sv ++ [p.g] }
  else if a.toList = ([114, 101, 115, 116, 111, 114, 101] : List UInt8) then (if (p.sv.length : Int) = 0 then none else some { p with g := { rd_T33 p.sv ((p.sv.length : Int) - 1) with f0 := p.g.f0 }, sv := p.sv.take ((p.sv.length : Int) - 1).toNat })
  else if (joinV (otherT a x) p.g.f1).2 = true then some { p with g := { p.g with f1 := (joinV (otherT a x) p.g.f1).1 } } else none
abbrev setSt (p : Pg) (l : List Int) : Pg := { p with g := { p.g with f0 := l } }
def stepV (p : Pg) (a : ByteArray) (n : Int) : Option Pg :=
  if a.toList = ([] : List UInt8) then (if (pushN p.g.f0 n).2 = true then some (setSt p (pushN p.g.f0 n).1) else none)
  else if isOp a = true then (if (stackOpV p.g.f0 a).2 = true then some (setSt p (stackOpV p.g.f0 a).1) else none)
  else if (takenV a).2 = true then (if (takeN p.g.f0 (takenV a).1).2.2 = true then paint (setSt p (takeN p.g.f0 (takenV a).1).1) a (takeN p.g.f0 (takenV a).1).2.1 else none) else none
def finV (p : Pg) (s : Option Pg) : Pg × Bool := match s with
  | some q => if okP q = true then (q, true) else (p, false)
  | none => (p, false)
def exec (p : Pg) (a : ByteArray) (n : Int) : Pg × Bool := if okP p = true ∧ tokOk a n = true then finV p (stepV p a n) else (p, false)
theorem okP_fin {p : Pg} {s : Option Pg} (h : (finV p s).2 = true) : okP (finV p s).1 = true := by
  unfold finV at h ⊢
  split
  · split
    · assumption
    · rename_i q hq; simp [hq] at h
  · simp at h
theorem exec_ok {p : Pg} {a : ByteArray} {n : Int} (h : (exec p a n).2 = true) : okP (exec p a n).1 = true := by
  unfold exec at h ⊢
  split
  · rename_i c; rw [if_pos c] at h; exact okP_fin h
  · rename_i c; rw [if_neg c] at h; simp at h
theorem stk_len {l : List Int} (h : stkOk l = true) : (l.length : Int) ≤ 12 := by
  unfold stkOk at h
  simp only [Bool.and_eq_true, decide_eq_true_eq] at h
  exact h.2
theorem okP_small {p : Pg} (h : okP p = true) : pgN 12 p ∧ tnOk p.g.f1 = true := by
  unfold okP pgOk grOk at h
  simp only [Bool.and_eq_true, decide_eq_true_eq, List.all_eq_true] at h
  obtain ⟨⟨h1, h2, h3, ⟨h4, h5⟩, h6⟩, h7, h8, h9, h10⟩ := h
  refine ⟨⟨by have := stk_len h1; omega, by omega, by omega, fun x hx => ?_, by omega, fun x hx => ?_⟩, h2⟩
  · have h11 := h9 x hx
    unfold grO grOk at h11
    simp only [Bool.and_eq_true, decide_eq_true_eq] at h11
    have := stk_len h11.1
    have := h11.2.2.2.1.2
    exact ⟨by omega, by omega⟩
  · unfold objsOk at h10
    have h11 := List.all_eq_true.1 h10 x hx
    unfold objOk at h11
    simp only [Bool.and_eq_true, decide_eq_true_eq] at h11
    omega
theorem pgN_mono {m n : Nat} {p : Pg} (h : pgN m p) (hmn : m ≤ n) : pgN n p := ⟨by have := h.1; omega, by have := h.2.1; omega, by have := h.2.2.1; omega, fun x hx => ⟨by have := (h.2.2.2.1 x hx).1; omega, by have := (h.2.2.2.1 x hx).2; omega⟩, by have := h.2.2.2.2.1; omega, fun x hx => by have := h.2.2.2.2.2 x hx; omega⟩
/-! the program's functions -/
theorem iClone_eq (l : List Int) (h : l.length ≤ 2000000) : slices_Clone_int_int.f l = some l := by
  have c : l.length < 17592186044416 := by omega
  simp [slices_Clone_int_int.f, c]
theorem iCloneP_eq (l : List S90) (h : l.length ≤ 2000000) : impl_Point.f l = some l := by
  have c : l.length < 8796093022208 := by omega
  simp [impl_Point.f, c]
theorem icopyG_eq (st : List Int) (p q r s : Int) (l : List S90) (g t u v x : Int) (hs : st.length ≤ 2000000) (hl : l.length ≤ 2000000) : impl_copyGraphics.f st p q r s l g t u v x = some (st, p, q, r, s, l, g, t, u, v, x) := by
  simp only [impl_copyGraphics.f, iClone_eq st hs, iCloneP_eq l hl, Option.bind_some]
theorem icopyOs_ev (O : List S82) (hO : O.length ≤ 2000000) (hx : ∀ x ∈ O, x.f0.length ≤ 2000000) : Ev (fun k => impl_copyObjects.f k O) O := by
  simp only [impl_copyObjects.f]
  refine ev_loop O (F := fun k s i => impl_copyObjects.l0 k s O O.length i) (fun pre _ s => s = pre) (fun _ _ _ => O) ?_ ?_ [] rfl
  · rintro s rfl
    simp only [impl_copyObjects.l0, end_lt, if_false]; exact Ev.now _
  · rintro pre x rest s e rfl h
    have hxx := hx x (by rw [e]; simp)
    have hpl : s.length ≤ 2000000 := by have := congrArg List.length e; simp at this; omega
    have hlt : (s.length : Int) < (O.length : Int) := by rw [e, mid_len]; omega
    have hw : wrap64 ((s.length : Int) + 1) = ((s ++ [x]).length : Int) := mid_wrap (pre := s) (rest := rest) (x := x) (by rw [← e, maxLen_eq]; omega)
    have hrd : rd_T82 O (s.length : Int) = x := by rw [e]; simp [rd_T82, List.getD_eq_getElem?_getD]
    simp only [impl_copyObjects.l0, if_pos hlt, mid_nn, if_true, hrd, hw, impl_copyObject.f, iCloneP_eq x.f0 hxx, Option.bind_some, if_pos (show s.length < 2199023255552 by omega)]
    exact h (s ++ [x]) rfl
theorem icopyPage_ev (p : Pg) (h : pgN 2000000 p) : Ev (fun k => impl_copyPage.f k p.g.f0 p.g.f1.f0 p.g.f1.f1 p.g.f1.f2 p.g.f1.f3 p.g.f2 p.g.f3 p.g.f4.f0 p.g.f4.f1 p.g.f4.f2 p.g.f4.f3 p.sv p.ob) (tup p) := by
  obtain ⟨h1, h2, h3, h4, h5, h6⟩ := h
  simp only [impl_copyPage.f, icopyG_eq _ _ _ _ _ _ _ _ _ _ _ h1 h2, Option.bind_some]
  refine Ev.bind (icopyOs_ev p.ob h5 h6) ?_
  refine ev_loop p.sv (F := fun k s i => impl_copyPage.l0 k p.sv p.sv.length i p.g.f0 p.g.f1.f0 p.g.f1.f1 p.g.f1.f2 p.g.f1.f3 p.g.f2 p.g.f3 p.g.f4.f0 p.g.f4.f1 p.g.f4.f2 p.g.f4.f3 s p.ob) (fun pre _ s => s = pre) (fun _ _ _ => tup p) ?_ ?_ [] rfl
  · rintro s rfl
    simp only [impl_copyPage.l0, end_lt, if_false]; exact Ev.now _
  · rintro pre x rest s e rfl ih
    have hxx := h4 x (by rw [e]; simp)
    have hpl : s.length ≤ 2000000 := by have := congrArg List.length e; simp at this; omega
    have hlt : (s.length : Int) < (p.sv.length : Int) := by rw [e, mid_len]; omega
    have hw : wrap64 ((s.length : Int) + 1) = ((s ++ [x]).length : Int) := mid_wrap (pre := s) (rest := rest) (x := x) (by rw [← e, maxLen_eq]; omega)
    have hrd : rd_T33 p.sv (s.length : Int) = x := by rw [e]; simp [rd_T33, List.getD_eq_getElem?_getD]
    simp only [impl_copyPage.l0, if_pos hlt, mid_nn, if_true, hrd, hw, icopyG_eq _ _ _ _ _ _ _ _ _ _ _ hxx.1 hxx.2, Option.bind_some, if_pos (show s.length < 1172812402961 by omega)]
    exact ih (s ++ [x]) rfl
theorem iIsStackOp_eq (a : ByteArray) : impl_IsStackOp.f a = some (isOp a) := by
  unfold impl_IsStackOp.f isOp
  repeat' split
  all_goals rfl
theorem iTaken_ev (a : ByteArray) : Ev (fun k => impl_taken.f k a) (takenV a) := by
  have j2 : ∀ b : Bool, (b = true → takenV a = (2, true)) → (b = false → takenV a = if a.toList = ([114, 101, 99, 116] : List UInt8) then (4, true) else (0, false)) → Ev (fun k => impl_taken.j2 k a b) (takenV a) := fun b h1 h2 => by
    refine Ev.up ?_
    simp only [impl_taken.j2]
    cases b with
    | true => simp only [if_true, h1]; exact Ev.now _
    | false => simp only [Bool.false_eq_true, if_false, h2]; exact Ev.ite (fun z => by rw [if_pos z]; exact Ev.now _) (fun z => by rw [if_neg z]; exact Ev.now _)
  simp only [impl_taken.f]
  by_cases n1 : a.toList = ([110, 101, 119] : List UInt8)
  · simp only [if_pos n1, beq_iff_eq.2 n1, takenV]; exact Ev.up (by simp only [impl_taken.j0, if_true]; exact Ev.now _)
  by_cases n2 : a.toList = ([102, 105, 108, 108] : List UInt8)
  · simp only [if_neg n1, if_pos n2, beq_iff_eq.2 n2, takenV]; exact Ev.up (by simp only [impl_taken.j0, if_true]; exact Ev.now _)
  by_cases n3 : a.toList = ([99, 108, 105, 112] : List UInt8)
  · simp only [if_neg n1, if_neg n2, if_pos n3, beq_iff_eq.2 n3, takenV]; exact Ev.up (by simp only [impl_taken.j0, if_true]; exact Ev.now _)
  by_cases n4 : a.toList = ([115, 97, 118, 101] : List UInt8)
  · simp only [if_neg n1, if_neg n2, if_neg n3, if_pos n4, beq_iff_eq.2 n4, takenV]; exact Ev.up (by simp only [impl_taken.j0, if_true]; exact Ev.now _)
  by_cases n5 : a.toList = ([114, 101, 115, 116, 111, 114, 101] : List UInt8)
  · simp only [if_neg n1, if_neg n2, if_neg n3, if_neg n4, if_pos n5, beq_iff_eq.2 n5, takenV]; exact Ev.up (by simp only [impl_taken.j0, if_true]; exact Ev.now _)
  simp only [if_neg n1, if_neg n2, if_neg n3, if_neg n4, beq_eq_false_iff_ne.2 n5]
  refine Ev.up ?_
  simp only [impl_taken.j0, Bool.false_eq_true, if_false]
  by_cases m1 : a.toList = ([103, 114, 97, 121] : List UInt8)
  · simp only [if_pos m1, beq_iff_eq.2 m1, takenV, if_neg n1, if_neg n2, if_neg n3, if_neg n4, if_neg n5]; exact Ev.up (by simp only [impl_taken.j1, if_true]; exact Ev.now _)
  by_cases m2 : a.toList = ([116, 117, 114, 110] : List UInt8)
  · simp only [if_neg m1, if_pos m2, beq_iff_eq.2 m2, takenV, if_neg n1, if_neg n2, if_neg n3, if_neg n4, if_neg n5]; exact Ev.up (by simp only [impl_taken.j1, if_true]; exact Ev.now _)
  by_cases m3 : a.toList = ([115, 99, 97, 108, 101] : List UInt8)
  · simp only [if_neg m1, if_neg m2, if_pos m3, beq_iff_eq.2 m3, takenV, if_neg n1, if_neg n2, if_neg n3, if_neg n4, if_neg n5]; exact Ev.up (by simp only [impl_taken.j1, if_true]; exact Ev.now _)
  simp only [if_neg m1, if_neg m2, beq_eq_false_iff_ne.2 m3]
  refine Ev.up ?_
  simp only [impl_taken.j1, Bool.false_eq_true, if_false]
  have base : takenV a = if a.toList = ([109, 111, 118, 101, 116, 111] : List UInt8) then (2, true) else if a.toList = ([108, 105, 110, 101, 116, 111] : List UInt8) then (2, true) else if a.toList = ([115, 104, 105, 102, 116] : List UInt8) then (2, true) else if a.toList = ([114, 101, 99, 116] : List UInt8) then (4, true) else (0, false) := by
    unfold takenV
    simp only [if_neg n1, if_neg n2, if_neg n3, if_neg n4, if_neg n5, if_neg m1, if_neg m2, if_neg m3]
  by_cases q1 : a.toList = ([109, 111, 118, 101, 116, 111] : List UInt8)
  · simp only [if_pos q1]; exact j2 _ (fun _ => by rw [base, if_pos q1]) (fun h => absurd q1 (beq_eq_false_iff_ne.1 h))
  by_cases q2 : a.toList = ([108, 105, 110, 101, 116, 111] : List UInt8)
  · simp only [if_neg q1, if_pos q2]; exact j2 _ (fun _ => by rw [base, if_neg q1, if_pos q2]) (fun h => absurd q2 (beq_eq_false_iff_ne.1 h))
  simp only [if_neg q1, if_neg q2]
  exact j2 _ (fun h => by rw [base, if_neg q1, if_neg q2, if_pos (beq_iff_eq.1 h)]) (fun h => by rw [base, if_neg q1, if_neg q2, if_neg (beq_eq_false_iff_ne.1 h)])
theorem iTake_ev (l : List Int) (n : Int) (hl : l.length ≤ 2000000) (hn : 0 ≤ n) (hn2 : n ≤ 100) : Ev (fun k => impl_TakeNumbers.f k l n) (takeN l n) := by
  simp only [impl_TakeNumbers.f, within_eq, Option.bind_some]
  unfold takeN
  have no : Ev (fun k => impl_TakeNumbers.j0 k l n true) (l, [], false) := Ev.up (by simp only [impl_TakeNumbers.j0, if_true, iClone_eq l hl, Option.bind_some]; exact Ev.now _)
  refine Ev.bind (iStackOk_ev l (by rw [maxLen_eq]; omega)) ?_
  cases hs : stkOk l with
  | false => simp only [Bool.false_eq_true, if_false, false_and]; exact no
  | true =>
    simp only [if_true, true_and]
    cases hb : inB n 0 (l.length : Int) with
    | false => simp only [Bool.not_false, Bool.false_eq_true, if_false]; exact no
    | true =>
      have hb2 := inB_iff.1 hb
      have hw : wrap64 ((l.length : Int) - n) = (l.length : Int) - n := wrap_id (by omega) (by omega)
      refine Ev.up ?_
      simp only [Bool.not_true, impl_TakeNumbers.j0, Bool.false_eq_true, if_false, hw, if_pos (show 0 ≤ (l.length : Int) - n by omega), if_pos (show (l.length : Int) - n ≤ (l.length : Int) by omega), if_true]
      rw [iClone_eq _ (by rw [List.length_take]; omega), iClone_eq _ (by rw [List.length_drop]; omega)]
      exact Ev.now _
theorem iPush_ev (l : List Int) (n : Int) (hl : l.length ≤ 2000000) : Ev (fun k => impl_PushNumber.f k l n) (pushN l n) := by
  simp only [impl_PushNumber.f, iClone_eq l hl, Option.bind_some, if_pos (show l.length < 17592186044416 by omega)]
  unfold pushN
  refine Ev.bind (iStackOk_ev l (by rw [maxLen_eq]; omega)) ?_
  cases hs : stkOk l with
  | false => simp only [Bool.false_eq_true, if_false, false_and]; exact Ev.now _
  | true =>
    simp only [if_true, true_and]
    refine Ev.bind (iStackOk_ev (l ++ [n]) (by rw [maxLen_eq, List.length_append, List.length_singleton]; omega)) ?_
    exact Ev.iteB (fun h => by rw [if_pos h]; exact Ev.now _) (fun h => by rw [h]; simp only [Bool.false_eq_true, if_false]; exact Ev.now _)
theorem takeN_facts {l : List Int} {n : Int} (hn : 0 ≤ n) : (takeN l n).1.length ≤ l.length ∧ (takeN l n).2.1.length ≤ l.length ∧ ((takeN l n).2.2 = true → ((takeN l n).2.1.length : Int) = n) := by
  unfold takeN
  split
  · rename_i h
    have hb := inB_iff.1 h.2
    refine ⟨by rw [List.length_take]; omega, by rw [List.length_drop]; omega, fun _ => ?_⟩
    rw [List.length_drop]; omega
  · simp
theorem stkCnt_bd (a : ByteArray) : 0 ≤ stkCnt a ∧ stkCnt a ≤ 2 := by unfold stkCnt; repeat' split <;> omega
theorem iStackOp_ev (l : List Int) (a : ByteArray) (hl : l.length ≤ 2000000) : Ev (fun k => impl_StackOp.f k l a) (stackOpV l a) := by
  have hc := stkCnt_bd a
  have main : Ev (fun k => impl_StackOp.j0 k l a (stkCnt a)) (stackOpV l a) := by
    refine Ev.up ?_
    simp only [impl_StackOp.j0, iIsStackOp_eq, Option.bind_some]
    refine Ev.bind (iTake_ev l (stkCnt a) hl hc.1 (by omega)) ?_
    obtain ⟨t1, t2, t3⟩ := takeN_facts (l := l) hc.1
    unfold stackOpV
    generalize takeN l (stkCnt a) = Z at t1 t2 t3 ⊢
    obtain ⟨r, x, ok⟩ := Z
    simp only at t1 t2 t3 ⊢
    have no : ∀ r' x', Ev (fun k => impl_StackOp.j1 k l a r' x' true) (l, false) := fun r' x' => Ev.up (by simp only [impl_StackOp.j1, if_true, iClone_eq l hl, Option.bind_some]; exact Ev.now _)
    cases ok with
    | false => simp only [Bool.false_eq_true, if_false, false_and]; exact no _ _
    | true =>
      simp only [if_true, true_and]
      cases ho : isOp a with
      | false => simp only [Bool.not_false, Bool.false_eq_true, false_and, if_false]; exact no _ _
      | true =>
        simp only [Bool.not_true, true_and]
        have t4 := t3 rfl
        have fin : ∀ y : List Int, y.length ≤ 3000000 → Ev (fun k => impl_StackOp.j2 k l y) (if stkOk y = true then (y, true) else (l, false)) := fun y hy => Ev.up (by
          simp only [impl_StackOp.j2, iClone_eq l hl, Option.bind_some]
          refine Ev.bind (iStackOk_ev y (by rw [maxLen_eq]; omega)) ?_
          exact Ev.iteB (fun h => by rw [if_pos h]; exact Ev.now _) (fun h => by rw [h]; simp only [Bool.false_eq_true, if_false]; exact Ev.now _))
        refine Ev.up ?_
        simp only [impl_StackOp.j1, Bool.false_eq_true, if_false, Option.bind_some]
        have hr : r.length < 17592186044416 := by omega
        by_cases o1 : a.toList = ([97, 100, 100] : List UInt8)
        · have c2 : (x.length : Int) = 2 := by rw [t4, stkCnt, if_neg (by rw [o1]; decide), if_neg (by rw [o1]; decide), if_neg (by rw [o1]; decide)]
          simp only [if_pos o1, if_pos (show (0 : Int) < x.length by omega), if_pos (show (1 : Int) < x.length by omega), if_pos hr, stkRes]
          exact fin _ (by simp; omega)
        by_cases o2 : a.toList = ([115, 117, 98] : List UInt8)
        · have c2 : (x.length : Int) = 2 := by rw [t4, stkCnt, if_neg (by rw [o2]; decide), if_neg (by rw [o2]; decide), if_neg (by rw [o2]; decide)]
          simp only [if_neg o1, if_pos o2, if_pos (show (0 : Int) < x.length by omega), if_pos (show (1 : Int) < x.length by omega), if_pos hr, stkRes]
          exact fin _ (by simp; omega)
        by_cases o3 : a.toList = ([109, 117, 108] : List UInt8)
        · have c2 : (x.length : Int) = 2 := by rw [t4, stkCnt, if_neg (by rw [o3]; decide), if_neg (by rw [o3]; decide), if_neg (by rw [o3]; decide)]
          simp only [if_neg o1, if_neg o2, if_pos o3, if_pos (show (0 : Int) < x.length by omega), if_pos (show (1 : Int) < x.length by omega), if_pos hr, stkRes]
          exact fin _ (by simp; omega)
        by_cases o4 : a.toList = ([101, 120, 99, 104] : List UInt8)
        · have c2 : (x.length : Int) = 2 := by rw [t4, stkCnt, if_neg (by rw [o4]; decide), if_neg (by rw [o4]; decide), if_neg (by rw [o4]; decide)]
          simp only [if_neg o1, if_neg o2, if_neg o3, if_pos o4, if_pos (show (0 : Int) < x.length by omega), if_pos (show (1 : Int) < x.length by omega), List.length_cons, List.length_nil, if_pos (show r.length + (0 + 1 + 1) < 17592186044416 by omega), stkRes]
          exact fin _ (by simp; omega)
        by_cases o5 : a.toList = ([110, 101, 103] : List UInt8)
        · have c2 : (x.length : Int) = 1 := by rw [t4, stkCnt, if_pos o5]
          simp only [if_neg o1, if_neg o2, if_neg o3, if_neg o4, if_pos o5, if_pos (show (0 : Int) < x.length by omega), if_pos hr, stkRes]
          exact fin _ (by simp; omega)
        by_cases o6 : a.toList = ([100, 117, 112] : List UInt8)
        · have c2 : (x.length : Int) = 1 := by rw [t4, stkCnt, if_neg o5, if_pos o6]
          simp only [if_neg o1, if_neg o2, if_neg o3, if_neg o4, if_neg o5, if_pos o6, if_pos (show (0 : Int) < x.length by omega), List.length_cons, List.length_nil, if_pos (show r.length + (0 + 1 + 1) < 17592186044416 by omega), stkRes]
          exact fin _ (by simp; omega)
        · simp only [if_neg o1, if_neg o2, if_neg o3, if_neg o4, if_neg o5, if_neg o6, stkRes]
          exact fin _ (by omega)
  simp only [impl_StackOp.f]
  unfold stkCnt at main
  by_cases o1 : a.toList = ([110, 101, 103] : List UInt8)
  · simp only [if_pos o1] at main ⊢; exact main
  by_cases o2 : a.toList = ([100, 117, 112] : List UInt8)
  · simp only [if_neg o1, if_pos o2] at main ⊢; exact main
  by_cases o3 : a.toList = ([112, 111, 112] : List UInt8)
  · simp only [if_neg o1, if_neg o2, if_pos o3] at main ⊢; exact main
  · simp only [if_neg o1, if_neg o2, if_neg o3] at main ⊢; exact main
theorem iQuarters_ev : ∀ (n : Nat) (x y : Int), n ≤ 1000 → Ev (fun k => impl_quarters.l0 k (n : Int) x y) (qrt n x y)
  | 0, x, y, _ => Ev.up (by simp only [impl_quarters.l0, if_neg (show ¬ ((0 : Nat) : Int) > 0 by omega)]; exact Ev.now _)
  | n + 1, x, y, h => Ev.up (by
      have hw : wrap64 (((n + 1 : Nat) : Int) - 1) = (n : Int) := by rw [wrap_id (by omega) (by omega)]; omega
      simp only [impl_quarters.l0, if_pos (show ((n + 1 : Nat) : Int) > 0 by omega), hw]
      exact iQuarters_ev n _ _ (by omega))
theorem iMoved_ev (t : S28) (x y : Int) (h0 : 0 ≤ t.f0) (h1 : t.f0 ≤ 3) : Ev (fun k => impl_moved.f k t.f0 t.f1 t.f2 t.f3 x y) (movedV t x y) := by
  simp only [impl_moved.f, impl_quarters.f]
  have h := iQuarters_ev t.f0.toNat (wrap64 (x * t.f1)) (wrap64 (y * t.f1)) (by omega)
  rw [show ((t.f0.toNat : Nat) : Int) = t.f0 by omega] at h
  exact Ev.bind h (Ev.now _)
theorem tn_q {t : S28} (h : tnOk t = true) : 0 ≤ t.f0 ∧ t.f0 ≤ 3 := by
  unfold tnOk turnOk at h
  simp only [Bool.and_eq_true] at h
  exact inB_iff.1 h.1
def joinR (z : S28 × Bool) : Int × Int × Int × Int × Bool := (z.1.f0, z.1.f1, z.1.f2, z.1.f3, z.2)
theorem iJoin_ev (a b : S28) : Ev (fun k => impl_JoinTurns.f k a.f0 a.f1 a.f2 a.f3 b.f0 b.f1 b.f2 b.f3) (joinR (joinV a b)) := by
  simp only [impl_JoinTurns.f, iTurnOk_eq, Option.bind_some]
  unfold joinV
  have no : Ev (fun k => impl_JoinTurns.j0 k true a.f0 a.f1 a.f2 a.f3 b.f0 b.f1 b.f2 b.f3) (joinR (⟨0, 0, 0, 0⟩, false)) := Ev.up (by simp only [impl_JoinTurns.j0, if_true]; exact Ev.now _)
  cases h1 : tnOk a with
  | false =>
    have h1' : turnOk a.f0 a.f1 a.f2 a.f3 = false := h1
    simp only [h1', Bool.false_eq_true, if_false, false_and]; exact no
  | true =>
    have h1' : turnOk a.f0 a.f1 a.f2 a.f3 = true := h1
    simp only [h1', if_true, true_and]
    cases h2 : tnOk b with
    | false =>
      have h2' : turnOk b.f0 b.f1 b.f2 b.f3 = false := h2
      simp only [h2', Bool.not_false, Bool.false_eq_true, if_false, false_and]; exact no
    | true =>
      have h2' : turnOk b.f0 b.f1 b.f2 b.f3 = true := h2
      simp only [h2', Bool.not_true, true_and]
      refine Ev.up ?_
      simp only [impl_JoinTurns.j0, Bool.false_eq_true, if_false, iTurnOk_eq, Option.bind_some]
      have hq := tn_q h2
      refine Ev.bind (iMoved_ev b a.f2 a.f3 hq.1 hq.2) ?_
      cases h3 : tnOk (joinT a b) with
      | false =>
        have h3' : turnOk (Int.tmod (wrap64 (a.f0 + b.f0)) 4) (wrap64 (a.f1 * b.f1)) (movedV b a.f2 a.f3).1 (movedV b a.f2 a.f3).2 = false := h3
        simp only [h3', Bool.false_eq_true, if_false]; exact Ev.now _
      | true =>
        have h3' : turnOk (Int.tmod (wrap64 (a.f0 + b.f0)) 4) (wrap64 (a.f1 * b.f1)) (movedV b a.f2 a.f3).1 (movedV b a.f2 a.f3).2 = true := h3
        simp only [h3', if_true]; exact Ev.now _
end Go.Proofs.Ytpickbenfkcpmaa.Pure
namespace Go.Proofs.Ytpickbenfkcpmaa.Pure
open Go.RowKit Go.Proofs.Ytpickbenfkcpmaa.QFnRuns7 Go.Proofs.YtpickbenfkcpmaaW.PrintWords Go.Proofs.YtpickbenfkcpmaaW.PrintLast Go.Proofs.Ytpickbenfkcpmaa.Plain

theorem iPageOkP_ev (p : Pg) (h : pgN 2000000 p) : Ev (fun k => impl_PageOk.f k p.g.f0 p.g.f1.f0 p.g.f1.f1 p.g.f1.f2 p.g.f1.f3 p.g.f2 p.g.f3 p.g.f4.f0 p.g.f4.f1 p.g.f4.f2 p.g.f4.f3 p.sv p.ob) (okP p) := by
  obtain ⟨h1, h2, h3, h4, h5, h6⟩ := h
  exact iPageOk_ev p.g.f0 p.g.f1.f0 p.g.f1.f1 p.g.f1.f2 p.g.f1.f3 p.g.f2 p.g.f3 p.g.f4.f0 p.g.f4.f1 p.g.f4.f2 p.g.f4.f3 p.sv p.ob (by rw [maxLen_eq]; omega) (by rw [maxLen_eq]; omega) (by rw [maxLen_eq]; omega) (fun x hx => by have := h4 x hx; rw [maxLen_eq]; omega) (by rw [maxLen_eq]; omega) (fun x hx => by have := h6 x hx; rw [maxLen_eq]; omega)
section
variable (p : Pg) (h : pgN 2000000 p)
include h
theorem no4 (X : Pg) : Ev (fun k => impl_ExecToken.j4 k false p.g.f0 p.g.f1.f0 p.g.f1.f1 p.g.f1.f2 p.g.f1.f3 p.g.f2 p.g.f3 p.g.f4.f0 p.g.f4.f1 p.g.f4.f2 p.g.f4.f3 p.sv p.ob X.g.f0 X.g.f1.f0 X.g.f1.f1 X.g.f1.f2 X.g.f1.f3 X.g.f2 X.g.f3 X.g.f4.f0 X.g.f4.f1 X.g.f4.f2 X.g.f4.f3 X.sv X.ob) (tupB (p, false)) := by
  refine Ev.up ?_
  simp only [impl_ExecToken.j4, Bool.false_eq_true, if_false]
  exact Ev.bind (icopyPage_ev p h) (Ev.now _)
theorem fin4 (X : Pg) (hX : pgN 2000000 X) : Ev (fun k => impl_ExecToken.j4 k true p.g.f0 p.g.f1.f0 p.g.f1.f1 p.g.f1.f2 p.g.f1.f3 p.g.f2 p.g.f3 p.g.f4.f0 p.g.f4.f1 p.g.f4.f2 p.g.f4.f3 p.sv p.ob X.g.f0 X.g.f1.f0 X.g.f1.f1 X.g.f1.f2 X.g.f1.f3 X.g.f2 X.g.f3 X.g.f4.f0 X.g.f4.f1 X.g.f4.f2 X.g.f4.f3 X.sv X.ob) (tupB (finV p (some X))) := by
  refine Ev.up ?_
  simp only [impl_ExecToken.j4, if_true]
  refine Ev.bind (iPageOkP_ev X hX) ?_
  have e : finV p (some X) = if okP X = true then (X, true) else (p, false) := rfl
  rw [e]
  cases okP X with
  | true => simp only [if_true]; exact Ev.now _
  | false => simp only [Bool.false_eq_true, if_false]; exact Ev.bind (icopyPage_ev p h) (Ev.now _)
theorem fin3 (X : Pg) (hX : pgN 2000000 X) (t : S28) : Ev (fun k => impl_ExecToken.j3 k true p.g.f0 p.g.f1.f0 p.g.f1.f1 p.g.f1.f2 p.g.f1.f3 p.g.f2 p.g.f3 p.g.f4.f0 p.g.f4.f1 p.g.f4.f2 p.g.f4.f3 p.sv p.ob X.g.f0 X.g.f1.f0 X.g.f1.f1 X.g.f1.f2 X.g.f1.f3 X.g.f2 X.g.f3 X.g.f4.f0 X.g.f4.f1 X.g.f4.f2 X.g.f4.f3 X.sv X.ob t.f0 t.f1 t.f2 t.f3)
    (tupB (finV p (if (joinV t X.g.f1).2 = true then some { X with g := { X.g with f1 := (joinV t X.g.f1).1 } } else none))) := by
  refine Ev.up ?_
  simp only [impl_ExecToken.j3]
  refine Ev.bind (iJoin_ev t X.g.f1) ?_
  simp only [joinR]
  generalize joinV t X.g.f1 = Z
  obtain ⟨u, b⟩ := Z
  cases b with
  | true => simp only [if_true]; exact fin4 p h { X with g := { X.g with f1 := u } } hX
  | false => simp only [Bool.false_eq_true, if_false, if_true]; exact no4 p h X
end
theorem rect_ev (p : Pg) (h : pgN 2000000 p) (X : Pg) (hX : pgN 1000000 X) (hq : 0 ≤ X.g.f1.f0 ∧ X.g.f1.f0 ≤ 3) (l : List S90) (hl : l.length = 4) :
    Ev (fun k => impl_ExecToken.l0 k l (l.length : Int) 0 true p.g.f0 p.g.f1.f0 p.g.f1.f1 p.g.f1.f2 p.g.f1.f3 p.g.f2 p.g.f3 p.g.f4.f0 p.g.f4.f1 p.g.f4.f2 p.g.f4.f3 p.sv p.ob X.g.f0 X.g.f1.f0 X.g.f1.f1 X.g.f1.f2 X.g.f1.f3 ([] : List S90) X.g.f3 X.g.f4.f0 X.g.f4.f1 X.g.f4.f2 X.g.f4.f3 X.sv X.ob)
      (tupB (finV p (some { X with g := { X.g with f2 := l.map fun q => mvP X.g.f1 q.f0 q.f1 } }))) := by
  refine ev_loop l (F := fun k s i => impl_ExecToken.l0 k l l.length i true p.g.f0 p.g.f1.f0 p.g.f1.f1 p.g.f1.f2 p.g.f1.f3 p.g.f2 p.g.f3 p.g.f4.f0 p.g.f4.f1 p.g.f4.f2 p.g.f4.f3 p.sv p.ob X.g.f0 X.g.f1.f0 X.g.f1.f1 X.g.f1.f2 X.g.f1.f3 s X.g.f3 X.g.f4.f0 X.g.f4.f1 X.g.f4.f2 X.g.f4.f3 X.sv X.ob) (fun pre _ s => s = pre.map fun q => mvP X.g.f1 q.f0 q.f1) (fun _ _ _ => tupB (finV p (some { X with g := { X.g with f2 := l.map fun q => mvP X.g.f1 q.f0 q.f1 } }))) ?_ ?_ [] rfl
  · rintro s rfl
    simp only [impl_ExecToken.l0, end_lt, if_false, if_true]
    obtain ⟨h1, h2, h3, h4, h5, h6⟩ := pgN_mono hX (show 1000000 ≤ 2000000 by omega)
    exact fin4 p h { X with g := { X.g with f2 := l.map fun q => mvP X.g.f1 q.f0 q.f1 } } ⟨h1, by simp only [List.length_map]; omega, h3, h4, h5, h6⟩
  · rintro pre x rest s e rfl ih
    have hpl : pre.length ≤ 4 := by have := congrArg List.length e; simp at this; omega
    have hlt : (pre.length : Int) < (l.length : Int) := by rw [e, mid_len]; omega
    have hw : wrap64 ((pre.length : Int) + 1) = ((pre ++ [x]).length : Int) := mid_wrap (pre := pre) (rest := rest) (x := x) (by rw [← e, maxLen_eq]; omega)
    have hrd : rd_T90 l (pre.length : Int) = x := by rw [e]; simp [rd_T90, List.getD_eq_getElem?_getD]
    simp only [impl_ExecToken.l0, if_pos hlt, mid_nn, if_true, hrd, hw]
    refine Ev.bind (iMoved_ev X.g.f1 x.f0 x.f1 hq.1 hq.2) ?_
    simp only [List.length_map, if_pos (show pre.length < 8796093022208 by omega)]
    exact ih _ (by rw [List.map_append]; rfl)
theorem rng_ite {c : Prop} [Decidable c] {x y : Int × Bool} (hx : 0 ≤ x.1 ∧ x.1 ≤ 4) (hy : 0 ≤ y.1 ∧ y.1 ≤ 4) : 0 ≤ (if c then x else y).1 ∧ (if c then x else y).1 ≤ 4 := by
  by_cases h : c
  · rw [if_pos h]; exact hx
  · rw [if_neg h]; exact hy
theorem takenV_range (a : ByteArray) : 0 ≤ (takenV a).1 ∧ (takenV a).1 ≤ 4 := by
  unfold takenV
  repeat' (refine rng_ite (by decide) ?_)
  decide
theorem iExec_ev (p : Pg) (a : ByteArray) (n : Int) (h : pgN 1000000 p) : Ev (fun k => impl_ExecToken.f k p.g.f0 p.g.f1.f0 p.g.f1.f1 p.g.f1.f2 p.g.f1.f3 p.g.f2 p.g.f3 p.g.f4.f0 p.g.f4.f1 p.g.f4.f2 p.g.f4.f3 p.sv p.ob a n) (tupB (exec p a n)) := by
  have h2 := pgN_mono h (show 1000000 ≤ 2000000 by omega)
  have no : Ev (fun k => impl_ExecToken.j0 k true p.g.f0 p.g.f1.f0 p.g.f1.f1 p.g.f1.f2 p.g.f1.f3 p.g.f2 p.g.f3 p.g.f4.f0 p.g.f4.f1 p.g.f4.f2 p.g.f4.f3 p.sv p.ob a n) (tupB (p, false)) := by
    refine Ev.up ?_
    simp only [impl_ExecToken.j0, if_true]
    exact Ev.bind (icopyPage_ev p h2) (Ev.now _)
  simp only [impl_ExecToken.f]
  refine Ev.bind (iPageOkP_ev p h2) ?_
  unfold exec
  cases hok : okP p with
  | false => simp only [Bool.false_eq_true, if_false, false_and]; exact no
  | true =>
    simp only [if_true, true_and]
    refine Ev.bind (iTokenOk_ev a n) ?_
    cases htk : tokOk a n with
    | false => simp only [Bool.not_false, Bool.false_eq_true, if_false]; exact no
    | true =>
      simp only [Bool.not_true, if_true]
      obtain ⟨hs, htn⟩ := okP_small hok
      have hq := tn_q htn
      have hsN : pgN 100 p := pgN_mono hs (by omega)
      have hstL : p.g.f0.length ≤ 2000000 := by have := hs.1; omega
      refine Ev.up ?_
      simp only [impl_ExecToken.j0, Bool.false_eq_true, if_false]
      refine Ev.bind (icopyPage_ev p h2) (Ev.bind (iTaken_ev a) ?_)
      simp only [tup]
      by_cases e0 : a.toList = ([] : List UInt8)
      · simp only [if_pos e0]
        refine Ev.bind (iPush_ev p.g.f0 n hstL) ?_
        have hst : stepV p a n = if (pushN p.g.f0 n).2 = true then some (setSt p (pushN p.g.f0 n).1) else none := by unfold stepV; rw [if_pos e0]
        rw [hst]
        have hln : (pushN p.g.f0 n).1.length ≤ 13 := by have := hs.1; unfold pushN; split <;> simp <;> omega
        generalize pushN p.g.f0 n = Z at hln ⊢
        obtain ⟨l, b⟩ := Z
        cases b with
        | true => simp only [if_true]; exact fin4 p h2 (setSt p l) ⟨by simp only [setSt]; simp only at hln; omega, h2.2⟩
        | false => simp only [Bool.false_eq_true, if_false]; exact no4 p h2 (setSt p l)
      · simp only [if_neg e0, iIsStackOp_eq, Option.bind_some]
        cases ho : isOp a with
        | true =>
          simp only [if_true]
          refine Ev.bind (iStackOp_ev p.g.f0 a hstL) ?_
          have hst : stepV p a n = if (stackOpV p.g.f0 a).2 = true then some (setSt p (stackOpV p.g.f0 a).1) else none := by unfold stepV; rw [if_neg e0, if_pos ho]
          rw [hst]
          have hln : (stackOpV p.g.f0 a).1.length ≤ 100 := by
            have := hs.1
            unfold stackOpV
            split
            · rename_i hc
              have := stk_len hc.2.2
              simp only; omega
            · simp only; omega
          generalize stackOpV p.g.f0 a = Z at hln ⊢
          obtain ⟨l, b⟩ := Z
          cases b with
          | true => simp only [if_true]; exact fin4 p h2 (setSt p l) ⟨by simp only [setSt]; simp only at hln; omega, h2.2⟩
          | false => simp only [Bool.false_eq_true, if_false]; exact no4 p h2 (setSt p l)
        | false =>
          simp only [Bool.false_eq_true, if_false]
          have htc := takenV_range a
          cases htk2 : (takenV a).2 with
          | false =>
            have hst : stepV p a n = none := by unfold stepV; rw [if_neg e0, ho, htk2]; simp
            simp only [Bool.false_eq_true, if_false, hst, finV]
            exact no4 p h2 p
          | true =>
            simp only [if_true]
            refine Ev.bind (iTake_ev p.g.f0 (takenV a).1 hstL htc.1 (by omega)) ?_
            obtain ⟨t1, _, t3⟩ := takeN_facts (l := p.g.f0) htc.1
            cases hhas : (takeN p.g.f0 (takenV a).1).2.2 with
            | false =>
              have hst : stepV p a n = none := by unfold stepV; rw [if_neg e0, ho, htk2, hhas]; simp
              simp only [Bool.false_eq_true, if_false, hst, finV]
              exact no4 p h2 (setSt p (takeN p.g.f0 (takenV a).1).1)
            | true =>
              have hst : stepV p a n = paint (setSt p (takeN p.g.f0 (takenV a).1).1) a (takeN p.g.f0 (takenV a).1).2.1 := by unfold stepV; rw [if_neg e0, ho, htk2, hhas]; simp
              have hx := t3 hhas
              rw [hst]
              simp only [if_true]
              have hX : pgN 100 (setSt p (takeN p.g.f0 (takenV a).1).1) := ⟨by have := hs.1; simp only [setSt]; omega, hsN.2⟩
              generalize hc : (takenV a).1 = c at *
              generalize (takeN p.g.f0 c).2.1 = x at *
              generalize (takeN p.g.f0 c).1 = st at *
              have hX1 := pgN_mono hX (show 100 ≤ 1000000 by omega)
              have hX2 := pgN_mono hX (show 100 ≤ 2000000 by omega)
              clear t3 t1
              obtain ⟨x1, x2, x3, x4, x5, x6⟩ := id hsN
              simp only [paint, setSt]
              by_cases n1 : a.toList = ([110, 101, 119] : List UInt8)
              · simp only [if_pos n1]
                exact fin4 p h2 { setSt p st with g := { (setSt p st).g with f2 := [] } } ⟨hX2.1, by simp, hX2.2.2⟩
              by_cases n2 : a.toList = ([109, 111, 118, 101, 116, 111] : List UInt8)
              · have hc2 : c = 2 := by rw [← hc]; unfold takenV; rw [n2]; decide
                simp only [if_neg n1, if_pos n2, if_pos (show (0 : Int) < x.length by omega), if_pos (show (1 : Int) < x.length by omega)]
                refine Ev.bind (iMoved_ev p.g.f1 _ _ hq.1 hq.2) ?_
                exact fin4 p h2 { setSt p st with g := { (setSt p st).g with f2 := [mvP p.g.f1 (rd x 0) (rd x 1)] } } ⟨hX2.1, by simp, hX2.2.2⟩
              by_cases n3 : a.toList = ([108, 105, 110, 101, 116, 111] : List UInt8)
              · have hc2 : c = 2 := by rw [← hc]; unfold takenV; rw [n3]; decide
                simp only [if_neg n1, if_neg n2, if_pos n3]
                by_cases z : (p.g.f2.length : Int) = 0
                · simp only [if_pos z]; exact no4 p h2 (setSt p st)
                · simp only [if_neg z, if_pos (show (0 : Int) < x.length by omega), if_pos (show (1 : Int) < x.length by omega)]
                  refine Ev.bind (iMoved_ev p.g.f1 _ _ hq.1 hq.2) ?_
                  simp only [if_pos (show p.g.f2.length < 8796093022208 by omega)]
                  exact fin4 p h2 { setSt p st with g := { (setSt p st).g with f2 := p.g.f2 ++ [mvP p.g.f1 (rd x 0) (rd x 1)] } } ⟨hX2.1, by simp; omega, hX2.2.2⟩
              by_cases n4 : a.toList = ([114, 101, 99, 116] : List UInt8)
              · have hc2 : c = 4 := by rw [← hc]; unfold takenV; rw [n4]; decide
                simp only [if_neg n1, if_neg n2, if_neg n3, if_pos n4, if_pos (show (0 : Int) < x.length by omega), if_pos (show (1 : Int) < x.length by omega), if_pos (show (2 : Int) < x.length by omega), if_pos (show (3 : Int) < x.length by omega), within_eq, Option.bind_some]
                have bad : Ev (fun k => impl_ExecToken.j1 k (rd x 0) (rd x 1) (rd x 2) (rd x 3) true true p.g.f0 p.g.f1.f0 p.g.f1.f1 p.g.f1.f2 p.g.f1.f3 p.g.f2 p.g.f3 p.g.f4.f0 p.g.f4.f1 p.g.f4.f2 p.g.f4.f3 p.sv p.ob st p.g.f1.f0 p.g.f1.f1 p.g.f1.f2 p.g.f1.f3 p.g.f2 p.g.f3 p.g.f4.f0 p.g.f4.f1 p.g.f4.f2 p.g.f4.f3 p.sv p.ob) (tupB (p, false)) := by
                  refine Ev.up ?_
                  simp only [impl_ExecToken.j1, if_true]
                  exact no4 p h2 (setSt p st)
                cases b2 : inB (rd x 2) 0 200 with
                | false => simp only [Bool.false_eq_true, if_false, false_and, finV]; exact bad
                | true =>
                  simp only [if_true, true_and]
                  cases b3 : inB (rd x 3) 0 200 with
                  | false => simp only [Bool.not_false, Bool.false_eq_true, if_false, finV]; exact bad
                  | true =>
                    simp only [Bool.not_true, if_true]
                    refine Ev.up ?_
                    simp only [impl_ExecToken.j1, Bool.false_eq_true, if_false, Option.bind_some]
                    exact rect_ev p h2 (setSt p st) hX1 hq [(⟨rd x 0, rd x 1⟩ : S90), ⟨wrap64 (rd x 0 + rd x 2), rd x 1⟩, ⟨wrap64 (rd x 0 + rd x 2), wrap64 (rd x 1 + rd x 3)⟩, ⟨rd x 0, wrap64 (rd x 1 + rd x 3)⟩] rfl
              by_cases n5 : a.toList = ([102, 105, 108, 108] : List UInt8)
              · simp only [if_neg n1, if_neg n2, if_neg n3, if_neg n4, if_pos n5]
                by_cases z : (p.g.f2.length : Int) < 3
                · simp only [if_pos z]; exact no4 p h2 (setSt p st)
                · simp only [if_neg z, iCloneP_eq p.g.f2 (by omega), Option.bind_some, if_pos (show p.ob.length < 2199023255552 by omega)]
                  refine fin4 p h2 { setSt p st with g := { (setSt p st).g with f2 := [] }, ob := p.ob ++ [⟨p.g.f2, p.g.f3, p.g.f4⟩] } ⟨hX2.1, by simp, hX2.2.2.1, hX2.2.2.2.1, by simp; omega, fun y hy => ?_⟩
                  rcases List.mem_append.1 hy with hy | hy
                  · exact hX2.2.2.2.2.2 y hy
                  · rw [List.mem_singleton.1 hy]; exact hX2.2.1
              by_cases n6 : a.toList = ([103, 114, 97, 121] : List UInt8)
              · have hc2 : c = 1 := by rw [← hc]; unfold takenV; rw [n6]; decide
                simp only [if_neg n1, if_neg n2, if_neg n3, if_neg n4, if_neg n5, if_pos n6, if_pos (show (0 : Int) < x.length by omega)]
                exact fin4 p h2 { setSt p st with g := { (setSt p st).g with f3 := rd x 0 } } hX2
              by_cases n7 : a.toList = ([99, 108, 105, 112] : List UInt8)
              · simp only [if_neg n1, if_neg n2, if_neg n3, if_neg n4, if_neg n5, if_neg n6, if_pos n7]
                by_cases z : (p.g.f2.length : Int) = 0
                · simp only [if_pos z]; exact no4 p h2 (setSt p st)
                · simp only [if_neg z]
                  refine Ev.bind (iBoxOf_ev p.g.f2 (by rw [maxLen_eq]; omega)) (Ev.bind (iMeetBox_ev _ _ _ _ _ _ _ _) ?_)
                  exact fin4 p h2 { setSt p st with g := { (setSt p st).g with f2 := [], f4 := box4 (meet (p.g.f4.f0, p.g.f4.f1, p.g.f4.f2, p.g.f4.f3) (boxOf p.g.f2)) } } ⟨hX2.1, by simp, hX2.2.2⟩
              by_cases n8 : a.toList = ([115, 97, 118, 101] : List UInt8)
              · simp only [if_neg n1, if_neg n2, if_neg n3, if_neg n4, if_neg n5, if_neg n6, if_neg n7, if_pos n8, icopyG_eq st _ _ _ _ p.g.f2 _ _ _ _ _ hX2.1 hX2.2.1, Option.bind_some, if_pos (show p.sv.length < 1172812402961 by omega)]
                refine fin4 p h2 { setSt p st with sv := p.sv ++ [(setSt p st).g] } ⟨hX2.1, hX2.2.1, by simp; omega, fun y hy => ?_, hX2.2.2.2.2⟩
                rcases List.mem_append.1 hy with hy | hy
                · exact hX2.2.2.2.1 y hy
                · rw [List.mem_singleton.1 hy]; exact ⟨hX2.1, hX2.2.1⟩
              by_cases n9 : a.toList = ([114, 101, 115, 116, 111, 114, 101] : List UInt8)
              · simp only [if_neg n1, if_neg n2, if_neg n3, if_neg n4, if_neg n5, if_neg n6, if_neg n7, if_neg n8, if_pos n9]
                by_cases z : (p.sv.length : Int) = 0
                · simp only [if_pos z]; exact no4 p h2 (setSt p st)
                · have hw : wrap64 ((p.sv.length : Int) - 1) = (p.sv.length : Int) - 1 := wrap_id (by omega) (by omega)
                  simp only [if_neg z, hw, if_pos (show 0 ≤ (p.sv.length : Int) - 1 by omega), if_pos (show (p.sv.length : Int) - 1 < (p.sv.length : Int) by omega), if_pos (show (p.sv.length : Int) - 1 ≤ (p.sv.length : Int) by omega)]
                  have hmem : rd_T33 p.sv ((p.sv.length : Int) - 1) ∈ p.sv := by
                    unfold rd_T33
                    rw [List.getD_eq_getElem?_getD, List.getElem?_eq_getElem (by omega)]
                    exact List.getElem_mem _
                  exact fin4 p h2 { setSt p st with g := { rd_T33 p.sv ((p.sv.length : Int) - 1) with f0 := st }, sv := p.sv.take ((p.sv.length : Int) - 1).toNat } ⟨hX2.1, (hX2.2.2.2.1 _ hmem).2, by rw [List.length_take]; omega, fun y hy => hX2.2.2.2.1 y (List.mem_of_mem_take hy), hX2.2.2.2.2⟩
              simp only [if_neg n1, if_neg n2, if_neg n3, if_neg n4, if_neg n5, if_neg n6, if_neg n7, if_neg n8, if_neg n9, impl_Identity.f, Option.bind_some]
              have f3 := fin3 p h2 (setSt p st) hX2 (otherT a x)
              by_cases m1 : a.toList = ([115, 104, 105, 102, 116] : List UInt8)
              · have hc2 : c = 2 := by rw [← hc]; unfold takenV; rw [m1]; decide
                simp only [otherT, if_pos m1, if_pos (show (0 : Int) < x.length by omega), if_pos (show (1 : Int) < x.length by omega)] at f3 ⊢
                exact f3
              by_cases m2 : a.toList = ([116, 117, 114, 110] : List UInt8)
              · have hc2 : c = 1 := by rw [← hc]; unfold takenV; rw [m2]; decide
                simp only [otherT, if_neg m1, if_pos m2, if_pos (show (0 : Int) < x.length by omega)] at f3 ⊢
                exact f3
              by_cases m3 : a.toList = ([115, 99, 97, 108, 101] : List UInt8)
              · have hc2 : c = 1 := by rw [← hc]; unfold takenV; rw [m3]; decide
                simp only [otherT, if_neg m1, if_neg m2, if_pos m3, if_pos (show (0 : Int) < x.length by omega)] at f3 ⊢
                exact f3
              · simp only [otherT, if_neg m1, if_neg m2, if_neg m3] at f3 ⊢
                exact f3
/-! A page run: the state behind each token -/
def page0 : Pg := ⟨⟨[], ⟨0, 1, 0, 0⟩, [], 0, ⟨0, 0, 32, 32⟩⟩, [], []⟩
theorem iNewPage_eq : impl_NewPage.f = some (tup page0) := by rfl
theorem page0_ok : okP page0 = true := by decide
def runV (p : Pg) (i : Int) : List S46 → Pg × Int
  | [] => (p, i)
  | t :: r => if (exec p t.f0 t.f1).2 = true then runV (exec p t.f0 t.f1).1 (i + 1) r else (p, i)
theorem runV_ok : ∀ (l : List S46) (p : Pg) (i : Int), okP p = true → okP (runV p i l).1 = true
  | [], p, i, h => h
  | t :: r, p, i, h => by
    unfold runV
    split
    · exact runV_ok r _ _ (exec_ok (by assumption))
    · exact h
theorem runV_bd : ∀ (l : List S46) (p : Pg) (i : Int), i ≤ (runV p i l).2 ∧ (runV p i l).2 ≤ i + l.length
  | [], p, i => by simp [runV]
  | t :: r, p, i => by
    unfold runV
    split
    · have := runV_bd r (exec p t.f0 t.f1).1 (i + 1)
      rw [List.length_cons]; omega
    · rw [List.length_cons]; omega
abbrev tupI (z : Pg × Int) : List Int × Int × Int × Int × Int × (List S90) × Int × Int × Int × Int × Int × (List S33) × (List S82) × Int := (z.1.g.f0, z.1.g.f1.f0, z.1.g.f1.f1, z.1.g.f1.f2, z.1.g.f1.f3, z.1.g.f2, z.1.g.f3, z.1.g.f4.f0, z.1.g.f4.f1, z.1.g.f4.f2, z.1.g.f4.f3, z.1.sv, z.1.ob, z.2)
def pgZ : Pg := ⟨⟨[], ⟨0, 0, 0, 0⟩, [], 0, ⟨0, 0, 0, 0⟩⟩, [], []⟩
def runPageV (l : List S46) : Pg × Int := if (flattenV l).2 = true then runV page0 0 (flattenV l).1 else (pgZ, -1)
theorem okP_pgN {p : Pg} (h : okP p = true) : pgN 1000000 p := pgN_mono (okP_small h).1 (by omega)
theorem iRunPage_ev (l : List S46) (hm : l.length ≤ maxLen) : Ev (fun k => impl_RunPage.f k l) (tupI (runPageV l)) := by
  simp only [impl_RunPage.f]
  have hfl := flattenV_len l
  unfold runPageV
  refine Ev.bind (iFlatten_ev l hm) ?_
  generalize flattenV l = Z at hfl ⊢
  obtain ⟨f, b⟩ := Z
  simp only at hfl ⊢
  cases b with
  | false => simp only [Bool.false_eq_true, if_false]; exact Ev.now _
  | true =>
    simp only [if_true, iNewPage_eq, Option.bind_some]
    have main : ∀ (rest pre : List S46) (p : Pg), f = pre ++ rest → okP p = true → Ev (fun k => impl_RunPage.l0 k f f (f.length : Int) (pre.length : Int) p.g.f0 p.g.f1.f0 p.g.f1.f1 p.g.f1.f2 p.g.f1.f3 p.g.f2 p.g.f3 p.g.f4.f0 p.g.f4.f1 p.g.f4.f2 p.g.f4.f3 p.sv p.ob) (tupI (runV p (pre.length : Int) rest)) := by
      intro rest
      induction rest with
      | nil =>
        intro pre p e hp
        refine Ev.up ?_
        have e' : pre.length = f.length := by rw [e]; simp
        simp only [impl_RunPage.l0, e', end_lt, if_false, runV]
        exact Ev.now _
      | cons t r ih =>
        intro pre p e hp
        have hlt : (pre.length : Int) < (f.length : Int) := by rw [e, mid_len]; omega
        have hpe : ((pre ++ [t]).length : Int) = (pre.length : Int) + 1 := by simp
        have hw : wrap64 ((pre.length : Int) + 1) = ((pre ++ [t]).length : Int) := mid_wrap (pre := pre) (rest := r) (x := t) (by rw [← e, maxLen_eq]; omega)
        have hrd : rd_T46 f (pre.length : Int) = t := by rw [e]; simp [rd_T46, List.getD_eq_getElem?_getD]
        refine Ev.up ?_
        simp only [impl_RunPage.l0, if_pos hlt, mid_nn, if_true, hrd, hw, runV]
        refine Ev.bind (iExec_ev p t.f0 t.f1 (okP_pgN hp)) ?_
        simp only [tupB]
        by_cases hb : (exec p t.f0 t.f1).2 = true
        · rw [if_pos hb]
          simp only [hb, if_true]
          have h1 := ih (pre ++ [t]) (exec p t.f0 t.f1).1 (by simp [e]) (exec_ok hb)
          rw [← hpe]
          exact h1
        · have hb' : (exec p t.f0 t.f1).2 = false := by simpa using hb
          rw [if_neg hb]
          simp only [hb', Bool.false_eq_true, if_false]; exact Ev.now _
    exact main f [] page0 rfl page0_ok
theorem sameI_ev (l : List Int) (hm : l.length ≤ maxLen) : Ev (fun k => laws_sameInts.f k l l) true := by
  simp only [laws_sameInts.f, if_true]
  refine ev_loop0 l (F := fun k i => laws_sameInts.l0 k l l i) (fun _ _ => true) ?_ (fun pre x rest e h => ?_)
  · simp only [laws_sameInts.l0, end_lt, if_false]; exact Ev.now _
  · subst e
    simp only [laws_sameInts.l0, mid_lt, mid_nn, mid_wrap hm, if_true, rd, Int.toNat_natCast, mid_get]
    exact h
theorem runs7_loop (f : List S46) (P : Pg) (N : Int) (hf : (f.length : Int) ≤ 200) (hP : okP P = true) :
    ∀ (rest pre : List S46) (p : Pg), f = pre ++ rest → okP p = true → runV p (pre.length : Int) rest = (P, N) →
    Ev (fun k => laws_FnRuns7.l0 k N f (pre.length : Int) P.g.f0 P.g.f1.f0 P.g.f1.f1 P.g.f1.f2 P.g.f1.f3 P.g.f2 P.g.f3 P.g.f4.f0 P.g.f4.f1 P.g.f4.f2 P.g.f4.f3 P.sv P.ob p.g.f0 p.g.f1.f0 p.g.f1.f1 p.g.f1.f2 p.g.f1.f3 p.g.f2 p.g.f3 p.g.f4.f0 p.g.f4.f1 p.g.f4.f2 p.g.f4.f3 p.sv p.ob) true := by
  have hPl : P.g.f0.length ≤ maxLen := by have := (okP_small hP).1.1; rw [maxLen_eq]; omega
  intro rest
  induction rest with
  | nil =>
    intro pre p e hp hr
    have e' : pre.length = f.length := by rw [e]; simp
    simp only [runV, Prod.mk.injEq] at hr
    obtain ⟨rfl, rfl⟩ := hr
    refine Ev.up ?_
    simp only [laws_FnRuns7.l0, e', end_lt, if_false, if_pos (show (f.length : Int) ≥ 0 by omega), if_pos (Int.le_refl (f.length : Int)), if_true]
    refine Ev.bind (sameI_ev _ hPl) ?_
    simp only [if_true, beq_self_eq_true]
    exact Ev.now _
  | cons t r ih =>
    intro pre p e hp hr
    have hlt : (pre.length : Int) < (f.length : Int) := by rw [e, mid_len]; omega
    have hpe : ((pre ++ [t]).length : Int) = (pre.length : Int) + 1 := by simp
    have hw : wrap64 ((pre.length : Int) + 1) = ((pre ++ [t]).length : Int) := mid_wrap (pre := pre) (rest := r) (x := t) (by rw [← e, maxLen_eq]; omega)
    have hrd : rd_T46 f (pre.length : Int) = t := by rw [e]; simp [rd_T46, List.getD_eq_getElem?_getD]
    have hex := iExec_ev p t.f0 t.f1 (okP_pgN hp)
    simp only [runV] at hr
    by_cases hb : (exec p t.f0 t.f1).2 = true
    · rw [if_pos hb] at hr
      have hbd := (runV_bd r (exec p t.f0 t.f1).1 ((pre.length : Int) + 1)).1
      rw [hr] at hbd
      refine Ev.up ?_
      simp only [laws_FnRuns7.l0, if_pos (show (pre.length : Int) < N by omega), mid_nn, if_true, if_pos hlt, hrd, hw]
      refine Ev.bind hex ?_
      simp only [tupB, hb, if_true]
      exact ih (pre ++ [t]) (exec p t.f0 t.f1).1 (by simp [e]) (exec_ok hb) (by rw [hpe]; exact hr)
    · rw [if_neg hb] at hr
      simp only [Prod.mk.injEq] at hr
      obtain ⟨rfl, rfl⟩ := hr
      have hb' : (exec p t.f0 t.f1).2 = false := by simpa using hb
      refine Ev.up ?_
      simp only [laws_FnRuns7.l0, Int.lt_irrefl, if_false, if_pos hlt, mid_nn, if_true, hrd]
      refine Ev.bind hex ?_
      simp only [tupB, hb', Bool.false_eq_true, if_false, if_pos (show (pre.length : Int) ≥ 0 by omega), if_pos (show (pre.length : Int) ≤ (f.length : Int) by omega), if_true]
      refine Ev.bind (sameI_ev _ hPl) ?_
      simp only [if_true, beq_self_eq_true]
      exact Ev.now _
end Go.Proofs.Ytpickbenfkcpmaa.Pure
namespace Go.Proofs.Ytpickbenfkcpmaa.Pure
open Go.RowKit Go.Proofs.Ytpickbenfkcpmaa.QFnRuns7 Go.Proofs.YtpickbenfkcpmaaW.PrintWords Go.Proofs.YtpickbenfkcpmaaW.PrintLast Go.Proofs.Ytpickbenfkcpmaa.Plain

/-! Draws of tokens: they answer, and they are short -/
theorem pickS_ok (b : List Int) (i h : Int) (l : List ByteArray) (hn : 0 < l.length) (hn2 : l.length ≤ 256) (hb : (b.length : Int) ≤ 1048576) (h0 : 0 ≤ i) (h1 : i ≤ 1048576) : ∃ v i' h', spec_l01Pick.f b i h l = some (v, i', h') ∧ 0 ≤ i' ∧ i' ≤ 1048576 := by
  obtain ⟨v, i', h', e, g0, g1, g2, g3⟩ := below_ok b i h l.length (by omega) (by omega) hb h0 h1
  unfold spec_l01Pick.f
  rw [e]
  simp only [Option.bind_some, if_pos g0, if_pos g1]
  exact ⟨_, _, _, rfl, g2, g3⟩
theorem token_ok (b : List Int) (i h : Int) (hb : (b.length : Int) ≤ 1048576) (h0 : 0 ≤ i) (h1 : i ≤ 1048576) : ∃ a n i' h', spec_l04Token.f b i h = some (a, n, i', h') ∧ 0 ≤ i' ∧ i' ≤ 1048576 := by
  obtain ⟨o, i1, g1, e1, a1, b1⟩ := once_ok b i h 2 (by omega) (by omega) hb h0 h1
  unfold spec_l04Token.f
  rw [e1]
  simp only [Option.bind_some]
  cases o with
  | true =>
    obtain ⟨v, i2, g2, e2, _, _, a2, b2⟩ := below_ok b i1 g1 33 (by omega) (by omega) hb a1 b1
    obtain ⟨u, i3, g3, e3, _, _, a3, b3⟩ := below_ok b i2 g2 33 (by omega) (by omega) hb a2 b2
    obtain ⟨z, i4, g4, e4, _, a4, b4⟩ := pick_ok b i3 g3 [0, 8, v, u, (-4)] (by simp) (by simp) hb a3 b3
    simp only [if_true, e2, Option.bind_some, e3, e4]
    exact ⟨_, _, _, _, rfl, a4, b4⟩
  | false =>
    simp only [Bool.false_eq_true, if_false, spec_l04Names.f, Option.bind_some]
    obtain ⟨z, i4, g4, e4, a4, b4⟩ := pickS_ok b i1 g1 [(⟨#[109, 111, 118, 101, 116, 111]⟩ : ByteArray), (⟨#[108, 105, 110, 101, 116, 111]⟩ : ByteArray), (⟨#[102, 105, 108, 108]⟩ : ByteArray), (⟨#[103, 114, 97, 121]⟩ : ByteArray), (⟨#[114, 101, 99, 116]⟩ : ByteArray), (⟨#[115, 97, 118, 101]⟩ : ByteArray), (⟨#[114, 101, 115, 116, 111, 114, 101]⟩ : ByteArray), (⟨#[115, 104, 105, 102, 116]⟩ : ByteArray), (⟨#[116, 117, 114, 110]⟩ : ByteArray), (⟨#[115, 99, 97, 108, 101]⟩ : ByteArray), (⟨#[99, 108, 105, 112]⟩ : ByteArray), (⟨#[97, 100, 100]⟩ : ByteArray), (⟨#[115, 117, 98]⟩ : ByteArray), (⟨#[100, 117, 112]⟩ : ByteArray), (⟨#[112, 111, 112]⟩ : ByteArray), (⟨#[101, 120, 99, 104]⟩ : ByteArray), (⟨#[110, 101, 119]⟩ : ByteArray)] (by simp) (by simp) hb a1 b1
    rw [e4]
    exact ⟨_, _, _, _, rfl, a4, b4⟩
theorem blocksL_ok (b : List Int) (hb : (b.length : Int) ≤ 1048576) (d : Int) (B : Nat) (hB : B ≤ 1000)
    (sub : d > 0 → ∀ i h : Int, 0 ≤ i → i ≤ 1048576 → ∃ l i' h', l.length ≤ B ∧ 0 ≤ i' ∧ i' ≤ 1048576 ∧ Ev (fun k => spec_l06Blocks.f k b i h (wrap64 (d - 1))) (l, i', h')) (n : Int) (hn : n ≤ 4) :
    ∀ (m : Nat) (s : List S46) (x i h : Int), (n - x).toNat = m → 0 ≤ x → s.length + m * (B + 3) ≤ 10000 → 0 ≤ i → i ≤ 1048576 → ∃ l i' h', l.length ≤ s.length + m * (B + 3) ∧ 0 ≤ i' ∧ i' ≤ 1048576 ∧ Ev (fun k => spec_l06Blocks.l0 k d s n x b i h) (l, i', h')
  | 0, s, x, i, h, hm, hx, hs, h0, h1 => by
    refine ⟨s, i, h, by omega, h0, h1, Ev.up ?_⟩
    simp only [spec_l06Blocks.l0, if_neg (show ¬ x < n by omega)]
    exact Ev.now _
  | m + 1, s, x, i, h, hm, hx, hs, h0, h1 => by
    rw [Nat.succ_mul] at hs ⊢
    have hw : wrap64 (x + 1) = x + 1 := wrap_id (by omega) (by omega)
    have step : ∀ (o : Bool) (i h : Int), (o = true → d > 0) → 0 ≤ i → i ≤ 1048576 → ∃ l i' h', l.length ≤ s.length + (m * (B + 3) + (B + 3)) ∧ 0 ≤ i' ∧ i' ≤ 1048576 ∧ Ev (fun k => spec_l06Blocks.j1 k d s n x o b i h) (l, i', h') := by
      intro o i h ho h0 h1
      cases o with
      | true =>
        obtain ⟨v, i1, g1, e1, _, _, a1, b1⟩ := below_ok b i h 4 (by omega) (by omega) hb h0 h1
        obtain ⟨y, i2, g2, hy, a2, b2, e2⟩ := sub (ho rfl) i1 g1 a1 b1
        obtain ⟨l, i', h', c1, c2, c3, c4⟩ := blocksL_ok b hb d B hB sub n hn m (((s ++ [(⟨(⟨#[]⟩ : ByteArray), v⟩ : S46), (⟨(⟨#[114, 101, 112, 101, 97, 116]⟩ : ByteArray), 0⟩ : S46)]) ++ y) ++ [(⟨(⟨#[101, 110, 100]⟩ : ByteArray), 0⟩ : S46)]) (x + 1) i2 g2 (by omega) (by omega) (by simp only [List.length_append, List.length_cons, List.length_nil]; omega) a2 b2
        refine ⟨l, i', h', by simp only [List.length_append, List.length_cons, List.length_nil] at c1; omega, c2, c3, Ev.up ?_⟩
        simp only [spec_l06Blocks.j1, if_true, e1, Option.bind_some, List.length_cons, List.length_nil, if_pos (show s.length + (0 + 1 + 1) < 5864062014805 by omega)]
        refine Ev.bind e2 ?_
        simp only [List.length_append, List.length_cons, List.length_nil, if_pos (show s.length + (0 + 1 + 1) + y.length < 5864062014805 by omega), Option.bind_some, hw]
        exact c4
      | false =>
        obtain ⟨u, v, i1, g1, e1, a1, b1⟩ := token_ok b i h hb h0 h1
        obtain ⟨l, i', h', c1, c2, c3, c4⟩ := blocksL_ok b hb d B hB sub n hn m (s ++ [(⟨u, v⟩ : S46)]) (x + 1) i1 g1 (by omega) (by omega) (by simp only [List.length_append, List.length_cons, List.length_nil]; omega) a1 b1
        refine ⟨l, i', h', by simp only [List.length_append, List.length_cons, List.length_nil] at c1; omega, c2, c3, Ev.up ?_⟩
        simp only [spec_l06Blocks.j1, Bool.false_eq_true, if_false, e1, Option.bind_some, if_pos (show s.length < 5864062014805 by omega), hw]
        exact c4
    by_cases hd : d > 0
    · obtain ⟨o, i1, g1, e1, a1, b1⟩ := once_ok b i h 4 (by omega) (by omega) hb h0 h1
      obtain ⟨l, i', h', c1, c2, c3, c4⟩ := step o i1 g1 (fun _ => hd) a1 b1
      refine ⟨l, i', h', c1, c2, c3, Ev.up ?_⟩
      simp only [spec_l06Blocks.l0, if_pos (show x < n by omega), if_pos hd, e1, Option.bind_some]
      exact c4
    · obtain ⟨l, i', h', c1, c2, c3, c4⟩ := step false i h (fun z => by cases z) h0 h1
      refine ⟨l, i', h', c1, c2, c3, Ev.up ?_⟩
      simp only [spec_l06Blocks.l0, if_pos (show x < n by omega), if_neg hd]
      exact c4
theorem blocksS_ok (b : List Int) (hb : (b.length : Int) ≤ 1048576) (d : Int) (B : Nat) (hB : B ≤ 1000)
    (sub : d > 0 → ∀ i h : Int, 0 ≤ i → i ≤ 1048576 → ∃ l i' h', l.length ≤ B ∧ 0 ≤ i' ∧ i' ≤ 1048576 ∧ Ev (fun k => spec_l06Blocks.f k b i h (wrap64 (d - 1))) (l, i', h')) (i h : Int) (h0 : 0 ≤ i) (h1 : i ≤ 1048576) :
    ∃ l i' h', l.length ≤ 4 * (B + 3) ∧ 0 ≤ i' ∧ i' ≤ 1048576 ∧ Ev (fun k => spec_l06Blocks.f k b i h d) (l, i', h') := by
  obtain ⟨v, i1, g1, e1, v0, v1, a1, b1⟩ := below_ok b i h 5 (by omega) (by omega) hb h0 h1
  have hmul : v.toNat * (B + 3) ≤ 4 * (B + 3) := Nat.mul_le_mul_right _ (by omega)
  obtain ⟨l, i', h', c1, c2, c3, c4⟩ := blocksL_ok b hb d B hB sub v (by omega) v.toNat [] 0 i1 g1 (by simp) (by omega) (by simp only [List.length_nil]; omega) a1 b1
  refine ⟨l, i', h', by simp only [List.length_nil] at c1; omega, c2, c3, Ev.up ?_⟩
  simp only [spec_l06Blocks.f, e1, Option.bind_some]
  exact c4
theorem blocks3_ok (b : List Int) (hb : (b.length : Int) ≤ 1048576) (i h : Int) (h0 : 0 ≤ i) (h1 : i ≤ 1048576) :
    ∃ l i' h', l.length ≤ 1020 ∧ 0 ≤ i' ∧ i' ≤ 1048576 ∧ Ev (fun k => spec_l06Blocks.f k b i h 3) (l, i', h') := by
  have s0 := blocksS_ok b hb 0 0 (by omega) (fun z => by omega)
  have s1 := blocksS_ok b hb 1 12 (by omega) (fun _ => by rw [show wrap64 ((1 : Int) - 1) = 0 from wrap_id (by omega) (by omega)]; exact s0)
  have s2 := blocksS_ok b hb 2 60 (by omega) (fun _ => by rw [show wrap64 ((2 : Int) - 1) = 1 from wrap_id (by omega) (by omega)]; exact s1)
  have s3 := blocksS_ok b hb 3 252 (by omega) (fun _ => by rw [show wrap64 ((3 : Int) - 1) = 2 from wrap_id (by omega) (by omega)]; exact s2)
  exact s3 i h h0 h1
def Dr (F : Nat → Option (List S46 × Int × Int)) : Prop := ∃ l i h, l.length ≤ 5000 ∧ Ev F (l, i, h)
theorem anyL_ok (b : List Int) (hb : (b.length : Int) ≤ 1048576) : ∀ (m : Nat) (s : List S46) (x i h : Int), (4 - x).toNat = m → 0 ≤ x → s.length + 3 * m ≤ 5000 → 0 ≤ i → i ≤ 1048576 → Dr fun k => spec_l06Any.l0 k s x b i h
  | 0, s, x, i, h, hm, hx, hs, h0, h1 => by
    obtain ⟨v, i1, g1, e1, v0, v1, a1, b1⟩ := below_ok b i h 2 (by omega) (by omega) hb h0 h1
    have hw : wrap64 (3 + v) = 3 + v := wrap_id (by omega) (by omega)
    refine ⟨s, i1, g1, by omega, Ev.up ?_⟩
    simp only [spec_l06Any.l0, e1, Option.bind_some, hw, if_neg (show ¬ x < 3 + v by omega)]
    exact Ev.now _
  | m + 1, s, x, i, h, hm, hx, hs, h0, h1 => by
    obtain ⟨v, i1, g1, e1, v0, v1, a1, b1⟩ := below_ok b i h 2 (by omega) (by omega) hb h0 h1
    have hw : wrap64 (3 + v) = 3 + v := wrap_id (by omega) (by omega)
    have hw2 : wrap64 (x + 1) = x + 1 := wrap_id (by omega) (by omega)
    by_cases c : x < 3 + v
    · obtain ⟨l, i', h', c1, c4⟩ := anyL_ok b hb m ([(⟨(⟨#[]⟩ : ByteArray), 9⟩ : S46), (⟨(⟨#[114, 101, 112, 101, 97, 116]⟩ : ByteArray), 0⟩ : S46)] ++ (s ++ [(⟨(⟨#[101, 110, 100]⟩ : ByteArray), 0⟩ : S46)])) (x + 1) i1 g1 (by omega) (by omega) (by simp only [List.length_append, List.length_cons, List.length_nil]; omega) a1 b1
      refine ⟨l, i', h', c1, Ev.up ?_⟩
      simp only [spec_l06Any.l0, e1, Option.bind_some, hw, if_pos c, if_pos (show s.length < 5864062014805 by omega), List.length_append, List.length_cons, List.length_nil, if_pos (show 0 + 1 + 1 + (s.length + (0 + 1)) < 5864062014805 by omega), hw2]
      exact c4
    · refine ⟨s, i1, g1, by omega, Ev.up ?_⟩
      simp only [spec_l06Any.l0, e1, Option.bind_some, hw, if_neg c]
      exact Ev.now _
theorem any_ok (b : List Int) (hb : (b.length : Int) ≤ 1048576) (i h : Int) (h0 : 0 ≤ i) (h1 : i ≤ 1048576) : Dr fun k => spec_l06Any.f k b i h := by
  obtain ⟨l, i1, g1, hl, a1, b1, e1⟩ := blocks3_ok b hb i h h0 h1
  obtain ⟨v, i2, g2, e2, v0, v1, a2, b2⟩ := below_ok b i1 g1 12 (by omega) (by omega) hb a1 b1
  have key : Dr fun k => if v = 0 then ((spec_l01Pick.f b i2 g2 (([(⟨#[101, 110, 100]⟩ : ByteArray), (⟨#[114, 101, 112, 101, 97, 116]⟩ : ByteArray)] : List ByteArray))).bind fun bt204 => (if l.length < 5864062014805 then (some ((l ++ [(⟨bt204.1, 0⟩ : S46)]), bt204.2.1, bt204.2.2)) else (none))) else (if v = 1 then ((spec_l01PickInt.f b i2 g2 (([10, 9, (-1)] : List Int))).bind fun bt213 => ((some (([(⟨(⟨#[]⟩ : ByteArray), bt213.1⟩ : S46), (⟨(⟨#[114, 101, 112, 101, 97, 116]⟩ : ByteArray), 0⟩ : S46), (⟨(⟨#[]⟩ : ByteArray), 1⟩ : S46), (⟨(⟨#[101, 110, 100]⟩ : ByteArray), 0⟩ : S46)] : List (S46)) : List (S46))).bind fun y216 => (if l.length + y216.length < 5864062014805 then (some ((l ++ y216), bt213.2.1, bt213.2.2)) else (none)))) else (if v = 2 then (spec_l06Any.l0 k l 0 b i2 g2) else (some (l, i2, g2)))) := by
    by_cases c0 : v = 0
    · obtain ⟨z, i3, g3, e3, _, _⟩ := pickS_ok b i2 g2 [(⟨#[101, 110, 100]⟩ : ByteArray), (⟨#[114, 101, 112, 101, 97, 116]⟩ : ByteArray)] (by simp) (by simp) hb a2 b2
      refine ⟨l ++ [⟨z, 0⟩], i3, g3, by simp; omega, ?_⟩
      simp only [if_pos c0, e3, Option.bind_some, if_pos (show l.length < 5864062014805 by omega)]
      exact Ev.now _
    by_cases c1 : v = 1
    · obtain ⟨z, i3, g3, e3, _, _, _⟩ := pick_ok b i2 g2 [10, 9, (-1)] (by simp) (by simp) hb a2 b2
      refine ⟨l ++ [⟨⟨#[]⟩, z⟩, ⟨⟨#[114, 101, 112, 101, 97, 116]⟩, 0⟩, ⟨⟨#[]⟩, 1⟩, ⟨⟨#[101, 110, 100]⟩, 0⟩], i3, g3, by simp; omega, ?_⟩
      simp only [if_neg c0, if_pos c1, e3, Option.bind_some, List.length_cons, List.length_nil, if_pos (show l.length + (0 + 1 + 1 + 1 + 1) < 5864062014805 by omega)]
      exact Ev.now _
    by_cases c2 : v = 2
    · obtain ⟨y, i3, g3, hy, e3⟩ := anyL_ok b hb 4 l 0 i2 g2 (by omega) (by omega) (by omega) a2 b2
      refine ⟨y, i3, g3, hy, ?_⟩
      simp only [if_neg c0, if_neg c1, if_pos c2]
      exact e3
    · refine ⟨l, i2, g2, by omega, ?_⟩
      simp only [if_neg c0, if_neg c1, if_neg c2]
      exact Ev.now _
  obtain ⟨y, i3, g3, hy, e3⟩ := key
  refine ⟨y, i3, g3, hy, ?_⟩
  simp only [spec_l06Any.f]
  refine Ev.bind e1 ?_
  simp only [e2, Option.bind_some]
  exact e3
theorem tokens_ok (b : List Int) (hb : (b.length : Int) ≤ 1048576) : ∀ (m : Nat) (s : List S46) (x i h : Int), (5 - x).toNat = m → 0 ≤ x → s.length + 20 * m ≤ 5000 → 0 ≤ i → i ≤ 1048576 → Dr fun k => spec_l07Tokens.l0 k s x b i h
  | m, s, x, i, h, hm, hx, hs, h0, h1 => by
    obtain ⟨v, i1, g1, e1, v0, v1, a1, b1⟩ := below_ok b i h 5 (by omega) (by omega) hb h0 h1
    have hw : wrap64 (1 + v) = 1 + v := wrap_id (by omega) (by omega)
    have hs8 : s.length < 5864062014805 := by omega
    have out : Dr fun k => spec_l07Tokens.j1 k s x false b i1 g1 := by
      refine ⟨s, i1, g1, by omega, Ev.up ?_⟩
      simp only [spec_l07Tokens.j1, Bool.false_eq_true, if_false]
      exact Ev.now _
    by_cases c : x < 1 + v
    case neg =>
      obtain ⟨l, i', h', c1, c4⟩ := out
      refine ⟨l, i', h', c1, Ev.up ?_⟩
      simp only [spec_l07Tokens.l0, e1, Option.bind_some, hw, if_neg c]
      exact c4
    have hw2 : wrap64 (x + 1) = x + 1 := wrap_id (by omega) (by omega)
    obtain ⟨m, rfl⟩ : ∃ m', m = m' + 1 := ⟨m - 1, by omega⟩
    have next : ∀ (t : List S46) (i h : Int), t.length ≤ s.length + 20 → 0 ≤ i → i ≤ 1048576 → Dr fun k => spec_l07Tokens.l0 k t (wrap64 (x + 1)) b i h := fun t i h ht h0 h1 => by
      rw [hw2]
      exact tokens_ok b hb m t (x + 1) i h (by omega) (by omega) (by omega) h0 h1
    have lines : ∀ (n : Int) (hn : n ≤ 5) (q : Nat) (t : List S46) (y i h : Int), (n - y).toNat = q → 0 ≤ y → t.length + 3 * q ≤ s.length + 15 → 0 ≤ i → i ≤ 1048576 → Dr fun k => spec_l07Tokens.l1 k t x n y b i h := by
      intro n hn q
      induction q with
      | zero =>
        intro t y i h hq hy ht h0 h1
        obtain ⟨l, i', h', c1, c4⟩ := next (t ++ [⟨⟨#[102, 105, 108, 108]⟩, 0⟩]) i h (by simp; omega) h0 h1
        refine ⟨l, i', h', c1, Ev.up ?_⟩
        simp only [spec_l07Tokens.l1, if_neg (show ¬ y < n by omega), if_pos (show t.length < 5864062014805 by omega)]
        exact c4
      | succ q ih =>
        intro t y i h hq hy ht h0 h1
        obtain ⟨p1, i1, g1, e1, _, _, a1, b1⟩ := below_ok b i h 33 (by omega) (by omega) hb h0 h1
        obtain ⟨p2, i2, g2, e2, _, _, a2, b2⟩ := below_ok b i1 g1 33 (by omega) (by omega) hb a1 b1
        have hw3 : wrap64 (y + 1) = y + 1 := wrap_id (by omega) (by omega)
        by_cases c0 : y = 0
        · obtain ⟨l, i', h', c1, c4⟩ := ih (t ++ [⟨⟨#[]⟩, p1⟩, ⟨⟨#[]⟩, p2⟩, ⟨⟨#[109, 111, 118, 101, 116, 111]⟩, 0⟩]) (y + 1) i2 g2 (by omega) (by omega) (by simp; omega) a2 b2
          refine ⟨l, i', h', c1, Ev.up ?_⟩
          simp only [spec_l07Tokens.l1, if_pos (show y < n by omega), e1, e2, Option.bind_some, spec_l06First.f, if_pos c0, List.length_cons, List.length_nil, if_pos (show (0 : Int) ≤ 1 by omega), if_pos (show (1 : Int) < ((0 + 1 + 1 : Nat) : Int) by omega), if_pos (show t.length + (0 + 1 + 1 + 1) < 5864062014805 by omega), hw3]
          exact c4
        · obtain ⟨l, i', h', c1, c4⟩ := ih (t ++ [⟨⟨#[]⟩, p1⟩, ⟨⟨#[]⟩, p2⟩, ⟨⟨#[108, 105, 110, 101, 116, 111]⟩, 0⟩]) (y + 1) i2 g2 (by omega) (by omega) (by simp; omega) a2 b2
          refine ⟨l, i', h', c1, Ev.up ?_⟩
          simp only [spec_l07Tokens.l1, if_pos (show y < n by omega), e1, e2, Option.bind_some, spec_l06First.f, if_neg c0, List.length_cons, List.length_nil, if_pos (Int.le_refl 0), if_pos (show (0 : Int) < ((0 + 1 + 1 : Nat) : Int) by omega), if_pos (show t.length + (0 + 1 + 1 + 1) < 5864062014805 by omega), hw3]
          exact c4
    have h3 : ∀ (u : Int) (i h : Int), 0 ≤ i → i ≤ 1048576 → ∀ o, Dr fun k => spec_l07Tokens.j3 k s x u o b i h := by
      intro u i h h0 h1 o
      cases o with
      | true =>
        obtain ⟨p1, i1, g1, e1, w0, w1, a1, b1⟩ := below_ok b i h 3 (by omega) (by omega) hb h0 h1
        have hw3 : wrap64 (3 + p1) = 3 + p1 := wrap_id (by omega) (by omega)
        obtain ⟨l, i', h', c1, c4⟩ := lines (3 + p1) (by omega) (3 + p1).toNat s 0 i1 g1 (by omega) (by omega) (by omega) a1 b1
        refine ⟨l, i', h', c1, Ev.up ?_⟩
        simp only [spec_l07Tokens.j3, if_true, e1, Option.bind_some, hw3]
        exact c4
      | false =>
        by_cases c5 : u = 5
        · obtain ⟨z, i1, g1, e1, a1, b1⟩ := pickS_ok b i h [(⟨#[115, 97, 118, 101]⟩ : ByteArray), (⟨#[114, 101, 115, 116, 111, 114, 101]⟩ : ByteArray), (⟨#[110, 101, 119]⟩ : ByteArray)] (by simp) (by simp) hb h0 h1
          obtain ⟨l, i', h', c1, c4⟩ := next (s ++ [⟨z, 0⟩]) i1 g1 (by simp) a1 b1
          refine ⟨l, i', h', c1, Ev.up ?_⟩
          simp only [spec_l07Tokens.j3, Bool.false_eq_true, if_false, if_pos c5, e1, Option.bind_some, if_pos hs8]
          exact c4
        · obtain ⟨p1, i1, g1, e1, _, _, a1, b1⟩ := below_ok b i h 5 (by omega) (by omega) hb h0 h1
          obtain ⟨p2, i2, g2, e2, _, _, a2, b2⟩ := below_ok b i1 g1 5 (by omega) (by omega) hb a1 b1
          obtain ⟨l, i', h', c1, c4⟩ := next (s ++ [⟨⟨#[]⟩, p1⟩, ⟨⟨#[]⟩, p2⟩, ⟨⟨#[115, 104, 105, 102, 116]⟩, 0⟩]) i2 g2 (by simp) a2 b2
          refine ⟨l, i', h', c1, Ev.up ?_⟩
          simp only [spec_l07Tokens.j3, Bool.false_eq_true, if_false, if_neg c5, e1, e2, Option.bind_some, List.length_cons, List.length_nil, if_pos (show s.length + (0 + 1 + 1 + 1) < 5864062014805 by omega)]
          exact c4
    have h2 : ∀ (u : Int) (i h : Int), 0 ≤ i → i ≤ 1048576 → ∀ o, Dr fun k => spec_l07Tokens.j2 k s x u o b i h := by
      intro u i h h0 h1 o
      cases o with
      | true =>
        obtain ⟨p1, i1, g1, e1, _, _, a1, b1⟩ := below_ok b i h 28 (by omega) (by omega) hb h0 h1
        obtain ⟨p2, i2, g2, e2, _, _, a2, b2⟩ := below_ok b i1 g1 28 (by omega) (by omega) hb a1 b1
        obtain ⟨p3, i3, g3, e3, _, _, a3, b3⟩ := below_ok b i2 g2 14 (by omega) (by omega) hb a2 b2
        obtain ⟨p4, i4, g4, e4, _, _, a4, b4⟩ := below_ok b i3 g3 14 (by omega) (by omega) hb a3 b3
        obtain ⟨z, i5, g5, e5, a5, b5⟩ := pickS_ok b i4 g4 [(⟨#[102, 105, 108, 108]⟩ : ByteArray), (⟨#[102, 105, 108, 108]⟩ : ByteArray), (⟨#[102, 105, 108, 108]⟩ : ByteArray), (⟨#[99, 108, 105, 112]⟩ : ByteArray)] (by simp) (by simp) hb a4 b4
        obtain ⟨l, i', h', c1, c4⟩ := next ((s ++ [⟨⟨#[]⟩, p1⟩, ⟨⟨#[]⟩, p2⟩, ⟨⟨#[]⟩, wrap64 (1 + p3)⟩, ⟨⟨#[]⟩, wrap64 (1 + p4)⟩]) ++ [⟨⟨#[114, 101, 99, 116]⟩, 0⟩, ⟨z, 0⟩]) i5 g5 (by simp) a5 b5
        refine ⟨l, i', h', c1, Ev.up ?_⟩
        simp only [spec_l07Tokens.j2, if_true, e1, e2, e3, e4, e5, Option.bind_some, List.length_append, List.length_cons, List.length_nil, if_pos (show s.length + (0 + 1 + 1 + 1 + 1) < 5864062014805 by omega), if_pos (show s.length + (0 + 1 + 1 + 1 + 1) + (0 + 1 + 1) < 5864062014805 by omega)]
        exact c4
      | false =>
        by_cases c3 : u = 3
        · obtain ⟨l, i', h', c1, c4⟩ := h3 u i h h0 h1 (u == 3)
          refine ⟨l, i', h', c1, Ev.up ?_⟩
          simp only [spec_l07Tokens.j2, Bool.false_eq_true, if_false, if_pos c3]
          exact c4
        · obtain ⟨l, i', h', c1, c4⟩ := h3 u i h h0 h1 (u == 4)
          refine ⟨l, i', h', c1, Ev.up ?_⟩
          simp only [spec_l07Tokens.j2, Bool.false_eq_true, if_false, if_neg c3]
          exact c4
    have h4 : ∀ o, Dr fun k => spec_l07Tokens.j1 k s x o b i1 g1 := by
      intro o
      cases o with
      | false => exact out
      | true =>
        obtain ⟨u, i2, g2, e2, _, _, a2, b2⟩ := below_ok b i1 g1 7 (by omega) (by omega) hb a1 b1
        by_cases c0 : u = 0
        · obtain ⟨p1, i3, g3, e3, _, _, a3, b3⟩ := below_ok b i2 g2 256 (by omega) (by omega) hb a2 b2
          obtain ⟨l, i', h', c1, c4⟩ := next (s ++ [⟨⟨#[]⟩, p1⟩, ⟨⟨#[103, 114, 97, 121]⟩, 0⟩]) i3 g3 (by simp) a3 b3
          refine ⟨l, i', h', c1, Ev.up ?_⟩
          simp only [spec_l07Tokens.j1, if_true, e2, e3, if_pos c0, Option.bind_some, List.length_cons, List.length_nil, if_pos (show s.length + (0 + 1 + 1) < 5864062014805 by omega)]
          exact c4
        · by_cases c1 : u = 1
          · obtain ⟨l, i', h', d1, d4⟩ := h2 u i2 g2 a2 b2 (u == 1)
            refine ⟨l, i', h', d1, Ev.up ?_⟩
            simp only [spec_l07Tokens.j1, if_true, e2, Option.bind_some, if_neg c0, if_pos c1]
            exact d4
          · obtain ⟨l, i', h', d1, d4⟩ := h2 u i2 g2 a2 b2 (u == 2)
            refine ⟨l, i', h', d1, Ev.up ?_⟩
            simp only [spec_l07Tokens.j1, if_true, e2, Option.bind_some, if_neg c0, if_neg c1]
            exact d4
    obtain ⟨l, i', h', d1, d4⟩ := h4 (decide ((s.length : Int) < 40))
    refine ⟨l, i', h', d1, Ev.up ?_⟩
    simp only [spec_l07Tokens.l0, e1, Option.bind_some, hw, if_pos c]
    exact d4
termination_by m => m
theorem drawRun_ok (b : List Int) (hb : (b.length : Int) ≤ 1048576) : ∃ l, l.length ≤ 5000 ∧ Ev (fun k => spec_DrawRunPage.f k b) l := by
  obtain ⟨h0, e0⟩ := new_ok b hb
  obtain ⟨o, i1, g1, e1, a1, b1⟩ := once_ok b 0 h0 3 (by omega) (by omega) hb (by omega) (by omega)
  cases o with
  | true =>
    obtain ⟨l, i2, g2, hl, e2⟩ := any_ok b hb i1 g1 a1 b1
    refine ⟨l, hl, ?_⟩
    simp only [spec_DrawRunPage.f]
    refine Ev.bind e0 ?_
    simp only [e1, Option.bind_some, if_true]
    exact Ev.bind e2 (Ev.now _)
  | false =>
    obtain ⟨l, i2, g2, hl, e2⟩ := tokens_ok b hb 5 [] 0 i1 g1 (by omega) (by omega) (by simp) a1 b1
    refine ⟨l, hl, ?_⟩
    simp only [spec_DrawRunPage.f]
    refine Ev.bind e0 ?_
    simp only [e1, Option.bind_some, Bool.false_eq_true, if_false, spec_l07Tokens.f]
    exact Ev.bind e2 (Ev.now _)
theorem FnRuns7 (l : List Int) (h : l.length ≤ maxLen ∧ ∀ y ∈ l, ((Lit.int .u8 y).wf = true)) : ∃ k, laws_FnRuns7.f k l = some true := by
  refine Ev.rounds (g := fun k => laws_FnRuns7.f k l) ?_
  simp only [laws_FnRuns7.f, laws_big.f, Option.bind_some]
  by_cases c : (l.length : Int) > 1048576
  · simp only [decide_eq_true c, if_true]; exact Ev.now _
  · simp only [decide_eq_false c, Bool.false_eq_true, if_false]
    obtain ⟨t, ht, hD⟩ := drawRun_ok l (by omega)
    have hm : t.length ≤ maxLen := by rw [maxLen_eq]; omega
    refine Ev.bind hD (Ev.bind (iRunPage_ev t hm) (Ev.bind (iFlatten_ev t hm) ?_))
    have hfl := flattenV_len t
    unfold runPageV
    generalize flattenV t = Z at hfl ⊢
    obtain ⟨f, b⟩ := Z
    simp only at hfl ⊢
    cases b with
    | false => simp only [Bool.false_eq_true, if_false]; exact Ev.now _
    | true =>
      simp only [if_true]
      have hok := runV_ok f page0 0 page0_ok
      have hbd := runV_bd f page0 0
      have main := runs7_loop f (runV page0 0 f).1 (runV page0 0 f).2 hfl hok f [] page0 rfl page0_ok rfl
      generalize runV page0 0 f = R at hok hbd main ⊢
      obtain ⟨P, N⟩ := R
      simp only [tupI] at hok hbd main ⊢
      simp only [if_neg (show ¬ N < 0 by omega), decide_eq_false (show ¬ N > (f.length : Int) by omega)]
      refine Ev.up ?_
      simp only [laws_FnRuns7.j0, Bool.false_eq_true, if_false, iNewPage_eq, Option.bind_some]
      exact main
end Go.Proofs.Ytpickbenfkcpmaa.Pure
