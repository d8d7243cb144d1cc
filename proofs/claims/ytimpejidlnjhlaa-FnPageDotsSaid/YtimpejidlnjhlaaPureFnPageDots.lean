/- The plain law of FnPageDots: over numbers and lists, what the printed functions answer, and that the law answers true. -/
import Derived.Test.YtimpejidlnjhlaaQFnPageDotsx9
import Derived.Test.YtimpejidlnjhlaaPlain
set_option linter.unusedSimpArgs false
set_option linter.unusedVariables false
namespace Go.Proofs.Ytimpejidlnjhlaa.Pure
open Go.RowKit Go.Proofs.Ytimpejidlnjhlaa.QFnPageDots Go.Proofs.YtimpejidlnjhlaaW.PrintWords Go.Proofs.YtimpejidlnjhlaaW.PrintLast Go.Proofs.Ytimpejidlnjhlaa.Plain

end Go.Proofs.Ytimpejidlnjhlaa.Pure
namespace Go.Proofs.Ytimpejidlnjhlaa.Pure
open Go.RowKit Go.Proofs.Ytimpejidlnjhlaa.QFnPageDots Go.Proofs.YtimpejidlnjhlaaW.PrintWords Go.Proofs.YtimpejidlnjhlaaW.PrintLast Go.Proofs.Ytimpejidlnjhlaa.Plain

end Go.Proofs.Ytimpejidlnjhlaa.Pure
namespace Go.Proofs.Ytimpejidlnjhlaa.Pure
open Go.RowKit Go.Proofs.Ytimpejidlnjhlaa.QFnPageDots Go.Proofs.YtimpejidlnjhlaaW.PrintWords Go.Proofs.YtimpejidlnjhlaaW.PrintLast Go.Proofs.Ytimpejidlnjhlaa.Plain

end Go.Proofs.Ytimpejidlnjhlaa.Pure
namespace Go.Proofs.Ytimpejidlnjhlaa.Pure
open Go.RowKit Go.Proofs.Ytimpejidlnjhlaa.QFnPageDots Go.Proofs.YtimpejidlnjhlaaW.PrintWords Go.Proofs.YtimpejidlnjhlaaW.PrintLast Go.Proofs.Ytimpejidlnjhlaa.Plain

theorem within_eq (a b c : Int) : impl_within.f a b c = some (inB a b c) := by unfold impl_within.f inB; by_cases h : b ≤ a <;> simp [h]
def coord (a : Int) : Bool := inB a (-200) 200
def boxOk (a b c d : Int) : Bool := coord a && (coord b && (coord c && (coord d && (decide (a ≤ c) && decide (b ≤ d)))))
theorem coordOk_eq (a : Int) : impl_coordOk.f a = some (coord a) := by unfold impl_coordOk.f; rw [within_eq]; rfl
theorem iPointOk_eq (a b : Int) : impl_PointOk.f a b = some (coord a && coord b) := by unfold impl_PointOk.f; simp only [coordOk_eq, Option.bind_some, and_some]
theorem iBoxOk_eq (a b c d : Int) : impl_BoxOk.f a b c d = some (boxOk a b c d) := by unfold impl_BoxOk.f boxOk; simp only [coordOk_eq, Option.bind_some, and_some_p (a ≤ c), and_some]
def ptsOk (l : List S166) : Bool := l.all fun p => coord p.f0 && coord p.f1
theorem pointsOk_ev (l : List S166) (hm : l.length ≤ maxLen) : Ev (fun k => impl_pointsOk.f k l) (ptsOk l) := by
  simp only [impl_pointsOk.f]
  refine ev_loop0 l (F := fun k i => impl_pointsOk.l0 k l l.length i) (fun _ r => ptsOk r) ?_ (fun pre x rest e h => ?_)
  · simp only [impl_pointsOk.l0, end_lt, if_false]; exact Ev.now _
  · subst e
    simp only [impl_pointsOk.l0, mid_lt, mid_nn, mid_wrap hm, if_true, rd_T166, Int.toNat_natCast, mid_get, iPointOk_eq, Option.bind_some]
    exact Ev.andB (fun _ => h)
def objOk (l : List S166) (g a b c d : Int) : Bool := decide (3 ≤ (l.length : Int)) && (decide ((l.length : Int) ≤ 8) && (ptsOk l && (inB g 0 255 && boxOk a b c d)))
theorem iObjectOk_ev (l : List S166) (g a b c d : Int) (hm : l.length ≤ maxLen) : Ev (fun k => impl_ObjectOk.f k l g a b c d) (objOk l g a b c d) := by
  simp only [impl_ObjectOk.f, within_eq, iBoxOk_eq, Option.bind_some, and_some]
  unfold objOk
  rw [← Bool.and_assoc]
  exact Ev.andB (fun _ => Ev.bind (pointsOk_ev l hm) (Ev.now _))
def rowOk (l : List Int) : Bool := decide ((l.length : Int) = 32) && l.all fun v => inB v 0 255
def rowsOk (l : List (List Int)) : Bool := decide ((l.length : Int) ≤ 32) && l.all rowOk
theorem rowOk_ev (l : List Int) : Ev (fun k => impl_rowOk.f k l) (rowOk l) := by
  simp only [impl_rowOk.f]
  refine Ev.andP (fun c => ?_)
  have hm : l.length ≤ maxLen := by rw [maxLen_eq]; omega
  clear c
  refine ev_loop0 l (F := fun k i => impl_rowOk.l0 k l l.length i) (fun _ r => r.all fun v => inB v 0 255) ?_ (fun pre x rest e h => ?_)
  · simp only [impl_rowOk.l0, end_lt, if_false]; exact Ev.now _
  · subst e
    simp only [impl_rowOk.l0, mid_lt, mid_nn, mid_wrap hm, if_true, rd, Int.toNat_natCast, mid_get, within_eq, Option.bind_some]
    exact Ev.andB (fun _ => h)
theorem iRowsOk_ev (l : List (List Int)) : Ev (fun k => impl_RowsOk.f k l) (rowsOk l) := by
  simp only [impl_RowsOk.f, rowsOk]
  refine Ev.ite (fun c => Ev.val (by simp; omega)) (fun c => ?_)
  have hm : l.length ≤ maxLen := by rw [maxLen_eq]; omega
  have hd : decide ((l.length : Int) ≤ 32) = true := by simp; omega
  rw [hd, Bool.true_and]
  clear c hd
  refine ev_loop0 l (F := fun k i => impl_RowsOk.l0 k l l.length i) (fun _ r => r.all rowOk) ?_ (fun pre x rest e h => ?_)
  · simp only [impl_RowsOk.l0, end_lt, if_false]; exact Ev.now _
  · subst e
    simp only [impl_RowsOk.l0, mid_lt, mid_nn, mid_wrap hm, if_true, rd_L3, Int.toNat_natCast, mid_get]
    exact Ev.bind (rowOk_ev x) (Ev.andB (fun _ => h))
def cntV (v : Int) : List Int → Int → Int
  | [], s => s
  | x :: r, s => cntV v r (if x = v then wrap64 (s + 1) else s)
def cntVV (v : Int) : List (List Int) → Int → Int
  | [], s => s
  | x :: r, s => cntVV v r (cntV v x s)
theorem iCountValue_in (v j : Int) (xs : List (List Int)) (n : Int) (row : List Int) (r : Int) (hm : row.length ≤ maxLen) (s : Int)
    (H : Ev (fun k => impl_CountValue.l0 k v (cntV v row s) xs n (wrap64 (j + 1))) r) : Ev (fun k => impl_CountValue.l1 k v s xs n j row row.length 0) r := by
  refine ev_loop row (F := fun k s i => impl_CountValue.l1 k v s xs n j row row.length i) (fun _ rest s' => cntV v rest s' = cntV v row s) (fun _ _ _ => r) ?_ ?_ s rfl
  · intro s' hs
    simp only [impl_CountValue.l1, end_lt, if_false]
    have : s' = cntV v row s := hs
    rw [this]
    exact H
  · rintro pre x rest s' e hs ih
    rw [e] at hm
    rw [← hs] at H ih
    clear hs
    subst e
    simp only [impl_CountValue.l1, mid_lt, mid_nn, mid_wrap hm, if_true, rd, Int.toNat_natCast, mid_get]
    by_cases c : x = v
    · simp only [if_pos c]; exact ih _ (by simp [cntV, c])
    · simp only [if_neg c]; exact ih _ (by simp [cntV, c])
theorem iCountValue_ev (v : Int) (l : List (List Int)) (hm : l.length ≤ maxLen) (hx : ∀ x ∈ l, x.length ≤ maxLen) : Ev (fun k => impl_CountValue.f k l v) (cntVV v l 0) := by
  simp only [impl_CountValue.f]
  refine ev_loop l (F := fun k s i => impl_CountValue.l0 k v s l l.length i) (fun _ _ _ => True) (fun _ r s => cntVV v r s) ?_ ?_ _ trivial
  · intro s _; simp only [impl_CountValue.l0, end_lt, if_false]; exact Ev.now _
  · rintro pre x rest s e _ ih
    have hxx := hx x (by rw [e]; simp)
    subst e
    simp only [impl_CountValue.l0, mid_lt, mid_nn, if_true, rd_L3, Int.toNat_natCast, mid_get, cntVV]
    exact iCountValue_in v _ _ _ x _ hxx s (by simp only [mid_wrap hm]; exact ih _ trivial)
end Go.Proofs.Ytimpejidlnjhlaa.Pure
namespace Go.Proofs.Ytimpejidlnjhlaa.Pure
open Go.RowKit Go.Proofs.Ytimpejidlnjhlaa.QFnPageDots Go.Proofs.YtimpejidlnjhlaaW.PrintWords Go.Proofs.YtimpejidlnjhlaaW.PrintLast Go.Proofs.Ytimpejidlnjhlaa.Plain

abbrev BoxT := Int × Int × Int × Int
theorem mx_self (a : Int) : mx a a = a := by unfold mx; split <;> rfl
theorem mn_self (a : Int) : mn a a = a := by unfold mn; split <;> rfl
theorem mx_comm (a b : Int) : mx a b = mx b a := by unfold mx; omega
theorem mn_comm (a b : Int) : mn a b = mn b a := by unfold mn; omega
def meet (p q : BoxT) : BoxT := if boxOk p.1 p.2.1 p.2.2.1 p.2.2.2 = true ∧ boxOk q.1 q.2.1 q.2.2.1 q.2.2.2 = true ∧ mx p.1 q.1 < mn p.2.2.1 q.2.2.1 ∧ mx p.2.1 q.2.1 < mn p.2.2.2 q.2.2.2 then (mx p.1 q.1, mx p.2.1 q.2.1, mn p.2.2.1 q.2.2.1, mn p.2.2.2 q.2.2.2) else (0, 0, 0, 0)
theorem iMeetBox_j0 (k : Nat) (z : Bool) (a b c d e f g h : Int) : impl_MeetBox.j0 (k + 1) z a b c d e f g h = some (if z = false ∧ mx a e < mn c g ∧ mx b f < mn d h then (mx a e, mx b f, mn c g, mn d h) else (0, 0, 0, 0)) := by
  simp only [impl_MeetBox.j0]
  cases z
  · by_cases c3 : mx a e < mn c g
    · have n3 : ¬ mx a e ≥ mn c g := by omega
      by_cases c4 : mx b f < mn d h
      · have n4 : ¬ mx b f ≥ mn d h := by omega
        simp only [Bool.false_eq_true, if_false, if_neg n3, if_neg n4]
        rw [if_pos ⟨trivial, c3, c4⟩]
      · have n4 : mx b f ≥ mn d h := by omega
        simp only [Bool.false_eq_true, if_false, if_neg n3, if_pos n4]
        rw [if_neg (fun q => c4 q.2.2)]
    · have n3 : mx a e ≥ mn c g := by omega
      simp only [Bool.false_eq_true, if_false, if_pos n3]
      rw [if_neg (fun q => c3 q.2.1)]
  · simp
theorem iMeetBox_ev (a b c d e f g h : Int) : Ev (fun k => impl_MeetBox.f k a b c d e f g h) (meet (a, b, c, d) (e, f, g, h)) := by
  simp only [impl_MeetBox.f, iBoxOk_eq, Option.bind_some]
  unfold meet
  by_cases c1 : boxOk a b c d = true
  · simp only [if_pos c1]
    refine Ev.up ?_
    simp only [iMeetBox_j0]
    refine Ev.val ?_
    by_cases c2 : boxOk e f g h = true
    · simp [c1, c2]
    · simp [c1, c2]
  · simp only [if_neg c1]
    refine Ev.up ?_
    simp only [iMeetBox_j0]
    exact Ev.val (by simp [c1])
def boxFrom : List S166 → BoxT → BoxT
  | [], b => b
  | x :: r, b => boxFrom r (mn b.1 x.f0, mn b.2.1 x.f1, mx b.2.2.1 x.f0, mx b.2.2.2 x.f1)
def boxOf (l : List S166) : BoxT :=
  match l with
  | [] => (0, 0, 0, 0)
  | x :: r => if ptsOk (x :: r) = true then boxFrom r (x.f0, x.f1, x.f0, x.f1) else (0, 0, 0, 0)
theorem iBoxOf_ev (l : List S166) (hm : l.length ≤ maxLen) : Ev (fun k => impl_BoxOf.f k l) (boxOf l) := by
  simp only [impl_BoxOf.f]
  match l, hm with
  | [], hm =>
    simp only [List.length_nil, Int.ofNat_zero, if_true]
    exact Ev.up (by simp only [impl_BoxOf.j0, if_true]; exact Ev.now _)
  | x :: r, hm =>
    have hne : ¬ ((x :: r).length : Int) = 0 := by rw [List.length_cons]; omega
    have hpos : (0 : Int) < ((x :: r).length : Int) := by rw [List.length_cons]; omega
    simp only [if_neg hne]
    refine Ev.bind (pointsOk_ev _ hm) (Ev.up ?_)
    unfold boxOf
    by_cases c : ptsOk (x :: r) = true
    · have hx : rd_T166 (x :: r) 0 = x := rfl
      simp only [c, Bool.not_true, impl_BoxOf.j0, Bool.false_eq_true, if_false, if_pos hpos, hx, if_true]
      have hb : boxFrom r (x.f0, x.f1, x.f0, x.f1) = boxFrom (x :: r) (x.f0, x.f1, x.f0, x.f1) := by simp only [boxFrom, mn_self, mx_self]
      rw [hb]
      generalize hq : x :: r = q at *
      refine ev_loop q (F := fun k (s : BoxT) i => impl_BoxOf.l0 k q q.length i s.1 s.2.1 s.2.2.1 s.2.2.2) (fun _ _ _ => True) (fun _ r s => boxFrom r s) ?_ ?_ (x.f0, x.f1, x.f0, x.f1) trivial
      · intro s _; simp only [impl_BoxOf.l0, end_lt, if_false]; exact Ev.now _
      · rintro pre y rest s e _ ih
        clear hq
        subst e
        simp only [impl_BoxOf.l0, mid_lt, mid_nn, mid_wrap hm, if_true, rd_T166, Int.toNat_natCast, mid_get]
        exact ih (mn s.1 y.f0, mn s.2.1 y.f1, mx s.2.2.1 y.f0, mx s.2.2.2 y.f1) trivial
    · have c' : ptsOk (x :: r) = false := by simpa using c
      simp only [c', Bool.not_false, impl_BoxOf.j0, if_true, Bool.false_eq_true, if_false]; exact Ev.now _
def objBox (l : List S166) (g a b c d : Int) : BoxT := if objOk l g a b c d = true then meet (meet (boxOf l) (a, b, c, d)) (0, 0, 32, 32) else (0, 0, 0, 0)
theorem iObjectBox_ev (l : List S166) (g a b c d : Int) (hm : l.length ≤ maxLen) : Ev (fun k => impl_ObjectBox.f k l g a b c d) (objBox l g a b c d) := by
  simp only [impl_ObjectBox.f]
  unfold objBox
  refine Ev.bind (iObjectOk_ev l g a b c d hm) (Ev.ite (fun c => ?_) (fun c => ?_))
  · rw [if_pos c]
    refine Ev.bind (iBoxOf_ev l hm) (Ev.bind (iMeetBox_ev _ _ _ _ _ _ _ _) ?_)
    simp only [impl_pageBox.f, Option.bind_some]
    exact Ev.bind (iMeetBox_ev _ _ _ _ _ _ _ _) (Ev.now _)
  · rw [if_neg c]; exact Ev.now _
/-- A loop that counts from lo to hi. -/
theorem ev_range {σ β : Type} {F : Nat → σ → Int → Option β} (lo hi : Int) (hlh : lo ≤ hi) (Inv : Int → σ → Prop) (r : β)
    (hnil : ∀ s, Inv hi s → Ev (fun k => F (k + 1) s hi) r)
    (hcons : ∀ i s, lo ≤ i → i < hi → Inv i s → (∀ s', Inv (i + 1) s' → Ev (fun k => F k s' (i + 1)) r) → Ev (fun k => F (k + 1) s i) r) :
    ∀ s, Inv lo s → Ev (fun k => F k s lo) r := by
  have main : ∀ (n : Nat) (i : Int) (s : σ), lo ≤ i → i + n = hi → Inv i s → Ev (fun k => F k s i) r := by
    intro n
    induction n with
    | zero =>
      intro i s h0 h1 hI
      have e : i = hi := by omega
      subst e
      exact Ev.up (hnil s hI)
    | succ n ih =>
      intro i s h0 h1 hI
      exact Ev.up (hcons i s h0 (by omega) hI (fun s' hI' => ih (i + 1) s' (by omega) (by omega) hI'))
  intro s hI
  exact main (hi - lo).toNat lo s (by omega) (by omega) hI
def inPage (p : BoxT) : Prop := 0 ≤ p.1 ∧ p.1 ≤ p.2.2.1 ∧ p.2.2.1 ≤ 32 ∧ 0 ≤ p.2.1 ∧ p.2.1 ≤ p.2.2.2 ∧ p.2.2.2 ≤ 32
def rowsIn (lo y0 y1 y : Int) : Int := if mx lo y0 < mn y y1 then mn y y1 - mx lo y0 else 0
theorem mx_tells (a b : Int) : a ≤ mx a b ∧ b ≤ mx a b ∧ (mx a b = a ∨ mx a b = b) := by unfold mx; omega
theorem mn_tells (a b : Int) : mn a b ≤ a ∧ mn a b ≤ b ∧ (mn a b = a ∨ mn a b = b) := by unfold mn; omega
theorem rowsIn_bd {lo y0 y1 y : Int} (h0 : 0 ≤ lo) (h1 : y1 ≤ 32) : 0 ≤ rowsIn lo y0 y1 y ∧ rowsIn lo y0 y1 y ≤ 32 := by
  unfold rowsIn
  have a := mx_tells lo y0
  have b := mn_tells y y1
  split <;> omega
theorem rowsIn_pos {lo y0 y1 y : Int} (h1 : lo < y) (h2 : lo < y1) (h3 : y0 < y) (h4 : y0 < y1) : rowsIn lo y0 y1 y = mn y1 y - mx y0 lo := by
  unfold rowsIn
  rw [mx_comm y0, mn_comm y1]
  have a := mx_tells lo y0
  have b := mn_tells y y1
  rw [if_pos (by omega)]
theorem rowsIn_in {lo y0 y1 y : Int} (h1 : lo ≤ y) (h2 : y0 ≤ y) (h3 : y < y1) : rowsIn lo y0 y1 (y + 1) = rowsIn lo y0 y1 y + 1 := by
  unfold rowsIn
  have a := mx_tells lo y0
  have b := mn_tells y y1
  have c := mn_tells (y + 1) y1
  split <;> split <;> omega
theorem rowsIn_out {lo y0 y1 y : Int} (h1 : lo ≤ y) (h2 : y < y0 ∨ y1 ≤ y) : rowsIn lo y0 y1 (y + 1) = rowsIn lo y0 y1 y := by
  unfold rowsIn
  have a := mx_tells lo y0
  have b := mn_tells y y1
  have c := mn_tells (y + 1) y1
  split <;> split <;> omega
theorem rowsIn_lo {lo y0 y1 : Int} : rowsIn lo y0 y1 lo = 0 := by
  unfold rowsIn
  have a := mx_tells lo y0
  have b := mn_tells lo y1
  rw [if_neg (by omega)]
theorem meet_page (p : BoxT) : inPage (meet p (0, 0, 32, 32)) := by
  unfold meet
  by_cases c : boxOk p.1 p.2.1 p.2.2.1 p.2.2.2 = true ∧ boxOk 0 0 32 32 = true ∧ mx p.1 0 < mn p.2.2.1 32 ∧ mx p.2.1 0 < mn p.2.2.2 32
  · rw [if_pos c]
    obtain ⟨_, _, h3, h4⟩ := c
    unfold inPage
    simp only
    unfold mx mn at *
    omega
  · rw [if_neg c]; simp [inPage]
theorem objBox_page (l : List S166) (g a b c d : Int) : inPage (objBox l g a b c d) := by
  unfold objBox
  split
  · exact meet_page _
  · simp [inPage]
def cntD (p : BoxT) : Int := if boxOk p.1 p.2.1 p.2.2.1 p.2.2.2 = true then wrap64 (wrap64 (p.2.2.1 - p.1) * wrap64 (p.2.2.2 - p.2.1)) else 0
end Go.Proofs.Ytimpejidlnjhlaa.Pure
namespace Go.Proofs.Ytimpejidlnjhlaa.Pure
open Go.RowKit Go.Proofs.Ytimpejidlnjhlaa.QFnPageDots Go.Proofs.YtimpejidlnjhlaaW.PrintWords Go.Proofs.YtimpejidlnjhlaaW.PrintLast Go.Proofs.Ytimpejidlnjhlaa.Plain

theorem mul_bd {a b A B : Int} (h1 : -A ≤ a) (h2 : a ≤ A) (h3 : -B ≤ b) (h4 : b ≤ B) : -(A * B) ≤ a * b ∧ a * b ≤ A * B := by
  have hA : a.natAbs ≤ A.natAbs := by omega
  have hB : b.natAbs ≤ B.natAbs := by omega
  have h := Nat.mul_le_mul hA hB
  rw [← Int.natAbs_mul, ← Int.natAbs_mul] at h
  have h5 : 0 ≤ A * B := Int.mul_nonneg (by omega) (by omega)
  omega
theorem wmul {a b : Int} (h1 : -4000 ≤ a) (h2 : a ≤ 4000) (h3 : -4000 ≤ b) (h4 : b ≤ 4000) : wrap64 (a * b) = a * b ∧ -16000000 ≤ a * b ∧ a * b ≤ 16000000 := by
  have := mul_bd h1 h2 h3 h4
  exact ⟨wrap_id (by omega) (by omega), by omega, by omega⟩
def crossUp (a b c d X Y : Int) : Bool := decide ((2 * X + 1) * (d - b) < (2 * (d - b) - (2 * Y + 1 - 2 * b)) * a + (2 * Y + 1 - 2 * b) * c)
def crossB (a b c d X Y : Int) : Bool := if (decide (b > Y) == decide (d > Y)) = true then false else if b > d then crossUp c d a b X Y else crossUp a b c d X Y
def inR (a : Int) : Prop := -200 ≤ a ∧ a ≤ 200
theorem inR_coord {a : Int} : coord a = true ↔ inR a := by unfold coord inR; rw [inB_iff]
theorem iCross_eq (a b c d x y : Int) (ha : inR a) (hb : inR b) (hc : inR c) (hd : inR d) (hx : inR x) (hy : inR y) : impl_crosses.f a b c d x y = some (crossB a b c d x y) := by
  unfold inR at *
  unfold impl_crosses.f crossB
  have w1 : wrap64 (2 * b) = 2 * b := wrap_id (by omega) (by omega)
  have w3 : wrap64 (2 * y) = 2 * y := wrap_id (by omega) (by omega)
  have w4 : wrap64 (2 * y + 1) = 2 * y + 1 := wrap_id (by omega) (by omega)
  have w5 : wrap64 (2 * x) = 2 * x := wrap_id (by omega) (by omega)
  have w6 : wrap64 (2 * x + 1) = 2 * x + 1 := wrap_id (by omega) (by omega)
  have w8 : wrap64 (2 * a) = 2 * a := wrap_id (by omega) (by omega)
  have v1 : wrap64 (d - b) = d - b := wrap_id (by omega) (by omega)
  have v2 : wrap64 (c - a) = c - a := wrap_id (by omega) (by omega)
  have v3 : wrap64 (2 * y + 1 - 2 * b) = 2 * y + 1 - 2 * b := wrap_id (by omega) (by omega)
  obtain ⟨m1, m2, m3⟩ := wmul (a := 2 * a) (b := d - b) (by omega) (by omega) (by omega) (by omega)
  obtain ⟨n1, n2, n3⟩ := wmul (a := 2 * y + 1 - 2 * b) (b := c - a) (by omega) (by omega) (by omega) (by omega)
  obtain ⟨o1, o2, o3⟩ := wmul (a := 2 * x + 1) (b := d - b) (by omega) (by omega) (by omega) (by omega)
  have v4 : wrap64 (2 * a * (d - b) + (2 * y + 1 - 2 * b) * (c - a)) = 2 * a * (d - b) + (2 * y + 1 - 2 * b) * (c - a) := wrap_id (by omega) (by omega)
  simp only [w1, w3, w4, w5, w6, w8, v1, v2, v3, m1, n1, o1, v4]
  by_cases h : (decide (b > y) == decide (d > y)) = true
  · simp only [if_pos h]
  · simp only [if_neg h]
    by_cases g : b > d
    · rw [if_pos (show d - b < 0 by omega), if_pos g]
      unfold crossUp
      refine congrArg some (decide_eq_decide.2 ?_)
      simp only [Int.sub_mul, Int.add_mul, Int.mul_sub, Int.mul_add, Int.mul_assoc, Int.mul_comm, Int.mul_left_comm]
      omega
    · rw [if_neg (show ¬ d - b < 0 by omega), if_neg g]
      unfold crossUp
      refine congrArg some (decide_eq_decide.2 ?_)
      simp only [Int.sub_mul, Int.add_mul, Int.mul_sub, Int.mul_add, Int.mul_assoc, Int.mul_comm, Int.mul_left_comm]
      omega
def nxt (f : S166) : List S166 → S166
  | [] => f
  | y :: _ => y
def insGo (f : S166) (X Y : Int) : List S166 → Bool → Bool
  | [], b => b
  | x :: r, b => insGo f X Y r (if crossB x.f0 x.f1 (nxt f r).f0 (nxt f r).f1 X Y = true then !b else b)
def inside (l : List S166) (X Y : Int) : Bool := insGo (l.headD z166) X Y l false
theorem nxt_facts (pre rest : List S166) (x : S166) : ¬ ((pre ++ x :: rest).length : Int) = 0 ∧ 0 ≤ Int.tmod ((pre ++ [x]).length : Int) ((pre ++ x :: rest).length : Int) ∧ Int.tmod ((pre ++ [x]).length : Int) ((pre ++ x :: rest).length : Int) < ((pre ++ x :: rest).length : Int) ∧
    rd_T166 (pre ++ x :: rest) (Int.tmod ((pre ++ [x]).length : Int) ((pre ++ x :: rest).length : Int)) = nxt ((pre ++ x :: rest).headD z166) rest ∧ nxt ((pre ++ x :: rest).headD z166) rest ∈ pre ++ x :: rest := by
  have hn : ((pre ++ x :: rest).length : Int) = pre.length + 1 + rest.length := mid_len
  have hp : ((pre ++ [x]).length : Int) = pre.length + 1 := by simp
  refine ⟨by omega, ?_⟩
  rw [Int.tmod_eq_emod_of_nonneg (by omega)]
  match rest with
  | [] =>
    have e : ((pre ++ [x]).length : Int) % ((pre ++ [x]).length : Int) = 0 := Int.emod_self
    have hpos : (0 : Int) < ((pre ++ [x]).length : Int) := by omega
    refine ⟨by rw [e]; omega, by rw [e]; exact hpos, ?_, ?_⟩
    · rw [e]; unfold rd_T166 nxt; cases pre <;> rfl
    · unfold nxt; cases pre <;> simp
  | y :: r =>
    rw [List.length_cons] at hn
    have e : ((pre ++ [x]).length : Int) % ((pre ++ x :: y :: r).length : Int) = ((pre ++ [x]).length : Int) := Int.emod_eq_of_lt (by omega) (by omega)
    rw [e]
    refine ⟨by omega, by omega, ?_, ?_⟩
    · unfold rd_T166 nxt
      rw [show pre ++ x :: y :: r = (pre ++ [x]) ++ y :: r by simp, Int.toNat_natCast, mid_get]
    · unfold nxt; simp
def allR (l : List S166) : Prop := ∀ p ∈ l, inR p.f0 ∧ inR p.f1
theorem allR_of {l : List S166} (h : ptsOk l = true) : allR l := by
  intro p hp
  unfold ptsOk at h
  have := List.all_eq_true.1 h p hp
  rw [Bool.and_eq_true] at this
  exact ⟨inR_coord.1 this.1, inR_coord.1 this.2⟩
def pathB (l : List S166) : Bool := ptsOk l && decide ((l.length : Int) ≤ 8)
theorem pathOk_ev (l : List S166) (hm : l.length ≤ maxLen) : Ev (fun k => impl_pathOk.f k l) (pathB l) := by
  simp only [impl_pathOk.f]
  unfold pathB
  rw [Bool.and_comm]
  exact Ev.andP (fun _ => Ev.bind (pointsOk_ev l hm) (Ev.now _))
theorem insidePath_ev (l : List S166) (X Y : Int) (hm : l.length ≤ maxLen) (hX : inR X) (hY : inR Y) (hp : pathB l = true) : Ev (fun k => impl_InsidePath.f k l X Y) (inside l X Y) := by
  simp only [impl_InsidePath.f, coordOk_eq, Option.bind_some, inR_coord.2 hX, inR_coord.2 hY, if_true, Bool.not_true]
  refine Ev.bind (pathOk_ev l hm) ?_
  simp only [hp, if_true]
  refine Ev.up ?_
  simp only [impl_InsidePath.j0, Bool.false_eq_true, if_false]
  have hR : allR l := allR_of (by unfold pathB at hp; rw [Bool.and_eq_true] at hp; exact hp.1)
  unfold inside
  generalize hf : l.headD z166 = f
  refine ev_loop l (F := fun k s i => impl_InsidePath.l0 k l X Y s l l.length i) (fun _ _ _ => True) (fun _ r s => insGo f X Y r s) ?_ ?_ false trivial
  · intro s _; simp only [impl_InsidePath.l0, end_lt, if_false]; exact Ev.now _
  · rintro pre x rest s e _ ih
    subst e
    obtain ⟨f0, f1, f2, f3, f4⟩ := nxt_facts pre rest x
    rw [hf] at f3 f4
    have h1 := hR x (by simp)
    have h2 := hR _ f4
    simp only [impl_InsidePath.l0, mid_lt, mid_nn, mid_wrap hm, if_true, if_neg f0, if_pos f1, if_pos f2, f3, insGo]
    simp only [rd_T166, Int.toNat_natCast, mid_get, iCross_eq _ _ _ _ _ _ h1.1 h1.2 h2.1 h2.2 hX hY, Option.bind_some]
    refine Ev.ite (fun c => ?_) (fun c => ?_)
    · rw [if_pos c]; exact ih _ trivial
    · rw [if_neg c]; exact ih _ trivial
/-- Right of all points no side counts. -/
theorem crossB_right {a b c d X Y : Int} (h1 : a ≤ X) (h2 : c ≤ X) : crossB a b c d X Y = false := by
  have main : ∀ a b c d : Int, a ≤ X → c ≤ X → b ≤ Y → Y < d → crossUp a b c d X Y = false := by
    intro a b c d h1 h2 h3 h4
    unfold crossUp
    refine decide_eq_false ?_
    generalize hu : 2 * (d - b) - (2 * Y + 1 - 2 * b) = u
    generalize ht : 2 * Y + 1 - 2 * b = t
    have e1 := Int.mul_le_mul_of_nonneg_left h1 (show 0 ≤ u by omega)
    have e2 := Int.mul_le_mul_of_nonneg_left h2 (show 0 ≤ t by omega)
    have e3 : u * X + t * X = 2 * (d - b) * X := by rw [← Int.add_mul]; congr 1; omega
    have e4 : (2 * X + 1) * (d - b) = 2 * (d - b) * X + (d - b) := by rw [Int.add_mul, Int.one_mul, Int.mul_assoc, Int.mul_assoc, Int.mul_comm X]
    omega
  unfold crossB
  by_cases h : (decide (b > Y) == decide (d > Y)) = true
  · rw [if_pos h]
  · rw [if_neg h]
    have h' : ¬ (b > Y ↔ d > Y) := by simpa using h
    split
    · exact main c d a b h2 h1 (by omega) (by omega)
    · exact main a b c d h1 h2 (by omega) (by omega)
/-- Left of all points every side counts that passes the height. -/
theorem crossB_left {a b c d X Y : Int} (h1 : X < a) (h2 : X < c) : crossB a b c d X Y = (decide (b > Y) ^^ decide (d > Y)) := by
  have main : ∀ a b c d : Int, X < a → X < c → b ≤ Y → Y < d → crossUp a b c d X Y = true := by
    intro a b c d h1 h2 h3 h4
    unfold crossUp
    refine decide_eq_true ?_
    generalize hu : 2 * (d - b) - (2 * Y + 1 - 2 * b) = u
    generalize ht : 2 * Y + 1 - 2 * b = t
    have e1 := Int.mul_le_mul_of_nonneg_left (show X + 1 ≤ a by omega) (show 0 ≤ u by omega)
    have e2 := Int.mul_le_mul_of_nonneg_left (show X + 1 ≤ c by omega) (show 0 ≤ t by omega)
    have e3 : u * (X + 1) + t * (X + 1) = 2 * (d - b) * (X + 1) := by rw [← Int.add_mul]; congr 1; omega
    have e4 : (2 * X + 1) * (d - b) = 2 * (d - b) * X + (d - b) := by rw [Int.add_mul, Int.one_mul, Int.mul_assoc, Int.mul_assoc, Int.mul_comm X]
    have e5 : 2 * (d - b) * (X + 1) = 2 * (d - b) * X + 2 * (d - b) := by rw [Int.mul_add, Int.mul_one]
    omega
  unfold crossB
  by_cases h : (decide (b > Y) == decide (d > Y)) = true
  · rw [if_pos h]
    have h' : decide (b > Y) = decide (d > Y) := by simpa using h
    rw [h', Bool.xor_self]
  · rw [if_neg h]
    have h' : ¬ (b > Y ↔ d > Y) := by simpa using h
    have hx : (decide (b > Y) ^^ decide (d > Y)) = true := by
      by_cases g1 : b > Y <;> by_cases g2 : d > Y <;> simp [g1, g2] at h' ⊢
    rw [hx]
    split
    · exact main c d a b h2 h1 (by omega) (by omega)
    · exact main a b c d h1 h2 (by omega) (by omega)
theorem ins_right (f : S166) (X Y : Int) (hf : f.f0 ≤ X) : ∀ (l : List S166) (b : Bool), (∀ p ∈ l, p.f0 ≤ X) → insGo f X Y l b = b
  | [], b, _ => rfl
  | x :: r, b, h => by
    have hn : (nxt f r).f0 ≤ X := by
      cases r with
      | nil => exact hf
      | cons y r => exact h y (by simp)
    rw [insGo, crossB_right (h x (by simp)) hn]
    exact ins_right f X Y hf r b (fun p hp => h p (by simp [hp]))
theorem ins_left (f : S166) (X Y : Int) (hf : X < f.f0) : ∀ (x : S166) (l : List S166) (b : Bool), (∀ p ∈ x :: l, X < p.f0) → insGo f X Y (x :: l) b = (b ^^ (decide (x.f1 > Y) ^^ decide (f.f1 > Y)))
  | x, [], b, h => by
    rw [insGo, insGo, nxt, crossB_left (h x (by simp)) hf]
    cases b <;> cases decide (x.f1 > Y) <;> cases decide (f.f1 > Y) <;> rfl
  | x, y :: r, b, h => by
    rw [insGo, nxt, crossB_left (h x (by simp)) (h y (by simp)), ins_left f X Y hf y r _ (fun p hp => h p (by simp [List.mem_cons.1 hp]))]
    cases b <;> cases decide (x.f1 > Y) <;> cases decide (f.f1 > Y) <;> cases decide (y.f1 > Y) <;> rfl
theorem inside_right (l : List S166) (X Y : Int) (h : ∀ p ∈ l, p.f0 ≤ X) : inside l X Y = false := by
  unfold inside
  cases l with
  | nil => rfl
  | cons x r => exact ins_right _ X Y (h x (by simp)) _ _ h
theorem inside_left (l : List S166) (X Y : Int) (h : ∀ p ∈ l, X < p.f0) : inside l X Y = false := by
  unfold inside
  cases l with
  | nil => rfl
  | cons x r =>
    have := ins_left x X Y (h x (by simp)) x r false h
    simpa using this
def stepS (f : Int → Bool) (s : List S140) (x : Int) : List S140 :=
  if f x = true then
    match s.getLast? with
    | some r => if r.f1 = x then s.dropLast ++ [⟨r.f0, x + 1⟩] else s ++ [⟨x, x + 1⟩]
    | none => [⟨x, x + 1⟩]
  else s
def scan (f : Int → Bool) : Nat → Int → List S140 → List S140
  | 0, _, s => s
  | n + 1, x, s => scan f n (x + 1) (stepS f s x)
theorem scan_add (f : Int → Bool) : ∀ (n m : Nat) (x : Int) (s : List S140), scan f (n + m) x s = scan f m (x + n) (scan f n x s)
  | 0, m, x, s => by simp [scan]
  | n + 1, m, x, s => by
    rw [show n + 1 + m = (n + m) + 1 by omega, scan, scan_add f n m, scan, show x + 1 + (n : Int) = x + ((n + 1 : Nat) : Int) by omega]
theorem scan_snoc (f : Int → Bool) (n : Nat) (x : Int) (s : List S140) : scan f (n + 1) x s = stepS f (scan f n x s) (x + n) := by rw [scan_add]; rfl
theorem scan_none (f : Int → Bool) : ∀ (n : Nat) (x : Int) (s : List S140), (∀ y, x ≤ y → y < x + n → f y = false) → scan f n x s = s
  | 0, _, _, _ => rfl
  | n + 1, x, s, h => by
    have h0 := h x (by omega) (by omega)
    rw [scan, show stepS f s x = s by unfold stepS; rw [h0]; rfl]
    exact scan_none f n (x + 1) s (fun y h1 h2 => h y (by omega) (by omega))
theorem stepS_inv (f : Int → Bool) (s : List S140) (x : Int) (n : Nat) (h : s.length ≤ n) : (stepS f s x).length ≤ n + 1 := by
  unfold stepS
  split
  · cases e : s.getLast? with
    | none => simp
    | some r =>
      simp only
      split
      · have hne : s ≠ [] := by rintro rfl; simp at e
        have := List.length_pos_iff.2 hne
        simp; omega
      · simp; omega
  · omega
theorem scan_len (f : Int → Bool) : ∀ (n m : Nat) (x : Int) (s : List S140), s.length ≤ m → (scan f n x s).length ≤ m + n
  | 0, m, x, s, h => h
  | n + 1, m, x, s, h => by
    have := scan_len f n (m + 1) (x + 1) _ (stepS_inv f s x m h)
    rw [scan]; omega
def spansAt (l : List S166) (Y : Int) : List S140 := if pathB l = true ∧ coord Y = true then scan (fun X => inside l X Y) 401 (-200) [] else []
theorem spansAt_len (l : List S166) (Y : Int) : (spansAt l Y).length ≤ 401 := by
  unfold spansAt
  split
  · have := scan_len (fun X => inside l X Y) 401 0 (-200) [] (by simp); omega
  · simp
theorem step_span {β : Type} (s : List S140) (hs : s.length ≤ 1000) (x : Int) (hx : inR x) (G : Nat → List S140 → Option β) (r : β) (f : Int → Bool) (hf : f x = true) (h : Ev (fun k => G k (stepS f s x)) r) :
    Ev (fun k => if (s.length : Int) > 0 then (if 0 ≤ (wrap64 ((s.length : Int) - 1)) then (if (wrap64 ((s.length : Int) - 1)) < (s.length : Int) then (if ((rd_T140 s (wrap64 ((s.length : Int) - 1))).f1) = x then (G k (s.set ((wrap64 ((s.length : Int) - 1)) : Int).toNat (⟨(rd_T140 s (wrap64 ((s.length : Int) - 1))).f0, wrap64 (((rd_T140 s (wrap64 ((s.length : Int) - 1))).f1) + 1)⟩ : S140))) else (if s.length < 8796093022208 then (G k (s ++ [(⟨x, wrap64 (x + 1)⟩ : S140)])) else (none))) else (none)) else (none)) else (if s.length < 8796093022208 then (G k (s ++ [(⟨x, wrap64 (x + 1)⟩ : S140)])) else (none))) r := by
  obtain ⟨x0, x1⟩ := hx
  have c4 : s.length < 8796093022208 := by omega
  have w : wrap64 (x + 1) = x + 1 := wrap_id (by omega) (by omega)
  unfold stepS at h
  rw [if_pos hf] at h
  rcases List.eq_nil_or_concat s with rfl | ⟨q, y, rfl⟩
  · have c0 : ¬ (([] : List S140).length : Int) > 0 := by simp
    simp only [if_neg c0, if_pos c4, w]
    exact h
  · rw [List.concat_eq_append] at *
    have c0 : ((q ++ [y]).length : Int) > 0 := by simp <;> omega
    have e1 : wrap64 (((q ++ [y]).length : Int) - 1) = (q.length : Int) := by rw [wrap_id (by simp <;> omega) (by omega)]; simp
    have c2 : (q.length : Int) < ((q ++ [y]).length : Int) := by simp <;> omega
    have e2 : rd_T140 (q ++ [y]) (q.length : Int) = y := by simp [rd_T140, List.getD_eq_getElem?_getD]
    simp only [if_pos c0, e1, mid_nn, if_true, if_pos c2, e2, Int.toNat_natCast, if_pos c4, w]
    simp only [List.getLast?_append, List.getLast?_singleton, Option.some_or, List.dropLast_concat] at h
    by_cases c : y.f1 = x
    · have e4 : (q ++ [y]).set q.length (⟨y.f0, x + 1⟩ : S140) = q ++ [⟨y.f0, x + 1⟩] := by rw [List.set_append_right _ _ (Nat.le_refl _)]; simp
      simp only [c, if_true, w, e4] at h ⊢; exact h
    · simp only [if_neg c] at h ⊢; exact h
theorem iSpansAt_ev (l : List S166) (Y : Int) (hm : l.length ≤ maxLen) : Ev (fun k => impl_SpansAt.f k l Y) (spansAt l Y) := by
  simp only [impl_SpansAt.f, coordOk_eq, Option.bind_some]
  unfold spansAt
  refine Ev.bind (pathOk_ev l hm) ?_
  by_cases hp : pathB l = true
  · simp only [if_pos hp]
    by_cases hY : coord Y = true
    · rw [if_pos ⟨hp, hY⟩]
      refine Ev.up ?_
      simp only [impl_SpansAt.j0, hY, Bool.not_true, Bool.false_eq_true, if_false]
      refine ev_range (F := fun k s x => impl_SpansAt.l0 k l Y s x) (-200) 201 (by omega) (fun x s => s.length ≤ (x + 200).toNat ∧ scan (fun X => inside l X Y) (201 - x).toNat x s = scan (fun X => inside l X Y) 401 (-200) []) _ ?_ ?_ [] ⟨by simp, rfl⟩
      · rintro s ⟨_, hs⟩
        simp only [impl_SpansAt.l0]
        rw [← hs]
        exact Ev.now _
      · rintro x s h0 h1 ⟨hl, hs⟩ ih
        have hx : inR x := ⟨h0, by omega⟩
        have w : wrap64 (x + 1) = x + 1 := wrap_id (by omega) (by omega)
        have c1 : x ≤ 200 := by omega
        have hn : (201 - x).toNat = (201 - (x + 1)).toNat + 1 := by omega
        rw [hn, scan] at hs
        have hi := ih _ ⟨by rw [show (x + 1 + 200).toNat = (x + 200).toNat + 1 by omega]; exact stepS_inv _ s x _ hl, hs⟩
        simp only [impl_SpansAt.l0, if_pos c1, w]
        refine Ev.bind (insidePath_ev l x Y hm hx (inR_coord.1 hY) hp) (Ev.iteB (fun c => ?_) (fun c => ?_))
        · have := step_span s (by omega) x hx (fun k s' => impl_SpansAt.l0 k l Y s' (x + 1)) _ (fun X => inside l X Y) c hi
          simpa only [w] using this
        · have e : stepS (fun X => inside l X Y) s x = s := by unfold stepS; simp only [c]; rfl
          rw [e] at hi; exact hi
    · rw [if_neg (fun h => hY h.2)]
      refine Ev.up ?_
      have hY' : coord Y = false := by simpa using hY
      simp only [impl_SpansAt.j0, hY', Bool.not_false, if_true]; exact Ev.now _
  · rw [if_neg (fun h => hp h.1)]
    simp only [if_neg hp]
    refine Ev.up ?_
    simp only [impl_SpansAt.j0, if_true]; exact Ev.now _
end Go.Proofs.Ytimpejidlnjhlaa.Pure
namespace Go.Proofs.Ytimpejidlnjhlaa.Pure
open Go.RowKit Go.Proofs.Ytimpejidlnjhlaa.QFnPageDots Go.Proofs.YtimpejidlnjhlaaW.PrintWords Go.Proofs.YtimpejidlnjhlaaW.PrintLast Go.Proofs.Ytimpejidlnjhlaa.Plain

theorem wrapR (a b : Int) : wrap64 (a + wrap64 b) = wrap64 (a + b) := by unfold wrap64; omega
theorem wrapL (a b : Int) : wrap64 (wrap64 a + b) = wrap64 (a + b) := by unfold wrap64; omega
theorem wrapS (a b c : Int) : wrap64 (wrap64 (a + b) - c) = wrap64 (a + (b - c)) := by unfold wrap64; omega
theorem last_gt {α : Type} (pre : List α) (y x : α) (rest : List α) (z : α) (hm : ((pre ++ [y]) ++ x :: rest).length ≤ maxLen) :
    wrap64 (((pre ++ [y]).length : Int) - 1) = (pre.length : Int) ∧ ((pre ++ [y]) ++ x :: rest).getD pre.length z = y := by
  rw [maxLen_eq] at hm
  simp at hm
  refine ⟨by rw [wrap_id (by simp <;> omega) (by simp <;> omega)]; simp, by simp [List.getD_eq_getElem?_getD]⟩
def okPrev : Option Int → Int → Bool
  | none, _ => true
  | some t, a => !decide (t ≥ a)
def spFrom : Option Int → List S140 → Bool
  | _, [] => true
  | p, x :: r => !decide (x.f0 ≥ x.f1) && (okPrev p x.f0 && spFrom (some x.f1) r)
def spansOk (l : List S140) : Bool := decide ((l.length : Int) ≤ 8) && spFrom none l
theorem spansOk_len {l : List S140} (h : spansOk l = true) : l.length ≤ 8 := by unfold spansOk at h; simp at h; omega
theorem iSpansOk_ev (l : List S140) (hm : l.length ≤ maxLen) : Ev (fun k => impl_SpansOk.f k l) (spansOk l) := by
  simp only [impl_SpansOk.f]
  unfold spansOk
  by_cases c8 : (l.length : Int) > 8
  · have e : decide ((l.length : Int) ≤ 8) = false := decide_eq_false (by omega)
    simp only [if_pos c8, e, Bool.false_and]; exact Ev.now _
  · have e : decide ((l.length : Int) ≤ 8) = true := decide_eq_true (by omega)
    simp only [if_neg c8, e, Bool.true_and]
    refine ev_loop0 l (F := fun k i => impl_SpansOk.l0 k l l l.length i) (fun p r => spFrom (p.getLast?.map (·.f1)) r) ?_ (fun pre x rest e h => ?_)
    · simp only [impl_SpansOk.l0, end_lt, if_false]; exact Ev.now _
    · clear c8
      subst e
      rw [List.getLast?_append, List.getLast?_singleton] at h
      simp only [impl_SpansOk.l0, mid_lt, mid_nn, mid_wrap hm, if_true, rd_T140, Int.toNat_natCast, mid_get, spFrom]
      refine Ev.ite (fun c => Ev.val (by rw [decide_eq_true c]; rfl)) (fun c => ?_)
      rw [decide_eq_false c, Bool.not_false, Bool.true_and]
      rcases List.eq_nil_or_concat pre with rfl | ⟨q, y, rfl⟩
      · simp only [List.length_nil, Int.ofNat_zero, gt_iff_lt, Int.lt_irrefl, if_false] at h ⊢
        exact h
      · obtain ⟨h1, h2⟩ := last_gt q y x rest z140 (by simpa using hm)
        rw [List.concat_eq_append] at *
        have c1 : ((q ++ [y]).length : Int) > 0 := by simp <;> omega
        have c2 : (q.length : Int) < (((q ++ [y]) ++ x :: rest).length : Int) := by simp; omega
        simp only [h1, c1, c2, mid_nn, if_true, Int.toNat_natCast, h2, List.getLast?_append, List.getLast?_singleton]
        refine Ev.ite (fun d => Ev.val ?_) (fun d => ?_)
        · show false = (!decide (y.f1 ≥ x.f0) && _)
          rw [decide_eq_true d]; rfl
        · show Ev _ (!decide (y.f1 ≥ x.f0) && _)
          rw [decide_eq_false d]
          exact h
def meetGo (a b : Int) : List S140 → List S140 → List S140
  | [], s => s
  | x :: r, s => meetGo a b r (if mx x.f0 a < mn x.f1 b then s ++ [⟨mx x.f0 a, mn x.f1 b⟩] else s)
def meetSp (l : List S140) (a b : Int) : List S140 := if spansOk l = true then meetGo a b l [] else []
theorem meetGo_len (a b : Int) : ∀ l s : List S140, (meetGo a b l s).length ≤ s.length + l.length
  | [], s => Nat.le_refl _
  | x :: r, s => by
    unfold meetGo
    by_cases c : mx x.f0 a < mn x.f1 b
    · rw [if_pos c]
      have := meetGo_len a b r (s ++ [⟨mx x.f0 a, mn x.f1 b⟩])
      simp at this ⊢; omega
    · rw [if_neg c]
      have := meetGo_len a b r s
      simp at this ⊢; omega
theorem meetSp_len (l : List S140) (a b : Int) : (meetSp l a b).length ≤ 8 := by
  unfold meetSp
  split
  · rename_i h
    have := meetGo_len a b l []
    have := spansOk_len h
    simp at *; omega
  · simp
theorem iMeetSpans_ev (l : List S140) (a b : Int) (hm : l.length ≤ maxLen) : Ev (fun k => impl_MeetSpans.f k l a b) (meetSp l a b) := by
  simp only [impl_MeetSpans.f]
  unfold meetSp
  refine Ev.bind (iSpansOk_ev l hm) (Ev.ite (fun c => ?_) (fun c => ?_))
  · rw [if_pos c]
    have h8 := spansOk_len c
    refine ev_loop l (F := fun k s i => impl_MeetSpans.l0 k a b s l l.length i) (fun pre _ s => s.length ≤ pre.length) (fun _ r s => meetGo a b r s) ?_ ?_ [] (by simp)
    · intro s _; simp only [impl_MeetSpans.l0, end_lt, if_false]; exact Ev.now _
    · rintro pre x rest s e hs ih
      clear c
      subst e
      have hs8 : s.length < 8796093022208 := by simp at h8; omega
      simp only [impl_MeetSpans.l0, mid_lt, mid_nn, mid_wrap hm, if_true, rd_T140, Int.toNat_natCast, mid_get, meetGo, hs8]
      by_cases d : mx x.f0 a < mn x.f1 b
      · simp only [if_pos d]; exact ih _ (by simp; omega)
      · simp only [if_neg d]; exact ih _ (by simp; omega)
  · rw [if_neg c]; exact Ev.now _
def dotsGo : List S140 → Int → Int
  | [], a => a
  | x :: r, a => dotsGo r (wrap64 (a + (x.f1 - x.f0)))
def spDots (l : List S140) : Int := if spansOk l = true then dotsGo l 0 else 0
theorem iSpanDots_ev (l : List S140) (hm : l.length ≤ maxLen) : Ev (fun k => impl_SpanDots.f k l) (spDots l) := by
  simp only [impl_SpanDots.f]
  unfold spDots
  refine Ev.bind (iSpansOk_ev l hm) (Ev.ite (fun c => ?_) (fun c => ?_))
  · rw [if_pos c]
    refine ev_loop l (F := fun k s i => impl_SpanDots.l0 k s l l.length i) (fun _ _ _ => True) (fun _ r s => dotsGo r s) ?_ ?_ _ trivial
    · intro s _; simp only [impl_SpanDots.l0, end_lt, if_false]; exact Ev.now _
    · rintro pre x rest s e _ ih
      clear c
      subst e
      simp only [impl_SpanDots.l0, mid_lt, mid_nn, mid_wrap hm, if_true, rd_T140, Int.toNat_natCast, mid_get, wrapR]
      exact ih _ trivial
  · rw [if_neg c]; exact Ev.now _
theorem meet_alt (p q : BoxT) : meet p q = (0, 0, 0, 0) ∨ ((meet p q).1 < (meet p q).2.2.1 ∧ (meet p q).2.1 < (meet p q).2.2.2) := by
  unfold meet
  split
  · rename_i h; exact .inr ⟨h.2.2.1, h.2.2.2⟩
  · exact .inl rfl
theorem objBox_alt (l : List S166) (g a b c d : Int) : objBox l g a b c d = (0, 0, 0, 0) ∨ ((objBox l g a b c d).1 < (objBox l g a b c d).2.2.1 ∧ (objBox l g a b c d).2.1 < (objBox l g a b c d).2.2.2) := by
  unfold objBox
  split
  · exact meet_alt _ _
  · exact .inl rfl
theorem cntD_page {p : BoxT} (hp : inPage p) (h1 : p.1 < p.2.2.1) (h2 : p.2.1 < p.2.2.2) : cntD p = (p.2.2.1 - p.1) * (p.2.2.2 - p.2.1) ∧ 0 < cntD p ∧ cntD p ≤ 1024 := by
  obtain ⟨g0, g1, g2, g3, g4, g5⟩ := hp
  have hb : boxOk p.1 p.2.1 p.2.2.1 p.2.2.2 = true := by
    unfold boxOk coord inB
    simp <;> omega
  have hpos : 0 < (p.2.2.1 - p.1) * (p.2.2.2 - p.2.1) := Int.mul_pos (by omega) (by omega)
  have hle : (p.2.2.1 - p.1) * (p.2.2.2 - p.2.1) ≤ 32 * 32 := Int.mul_le_mul (by omega) (by omega) (by omega) (by omega)
  have e : cntD p = (p.2.2.1 - p.1) * (p.2.2.2 - p.2.1) := by
    unfold cntD
    rw [if_pos hb, wrap_id (x := p.2.2.1 - p.1) (by omega) (by omega), wrap_id (x := p.2.2.2 - p.2.1) (by omega) (by omega)]
    exact wrap_id (by omega) (by omega)
  rw [e]
  exact ⟨rfl, hpos, by omega⟩
theorem objBox_zero {l : List S166} {g a b c d : Int} (h : cntD (objBox l g a b c d) = 0) (y : Int) : y < (objBox l g a b c d).2.1 ∨ (objBox l g a b c d).2.2.2 ≤ y := by
  rcases objBox_alt l g a b c d with e | ⟨h1, h2⟩
  · rw [e]; simp only; omega
  · have := (cntD_page (objBox_page l g a b c d) h1 h2).2.1
    omega
def objRow (l : List S166) (g a b c d y : Int) : List S140 := if y < (objBox l g a b c d).2.1 ∨ (objBox l g a b c d).2.2.2 ≤ y then [] else meetSp (spansAt l y) (objBox l g a b c d).1 (objBox l g a b c d).2.2.1
theorem objRow_len (l : List S166) (g a b c d y : Int) : (objRow l g a b c d y).length ≤ 8 := by
  unfold objRow
  split
  · simp
  · exact meetSp_len _ _ _
theorem spansAt_max (l : List S166) (y : Int) : (spansAt l y).length ≤ maxLen := by have := spansAt_len l y; rw [maxLen_eq]; omega
theorem objRow_max (l : List S166) (g a b c d y : Int) : (objRow l g a b c d y).length ≤ maxLen := by have := objRow_len l g a b c d y; rw [maxLen_eq]; omega
theorem iObjectRow_ev (l : List S166) (g a b c d y : Int) (hm : l.length ≤ maxLen) : Ev (fun k => impl_ObjectRow.f k l g a b c d y) (objRow l g a b c d y) := by
  simp only [impl_ObjectRow.f]
  unfold objRow
  refine Ev.bind (iObjectOk_ev l g a b c d hm) (Ev.ite (fun o => ?_) (fun o => ?_))
  · refine Ev.bind (iObjectBox_ev l g a b c d hm) ?_
    generalize objBox l g a b c d = B
    refine Ev.ite (fun h1 => ?_) (fun h1 => ?_)
    · rw [if_pos (.inl h1)]; exact Ev.up (by simp only [impl_ObjectRow.j0, if_true]; exact Ev.now _)
    · refine Ev.up ?_
      simp only [impl_ObjectRow.j0]
      by_cases h2 : y ≥ B.2.2.2
      · rw [if_pos (.inr h2)]; simp only [decide_eq_true h2, if_true]; exact Ev.now _
      · rw [if_neg (by omega)]; simp only [decide_eq_false h2, Bool.false_eq_true, if_false]
        exact Ev.bind (iSpansAt_ev l y hm) (Ev.bind (iMeetSpans_ev _ _ _ (spansAt_max l y)) (Ev.now _))
  · have e : objBox l g a b c d = (0, 0, 0, 0) := by unfold objBox; rw [if_neg o]
    rw [e, if_pos (by simp only; omega)]; exact Ev.now _
def dotsR (l : List S166) (g a b c d : Int) : Nat → Int → Int → Int
  | 0, _, t => t
  | n + 1, y, t => dotsR l g a b c d n (y + 1) (wrap64 (t + spDots (objRow l g a b c d y)))
theorem iObjectDots_ev (l : List S166) (g a b c d : Int) (hm : l.length ≤ maxLen) : Ev (fun k => impl_ObjectDots.f k l g a b c d) (dotsR l g a b c d 32 0 0) := by
  simp only [impl_ObjectDots.f]
  refine ev_range (F := fun k s y => impl_ObjectDots.l0 k s y l g a b c d) 0 32 (by omega) (fun y s => dotsR l g a b c d (32 - y).toNat y s = dotsR l g a b c d 32 0 0) _ ?_ ?_ 0 rfl
  · intro s hs
    simp only [impl_ObjectDots.l0, Int.lt_irrefl, if_false]
    exact Ev.val hs
  · intro y s h1 h2 hs ih
    have e : (32 - y).toNat = (32 - (y + 1)).toNat + 1 := by omega
    rw [e] at hs
    have hw : wrap64 (y + 1) = y + 1 := wrap_id (by omega) (by omega)
    simp only [impl_ObjectDots.l0, if_pos h2]
    refine Ev.bind (iObjectRow_ev l g a b c d y hm) (Ev.bind (iSpanDots_ev _ (objRow_max l g a b c d y)) ?_)
    simp only [hw]
    exact ih _ hs
end Go.Proofs.Ytimpejidlnjhlaa.Pure
namespace Go.Proofs.Ytimpejidlnjhlaa.Pure
open Go.RowKit Go.Proofs.Ytimpejidlnjhlaa.QFnPageDots Go.Proofs.YtimpejidlnjhlaaW.PrintWords Go.Proofs.YtimpejidlnjhlaaW.PrintLast Go.Proofs.Ytimpejidlnjhlaa.Plain

section
variable {α : Type} (mk : Int → α → α) (ln : α → Int)
def mkAll : Int → List α → List α
  | _, [] => []
  | a, x :: r => mk a x :: mkAll (a + ln x) r
def lnAll : List α → Int
  | [] => 0
  | x :: r => ln x + lnAll r
theorem mkAll_length : ∀ (a : Int) (l : List α), (mkAll mk ln a l).length = l.length
  | _, [] => rfl
  | a, x :: r => by simp [mkAll, mkAll_length (a + ln x) r]
theorem lnAll_nn : ∀ l : List α, (∀ x ∈ l, 0 ≤ ln x) → 0 ≤ lnAll ln l
  | [], _ => Int.le_refl _
  | x :: r, h => by
    have h1 := h x (by simp)
    have h2 := lnAll_nn r (fun y hy => h y (by simp [hy]))
    unfold lnAll; omega
theorem lnAll_le : ∀ l : List α, (∀ x ∈ l, ln x ≤ 4194304) → lnAll ln l ≤ 4194304 * l.length
  | [], _ => by simp [lnAll]
  | x :: r, h => by
    have h1 := h x (by simp)
    have h2 := lnAll_le r (fun y hy => h y (by simp [hy]))
    unfold lnAll; rw [List.length_cons]; omega
theorem ev_mark (xs : List α) {F : Nat → List α → Int → Int → Option (Int × List α)} (a : Int) (hn : ∀ x ∈ xs, 0 ≤ ln x)
    (hnil : ∀ s b, s.length = xs.length → Ev (fun k => F (k + 1) s b (xs.length : Int)) (b, s))
    (hcons : ∀ (done : List α) x rest b, done.length + (rest.length + 1) = xs.length → x ∈ xs → a ≤ b → b + ln x ≤ a + lnAll ln xs → ∀ r, Ev (fun k => F k (done ++ mk b x :: rest) (b + ln x) ((done.length : Int) + 1)) r → Ev (fun k => F (k + 1) (done ++ x :: rest) b (done.length : Int)) r) :
    Ev (fun k => F k xs a 0) (a + lnAll ln xs, mkAll mk ln a xs) := by
  have main : ∀ (rest done : List α) (b : Int), done.length + rest.length = xs.length → (∀ x ∈ rest, x ∈ xs) → a ≤ b → b + lnAll ln rest = a + lnAll ln xs → Ev (fun k => F k (done ++ rest) b (done.length : Int)) (a + lnAll ln xs, done ++ mkAll mk ln b rest) := by
    intro rest
    induction rest with
    | nil =>
      intro done b hl _ _ hb
      have h := hnil (done ++ []) b (by simpa using hl)
      have e : (done.length : Int) = xs.length := by simp at hl; omega
      have e2 : b = a + lnAll ln xs := by simpa [lnAll] using hb
      rw [e, ← e2]
      simpa [mkAll] using Ev.up (g := fun k => F k (done ++ []) b (xs.length : Int)) h
    | cons x rest ih =>
      intro done b hl hm hab hb
      have hx := hm x (by simp)
      have h0 := hn x hx
      have h1 := lnAll_nn ln rest (fun y hy => hn y (hm y (by simp [hy])))
      have hb' : ln x + lnAll ln rest + b = a + lnAll ln xs := by simp only [lnAll] at hb; omega
      refine Ev.up (hcons done x rest b (by simpa using hl) hx hab (by omega) _ ?_)
      have h := ih (done ++ [mk b x]) (b + ln x) (by simp at hl ⊢; omega) (fun y hy => hm y (by simp [hy])) (by omega) (by omega)
      have e : ((done ++ [mk b x]).length : Int) = (done.length : Int) + 1 := by simp
      rw [e] at h
      simpa [mkAll] using h
  simpa using main xs [] a (by simp) (fun _ h => h) (Int.le_refl _) rfl
theorem ev_held (xs : List α) {F : Nat → Int → Int → Option Int} (a : Int) (hn : ∀ x ∈ xs, 0 ≤ ln x)
    (hnil : ∀ b, Ev (fun k => F (k + 1) b ((mkAll mk ln a xs).length : Int)) b)
    (hcons : ∀ pre x rest b, mkAll mk ln a xs = pre ++ mk b x :: rest → x ∈ xs → a ≤ b → b + ln x ≤ a + lnAll ln xs → ∀ r, Ev (fun k => F k (b + ln x) ((pre.length : Int) + 1)) r → Ev (fun k => F (k + 1) b (pre.length : Int)) r) :
    Ev (fun k => F k a 0) (a + lnAll ln xs) := by
  have main : ∀ (rest : List α) (pre : List α) (b : Int), mkAll mk ln a xs = pre ++ mkAll mk ln b rest → (∀ x ∈ rest, x ∈ xs) → a ≤ b → b + lnAll ln rest = a + lnAll ln xs → Ev (fun k => F k b (pre.length : Int)) (a + lnAll ln xs) := by
    intro rest
    induction rest with
    | nil =>
      intro pre b he _ _ hb
      have e : mkAll mk ln a xs = pre := by simpa [mkAll] using he
      have e2 : b = a + lnAll ln xs := by simpa [lnAll] using hb
      have h := hnil b
      rw [e] at h
      rw [← e2]
      exact Ev.up h
    | cons x rest ih =>
      intro pre b he hm hab hb
      have hx := hm x (by simp)
      have h0 := hn x hx
      have h1 := lnAll_nn ln rest (fun y hy => hn y (hm y (by simp [hy])))
      have hb' : ln x + lnAll ln rest + b = a + lnAll ln xs := by simp only [lnAll] at hb; omega
      refine Ev.up (hcons pre x (mkAll mk ln (b + ln x) rest) b he hx hab (by omega) _ ?_)
      have h := ih (pre ++ [mk b x]) (b + ln x) (by rw [he]; simp [mkAll]) (fun y hy => hm y (by simp [hy])) (by omega) (by omega)
      have e : ((pre ++ [mk b x]).length : Int) = (pre.length : Int) + 1 := by simp
      rw [e] at h
      exact h
  simpa using main xs [] a rfl (fun _ h => h) (Int.le_refl _) rfl
end
theorem set_mid {α : Type} (done rest : List α) (x y : α) : (done ++ x :: rest).set done.length y = done ++ y :: rest := by
  rw [List.set_append_right _ _ (Nat.le_refl _), Nat.sub_self]; rfl
theorem mid_lt2 {α : Type} (done rest : List α) (x : α) : ((done.length : Int) < ((done ++ x :: rest).length : Int)) = True := mid_lt
theorem mid_w2 {n : Nat} (h : n + 1 ≤ maxLen) : wrap64 ((n : Int) + 1) = (n : Int) + 1 := by rw [maxLen_eq] at h; exact wrap_id (by omega) (by omega)
end Go.Proofs.Ytimpejidlnjhlaa.Pure
namespace Go.Proofs.Ytimpejidlnjhlaa.Pure
open Go.RowKit Go.Proofs.Ytimpejidlnjhlaa.QFnPageDots Go.Proofs.YtimpejidlnjhlaaW.PrintWords Go.Proofs.YtimpejidlnjhlaaW.PrintLast Go.Proofs.Ytimpejidlnjhlaa.Plain

def wRow : List Int := List.replicate 32 255
def whiteRows (n : Int) : List (List Int) := if inB n 0 32 = true then List.replicate n.toNat wRow else []
theorem whiteRows_len (n : Int) : (whiteRows n).length ≤ 32 := by
  unfold whiteRows
  split
  · rename_i h; rw [inB_iff] at h; rw [List.length_replicate]; omega
  · simp
theorem whiteRows_row {n : Int} {x : List Int} (h : x ∈ whiteRows n) : x = wRow := by
  unfold whiteRows at h
  split at h
  · exact (List.mem_replicate.1 h).2
  · simp at h
theorem iWhiteRows_ev (n : Int) : Ev (fun k => impl_WhiteRows.f k n) (whiteRows n) := by
  simp only [impl_WhiteRows.f, within_eq, Option.bind_some]
  unfold whiteRows
  refine Ev.ite (fun c => ?_) (fun c => ?_)
  · rw [if_pos c]
    rw [inB_iff] at c
    have main : ∀ (m : Nat) (s : List (List Int)), s.length + m ≤ 64 → Ev (fun k => impl_WhiteRows.l0 k (m : Int) s) (s ++ List.replicate m wRow) := by
      intro m
      induction m with
      | zero =>
        intro s _
        refine Ev.up ?_
        simp only [impl_WhiteRows.l0, Int.ofNat_zero, gt_iff_lt, Int.lt_irrefl, if_false]
        exact Ev.val (by simp)
      | succ m ih =>
        intro s hs
        refine Ev.up ?_
        have hp : ((m + 1 : Nat) : Int) > 0 := by omega
        have hw : wrap64 (((m + 1 : Nat) : Int) - 1) = (m : Int) := by rw [wrap_id (by omega) (by omega)]; omega
        have hr : slices_Repeat_int_int.f ([255] : List Int) 32 = some wRow := by unfold slices_Repeat_int_int.f; rw [if_pos ⟨rfl, rfl⟩]; rfl
        have hl : s.length < 5864062014805 := by omega
        simp only [impl_WhiteRows.l0, if_pos hp, hr, Option.bind_some, if_pos hl, hw]
        have h := ih (s ++ [wRow]) (by simp; omega)
        simpa [List.replicate_succ] using h
    have h := main n.toNat [] (by simp; omega)
    rw [show ((n.toNat : Nat) : Int) = n by omega] at h
    simpa using h
  · rw [if_neg c]; exact Ev.now _
end Go.Proofs.Ytimpejidlnjhlaa.Pure
namespace Go.Proofs.Ytimpejidlnjhlaa.Pure
open Go.RowKit Go.Proofs.Ytimpejidlnjhlaa.QFnPageDots Go.Proofs.YtimpejidlnjhlaaW.PrintWords Go.Proofs.YtimpejidlnjhlaaW.PrintLast Go.Proofs.Ytimpejidlnjhlaa.Plain

def objsOk (l : List S41) : Bool := l.all fun o => objOk o.f0 o.f1 o.f2.f0 o.f2.f1 o.f2.f2 o.f2.f3
theorem objectsOk_ev (l : List S41) (hm : l.length ≤ maxLen) (hx : ∀ x ∈ l, x.f0.length ≤ maxLen) : Ev (fun k => impl_objectsOk.f k l) (objsOk l) := by
  simp only [impl_objectsOk.f]
  refine ev_loop0 l (F := fun k i => impl_objectsOk.l0 k l l.length i) (fun _ r => objsOk r) ?_ (fun pre x rest e h => ?_)
  · simp only [impl_objectsOk.l0, end_lt, if_false]; exact Ev.now _
  · have hxx := hx x (by rw [e]; simp)
    subst e
    simp only [impl_objectsOk.l0, mid_lt, mid_nn, mid_wrap hm, if_true, rd_T41, Int.toNat_natCast, mid_get]
    refine Ev.bind (iObjectOk_ev x.f0 _ _ _ _ _ hxx) ?_
    exact Ev.andB (fun _ => h)
end Go.Proofs.Ytimpejidlnjhlaa.Pure
namespace Go.Proofs.Ytimpejidlnjhlaa.Pure
open Go.RowKit Go.Proofs.Ytimpejidlnjhlaa.QFnPageDots Go.Proofs.YtimpejidlnjhlaaW.PrintWords Go.Proofs.YtimpejidlnjhlaaW.PrintLast Go.Proofs.Ytimpejidlnjhlaa.Plain

theorem meetGo_in (a b : Int) : ∀ (l s : List S140), (∀ y ∈ s, a ≤ y.f0 ∧ y.f1 ≤ b) → ∀ y ∈ meetGo a b l s, a ≤ y.f0 ∧ y.f1 ≤ b
  | [], _, hs, y, hy => hs y hy
  | x :: r, s, hs, y, hy => by
    unfold meetGo at hy
    refine meetGo_in a b r _ ?_ y hy
    intro z hz
    by_cases c : mx x.f0 a < mn x.f1 b
    · rw [if_pos c] at hz
      rcases List.mem_append.1 hz with h | h
      · exact hs z h
      · rw [List.mem_singleton] at h
        subst h
        unfold mx mn
        simp only
        constructor <;> split <;> omega
    · rw [if_neg c] at hz; exact hs z hz
theorem objRow_in {l : List S166} {g a b c d y : Int} : ∀ x ∈ objRow l g a b c d y, 0 ≤ x.f0 ∧ x.f1 ≤ 32 := by
  intro x hx
  unfold objRow at hx
  split at hx
  · simp at hx
  · unfold meetSp at hx
    split at hx
    · have hp := objBox_page l g a b c d
      obtain ⟨h0, _, h2, _⟩ := hp
      have h := meetGo_in _ _ _ [] (by simp) x hx
      omega
    · simp at hx
def R32 (n : Nat) (M : List (List Int)) : Prop := M.length = n ∧ ∀ r ∈ M, r.length = 32
theorem R32_row {n : Nat} {M : List (List Int)} (h : R32 n M) (j : Nat) (hj : j < n) : (M.getD j []).length = 32 := by
  have hl : j < M.length := by rw [h.1]; exact hj
  rw [List.getD_eq_getElem?_getD, List.getElem?_eq_getElem hl]
  exact h.2 _ (List.getElem_mem hl)
theorem R32_set {n : Nat} {M : List (List Int)} (h : R32 n M) (j : Nat) (hj : j < n) (x : Nat) (g : Int) : R32 n (M.set j ((M.getD j []).set x g)) := by
  refine ⟨by rw [List.length_set]; exact h.1, fun r hr => ?_⟩
  rcases List.mem_or_eq_of_mem_set hr with h1 | h1
  · exact h.2 r h1
  · rw [h1, List.length_set]; exact R32_row h j hj
def fillM (g : Int) (j : Nat) : Nat → Int → List (List Int) → List (List Int)
  | 0, _, M => M
  | n + 1, x, M => fillM g j n (x + 1) (M.set j ((M.getD j []).set x.toNat g))
theorem fillM_R {n : Nat} (g : Int) (j : Nat) (hj : j < n) : ∀ (m : Nat) (x : Int) (M : List (List Int)), R32 n M → R32 n (fillM g j m x M)
  | 0, _, _, h => h
  | m + 1, x, M, h => by unfold fillM; exact fillM_R g j hj m (x + 1) _ (R32_set h j hj _ g)
def spansM (g : Int) (j : Nat) : List S140 → List (List Int) → List (List Int)
  | [], M => M
  | x :: r, M => spansM g j r (fillM g j (x.f1 - x.f0).toNat x.f0 M)
theorem spansM_R {n : Nat} (g : Int) (j : Nat) (hj : j < n) : ∀ (l : List S140) (M : List (List Int)), R32 n M → R32 n (spansM g j l M)
  | [], _, h => h
  | x :: r, M, h => by unfold spansM; exact spansM_R g j hj r _ (fillM_R g j hj _ _ M h)
def paintM (l : List S166) (g a b c d y0 : Int) : Nat → Nat → List (List Int) → List (List Int)
  | 0, _, M => M
  | n + 1, j, M => paintM l g a b c d y0 n (j + 1) (spansM g j (objRow l g a b c d (wrap64 (y0 + j))) M)
theorem paintM_R {n : Nat} (l : List S166) (g a b c d y0 : Int) : ∀ (m j : Nat) (M : List (List Int)), j + m ≤ n → R32 n M → R32 n (paintM l g a b c d y0 m j M)
  | 0, _, _, _, h => h
  | m + 1, j, M, hj, h => by unfold paintM; exact paintM_R l g a b c d y0 m (j + 1) _ (by omega) (spansM_R g j (by omega) _ M h)
theorem ev_fill {β : Type} {n : Nat} {F : Nat → List (List Int) → Int → Option β} (g : Int) (j : Nat) (hj : j < n) (f1 : Int) (T : List (List Int)) (V : β)
    (hend : ∀ x, f1 ≤ x → Ev (fun k => F (k + 1) T x) V)
    (hstep : ∀ M x, R32 n M → 0 ≤ x → x < f1 → Ev (fun k => F k (M.set j ((M.getD j []).set x.toNat g)) (x + 1)) V → Ev (fun k => F (k + 1) M x) V) :
    ∀ (m : Nat) (M : List (List Int)) (x : Int), (f1 - x).toNat = m → 0 ≤ x → R32 n M → fillM g j m x M = T → Ev (fun k => F k M x) V
  | 0, M, x, hm, _, _, hT => by
    refine Ev.up ?_
    rw [fillM] at hT
    rw [hT]
    exact hend x (by omega)
  | m + 1, M, x, hm, h0, hR, hT => by
    refine Ev.up ?_
    rw [fillM] at hT
    exact hstep M x hR h0 (by omega) (ev_fill g j hj f1 T V hend hstep m _ (x + 1) (by omega) (by omega) (R32_set hR j hj _ g) hT)
theorem iPaint2 {n : Nat} (x1 j11 j12 : Int) (j : Nat) (s19 : List S140) (s20 s21 : Int) (l : List S166) (g a b c d q f0 f1 : Int) (V : List (List Int)) (M T : List (List Int)) (h : R32 n M) (hj : j < n) (h0 : 0 ≤ f0) (h1 : f1 ≤ 32) (hT : fillM g j (f1 - f0).toNat f0 M = T)
    (hk : Ev (fun k => impl_paint.l1 k T x1 j j11 j12 s19 s20 (wrap64 (s21 + 1)) l g a b c d) V) :
    Ev (fun k => impl_paint.l2 k M x1 j f0 j11 j12 s19 s20 s21 l g a b c d q f1) V := by
  refine ev_fill (F := fun k M x => impl_paint.l2 k M x1 j x j11 j12 s19 s20 s21 l g a b c d q f1) g j hj f1 T V ?_ ?_ _ M f0 rfl h0 h hT
  · intro x hx
    simp only [impl_paint.l2, if_neg (show ¬ x < f1 by omega)]
    exact hk
  · intro M x hM hx hx1 ih
    have hr := R32_row hM j hj
    have hl : (j : Int) < (M.length : Int) := by rw [hM.1]; omega
    have hxr : x < ((M.getD j []).length : Int) := by rw [hr]; omega
    have hw : wrap64 (x + 1) = x + 1 := wrap_id (by omega) (by omega)
    simp only [impl_paint.l2, if_pos hx1, mid_nn, if_true, if_pos hl, if_pos hx, rd_L3, Int.toNat_natCast, if_pos hxr, hw]
    exact ih
theorem iPaint_ev (l : List S166) (g a b c d y : Int) (rows : List (List Int)) {n : Nat} (hm : l.length ≤ maxLen) (hR : R32 n rows) (hn : n ≤ 32) : Ev (fun k => impl_paint.f k rows y l g a b c d) (paintM l g a b c d y n 0 rows) := by
  simp only [impl_paint.f]
  have hL : (rows.length : Int) = n := by rw [hR.1]
  rw [hL]
  refine ev_range (F := fun k M i => impl_paint.l0 k M y n i l g a b c d) 0 n (by omega) (fun i M => R32 n M ∧ paintM l g a b c d y ((n : Int) - i).toNat i.toNat M = paintM l g a b c d y n 0 rows) _ ?_ ?_ rows ⟨hR, by simp⟩
  · rintro M ⟨_, hT⟩
    rw [Int.sub_self] at hT
    simp only [impl_paint.l0, Int.lt_irrefl, if_false]
    exact Ev.val hT
  · rintro i M h0 h1 ⟨hM, hT⟩ ih
    generalize paintM l g a b c d y n 0 rows = V at hT ih ⊢
    obtain ⟨j, rfl⟩ : ∃ j : Nat, i = (j : Int) := ⟨i.toNat, by omega⟩
    have hj : j < n := by omega
    have e : ((n : Int) - (j : Int)).toNat = ((n : Int) - ((j : Int) + 1)).toNat + 1 := by omega
    rw [e, Int.toNat_natCast, paintM] at hT
    simp only [impl_paint.l0, if_pos h1]
    refine Ev.bind (iObjectRow_ev l g a b c d _ hm) ?_
    have hin := objRow_in (l := l) (g := g) (a := a) (b := b) (c := c) (d := d) (y := wrap64 (y + (j : Int)))
    have hrm := objRow_max l g a b c d (wrap64 (y + (j : Int)))
    generalize hN : spansM g j (objRow l g a b c d (wrap64 (y + (j : Int)))) M = N at hT
    generalize objRow l g a b c d (wrap64 (y + (j : Int))) = S at hin hrm hN ⊢
    have hNR : R32 n N := hN ▸ spansM_R g j hj S M hM
    have hw : wrap64 ((j : Int) + 1) = (j : Int) + 1 := wrap_id (by omega) (by omega)
    have ih1 := ih N ⟨hNR, by rw [show ((j : Int) + 1).toNat = j + 1 by omega]; exact hT⟩
    refine ev_loop S (F := fun k M i => impl_paint.l1 k M y j n j S S.length i l g a b c d) (fun _ r M => R32 n M ∧ spansM g j r M = N) (fun _ _ _ => V) ?_ ?_ M ⟨hM, hN⟩
    · rintro M1 ⟨_, e1⟩
      rw [spansM] at e1
      subst e1
      simp only [impl_paint.l1, end_lt, if_false, hw]
      exact ih1
    · rintro pre x rest M1 e1 ⟨hM1, hT1⟩ ih2
      have hx := hin x (by rw [e1]; simp)
      rw [spansM] at hT1
      have h2 := ih2 _ ⟨fillM_R g j hj _ _ M1 hM1, hT1⟩
      clear ih ih1 ih2 hin hN
      subst e1
      simp only [impl_paint.l1, mid_lt, mid_nn, if_true, rd_T140, Int.toNat_natCast, mid_get]
      refine iPaint2 y n j j _ _ _ l g a b c d _ x.f0 x.f1 V M1 _ hM1 hj hx.1 hx.2 rfl ?_
      rw [mid_wrap hrm]
      exact h2
theorem rowsOk_R {l : List (List Int)} (h : rowsOk l = true) : R32 l.length l ∧ l.length ≤ 32 := by
  unfold rowsOk at h
  simp only [Bool.and_eq_true, decide_eq_true_eq, List.all_eq_true] at h
  refine ⟨⟨rfl, fun r hr => ?_⟩, by omega⟩
  have h1 := h.2 r hr
  unfold rowOk at h1
  simp only [Bool.and_eq_true, decide_eq_true_eq, beq_iff_eq] at h1
  omega
def paintO (rows : List (List Int)) (y : Int) (l : List S166) (g a b c d : Int) : List (List Int) × Bool := if rowsOk rows = true then (if objOk l g a b c d = true then (if inB y 0 32 = true then (paintM l g a b c d y rows.length 0 rows, true) else (rows, false)) else (rows, false)) else (rows, false)
end Go.Proofs.Ytimpejidlnjhlaa.Pure
namespace Go.Proofs.Ytimpejidlnjhlaa.Pure
open Go.RowKit Go.Proofs.Ytimpejidlnjhlaa.QFnPageDots Go.Proofs.YtimpejidlnjhlaaW.PrintWords Go.Proofs.YtimpejidlnjhlaaW.PrintLast Go.Proofs.Ytimpejidlnjhlaa.Plain

def RG (n : Nat) (M : List (List Int)) : Prop := M.length = n ∧ ∀ r ∈ M, rowOk r = true
theorem rowOk_iff {r : List Int} : rowOk r = true ↔ r.length = 32 ∧ ∀ v ∈ r, inB v 0 255 = true := by
  unfold rowOk
  simp only [Bool.and_eq_true, decide_eq_true_eq, List.all_eq_true]
  constructor
  · rintro ⟨h1, h2⟩; exact ⟨by omega, h2⟩
  · rintro ⟨h1, h2⟩; exact ⟨by omega, h2⟩
theorem RG_32 {n : Nat} {M : List (List Int)} (h : RG n M) : R32 n M := ⟨h.1, fun r hr => (rowOk_iff.1 (h.2 r hr)).1⟩
theorem RG_ok {n : Nat} {M : List (List Int)} (h : RG n M) (hn : n ≤ 32) : rowsOk M = true := by
  have h0 := h.1
  unfold rowsOk
  simp only [Bool.and_eq_true, decide_eq_true_eq, List.all_eq_true]
  exact ⟨by omega, h.2⟩
theorem RG_set {n : Nat} {M : List (List Int)} (h : RG n M) (j : Nat) (hj : j < n) (x : Nat) (g : Int) (hg : inB g 0 255 = true) : RG n (M.set j ((M.getD j []).set x g)) := by
  refine ⟨by rw [List.length_set]; exact h.1, fun r hr => ?_⟩
  rcases List.mem_or_eq_of_mem_set hr with h1 | h1
  · exact h.2 r h1
  · have hl : j < M.length := by rw [h.1]; exact hj
    have e : M.getD j [] = M[j] := by rw [List.getD_eq_getElem?_getD, List.getElem?_eq_getElem hl]; rfl
    have ho := rowOk_iff.1 (h.2 _ (List.getElem_mem hl))
    rw [h1, e]
    refine rowOk_iff.2 ⟨by rw [List.length_set]; exact ho.1, fun v hv => ?_⟩
    rcases List.mem_or_eq_of_mem_set hv with h2 | h2
    · exact ho.2 v h2
    · rw [h2]; exact hg
theorem fillM_G {n : Nat} (g : Int) (hg : inB g 0 255 = true) (j : Nat) (hj : j < n) : ∀ (m : Nat) (x : Int) (M : List (List Int)), RG n M → RG n (fillM g j m x M)
  | 0, _, _, h => h
  | m + 1, x, M, h => by unfold fillM; exact fillM_G g hg j hj m (x + 1) _ (RG_set h j hj _ g hg)
theorem spansM_G {n : Nat} (g : Int) (hg : inB g 0 255 = true) (j : Nat) (hj : j < n) : ∀ (l : List S140) (M : List (List Int)), RG n M → RG n (spansM g j l M)
  | [], _, h => h
  | x :: r, M, h => by unfold spansM; exact spansM_G g hg j hj r _ (fillM_G g hg j hj _ _ M h)
theorem paintM_G {n : Nat} (l : List S166) (g a b c d y0 : Int) (hg : inB g 0 255 = true) : ∀ (m j : Nat) (M : List (List Int)), j + m ≤ n → RG n M → RG n (paintM l g a b c d y0 m j M)
  | 0, _, _, _, h => h
  | m + 1, j, M, hj, h => by unfold paintM; exact paintM_G l g a b c d y0 hg m (j + 1) _ (by omega) (spansM_G g hg j (by omega) _ M h)
theorem objOk_g {l : List S166} {g a b c d : Int} (h : objOk l g a b c d = true) : inB g 0 255 = true := by
  unfold objOk at h
  simp only [Bool.and_eq_true] at h
  first | exact h.2.2.2.1 | simp_all
def rendO (y : Int) (o : S41) (M : List (List Int)) : List (List Int) := if objOk o.f0 o.f1 o.f2.f0 o.f2.f1 o.f2.f2 o.f2.f3 = true then paintM o.f0 o.f1 o.f2.f0 o.f2.f1 o.f2.f2 o.f2.f3 y M.length 0 M else M
def rendGo (y : Int) : List S41 → List (List Int) → List (List Int)
  | [], M => M
  | o :: r, M => rendGo y r (rendO y o M)
theorem rendO_G {n : Nat} (y : Int) (o : S41) (M : List (List Int)) (h : RG n M) : RG n (rendO y o M) := by
  unfold rendO
  split
  · rename_i c
    rw [h.1]
    exact paintM_G _ _ _ _ _ _ _ (objOk_g c) n 0 M (by omega) h
  · exact h
theorem rendGo_G {n : Nat} (y : Int) : ∀ (l : List S41) (M : List (List Int)), RG n M → RG n (rendGo y l M)
  | [], _, h => h
  | o :: r, M, h => by unfold rendGo; exact rendGo_G y r _ (rendO_G y o M h)
theorem whiteRows_G (n : Int) : RG (whiteRows n).length (whiteRows n) := ⟨rfl, fun r hr => by rw [whiteRows_row hr]; exact rowOk_iff.2 ⟨rfl, fun v hv => by rw [(List.mem_replicate.1 hv).2]; decide⟩⟩
def paintA (l : List S41) : List (List Int) × Bool := if decide ((l.length : Int) ≤ 12) && objsOk l then (rendGo 0 l (whiteRows 32), true) else ([], false)
theorem iPaintAll_ev (l : List S41) (hm : l.length ≤ maxLen) (hx : ∀ x ∈ l, x.f0.length ≤ maxLen) : Ev (fun k => impl_PaintAll.f k l) (paintA l) := by
  simp only [impl_PaintAll.f]
  unfold paintA
  refine Ev.ite (fun c => ?_) (fun c => ?_)
  · have e : decide ((l.length : Int) ≤ 12) = false := decide_eq_false (by omega)
    rw [e]
    refine Ev.up ?_
    simp only [impl_PaintAll.j0, if_true, Bool.false_and, Bool.false_eq_true, if_false]; exact Ev.now _
  · have e : decide ((l.length : Int) ≤ 12) = true := decide_eq_true (by omega)
    rw [e]
    refine Ev.bind (objectsOk_ev l hm hx) ?_
    refine Ev.up ?_
    by_cases co : objsOk l = true
    · simp only [impl_PaintAll.j0, co, Bool.not_true, Bool.false_eq_true, if_false, if_true, Bool.true_and]
      refine Ev.bind (iWhiteRows_ev 32) ?_
      have hG := whiteRows_G 32
      have hL := whiteRows_len 32
      generalize whiteRows 32 = W at hG hL ⊢
      generalize hV : rendGo 0 l W = V
      refine ev_loop l (F := fun k M j => impl_PaintAll.l0 k M l l.length j) (fun _ r M => RG W.length M ∧ rendGo 0 r M = V) (fun _ _ _ => (V, true)) ?_ ?_ W ⟨hG, hV⟩
      · rintro M ⟨_, e⟩
        simp only [impl_PaintAll.l0, end_lt, if_false]
        exact Ev.val (by rw [← e]; rfl)
      · rintro pre x rest M e ⟨hM, hT⟩ ih
        have hxx := hx x (by rw [e]; simp)
        have hox : objOk x.f0 x.f1 x.f2.f0 x.f2.f1 x.f2.f2 x.f2.f3 = true := by
          unfold objsOk at co
          rw [List.all_eq_true] at co
          exact co x (by rw [e]; simp)
        rw [rendGo] at hT
        have h2 := ih _ ⟨rendO_G _ x M hM, hT⟩
        clear ih hV co c
        subst e
        simp only [impl_PaintAll.l0, mid_lt, mid_nn, mid_wrap hm, if_true, rd_T41, Int.toNat_natCast, mid_get]
        unfold rendO at h2
        rw [if_pos hox] at h2
        refine Ev.bind (iPaint_ev x.f0 _ _ _ _ _ _ M hxx (RG_32 hM) hL) ?_
        rw [hM.1] at h2
        exact h2
    · have c' : objsOk l = false := by simpa using co
      simp only [impl_PaintAll.j0, c', Bool.not_false, if_true, Bool.and_false, Bool.false_eq_true, if_false]; exact Ev.now _
end Go.Proofs.Ytimpejidlnjhlaa.Pure
namespace Go.Proofs.Ytimpejidlnjhlaa.Pure
open Go.RowKit Go.Proofs.Ytimpejidlnjhlaa.QFnPageDots Go.Proofs.YtimpejidlnjhlaaW.PrintWords Go.Proofs.YtimpejidlnjhlaaW.PrintLast Go.Proofs.Ytimpejidlnjhlaa.Plain

theorem and255 (x : Int) : 0 ≤ Go.bits .and .i64 x 255 ∧ Go.bits .and .i64 x 255 ≤ 255 := by
  have h : ((BitVec.ofInt 64 x) &&& (BitVec.ofInt 64 255)).toNat ≤ 255 := by
    rw [BitVec.toNat_and]; exact Nat.le_trans Nat.and_le_right (by decide)
  have e : Go.bits .and .i64 x 255 = IntKind.wrap .i64 (((BitVec.ofInt 64 x) &&& (BitVec.ofInt 64 255)).toNat : Int) := rfl
  rw [e]
  generalize ((BitVec.ofInt 64 x) &&& (BitVec.ofInt 64 255)).toNat = n at h
  have e2 : IntKind.wrap .i64 (n : Int) = n := by
    have e3 : IntKind.wrap .i64 (n : Int) = if ((true && decide ((n : Int) % 2 ^ 64 ≥ 2 ^ 63)) = true) then (n : Int) % 2 ^ 64 - 2 ^ 64 else (n : Int) % 2 ^ 64 := rfl
    rw [e3]
    have c : ¬ ((true && decide ((n : Int) % 2 ^ 64 ≥ 2 ^ 63)) = true) := by simp; omega
    rw [if_neg c]; omega
  rw [e2]; omega
theorem byte_ok (b : List Int) (i h : Int) (hb : (b.length : Int) ≤ 1048576) (h0 : 0 ≤ i) (h1 : i ≤ 1048576) : ∃ v i' h', spec_l01Byte.f b i h = some (v, i', h') ∧ 0 ≤ v ∧ v ≤ 255 ∧ 0 ≤ i' ∧ i' ≤ 1048576 := by
  unfold spec_l01Byte.f
  by_cases c : i < (b.length : Int)
  · rw [if_pos c, if_pos h0]
    have hw : wrap64 (i + 1) = i + 1 := wrap_id (by omega) (by omega)
    exact ⟨_, _, _, rfl, (and255 _).1, (and255 _).2, by rw [hw]; omega, by rw [hw]; omega⟩
  · rw [if_neg c]
    exact ⟨_, _, _, rfl, (and255 _).1, (and255 _).2, h0, h1⟩
theorem below_ok (b : List Int) (i h n : Int) (hn : 0 < n) (hn2 : n ≤ 256) (hb : (b.length : Int) ≤ 1048576) (h0 : 0 ≤ i) (h1 : i ≤ 1048576) : ∃ v i' h', spec_l01Below.f b i h n = some (v, i', h') ∧ 0 ≤ v ∧ v < n ∧ 0 ≤ i' ∧ i' ≤ 1048576 := by
  obtain ⟨v, i', h', e, g0, g1, g2, g3⟩ := byte_ok b i h hb h0 h1
  unfold spec_l01Below.f
  rw [if_neg (by omega), if_pos hn2, e]
  refine ⟨Int.tmod v n, i', h', ?_, Int.tmod_nonneg _ g0, Int.tmod_lt_of_pos _ hn, g2, g3⟩
  simp only [Option.bind_some]
  rw [if_neg (by omega)]
theorem once_ok (b : List Int) (i h n : Int) (hn : 0 < n) (hn2 : n ≤ 256) (hb : (b.length : Int) ≤ 1048576) (h0 : 0 ≤ i) (h1 : i ≤ 1048576) : ∃ v i' h', spec_l01Once.f b i h n = some (v, i', h') ∧ 0 ≤ i' ∧ i' ≤ 1048576 := by
  obtain ⟨v, i', h', e, _, _, g2, g3⟩ := below_ok b i h n hn hn2 hb h0 h1
  unfold spec_l01Once.f
  rw [e]
  exact ⟨_, _, _, rfl, g2, g3⟩
theorem pick_ok (b : List Int) (i h : Int) (l : List Int) (hn : 0 < l.length) (hn2 : l.length ≤ 256) (hb : (b.length : Int) ≤ 1048576) (h0 : 0 ≤ i) (h1 : i ≤ 1048576) : ∃ v i' h', spec_l01PickInt.f b i h l = some (v, i', h') ∧ v ∈ l ∧ 0 ≤ i' ∧ i' ≤ 1048576 := by
  obtain ⟨v, i', h', e, g0, g1, g2, g3⟩ := below_ok b i h l.length (by omega) (by omega) hb h0 h1
  unfold spec_l01PickInt.f
  rw [e]
  simp only [Option.bind_some, if_pos g0, if_pos g1]
  refine ⟨_, _, _, rfl, ?_, g2, g3⟩
  have hv : v.toNat < l.length := by omega
  have e2 : rd l v = l[v.toNat] := by simp [rd, List.getD_eq_getElem?_getD, List.getElem?_eq_getElem hv]
  rw [e2]
  exact List.getElem_mem hv
theorem new_ok (b : List Int) (hb : (b.length : Int) ≤ 1048576) : ∃ h', Ev (fun k => spec_l01New.f k b) (b, 0, h') := by
  simp only [spec_l01New.f]
  have main : ∀ (m : Nat) (i : Nat) (h : Int), 4001 - i = m → ∃ h', Ev (fun k => spec_l01New.l0 k b h (i : Int)) (b, 0, h') := by
    intro m
    induction m with
    | zero =>
      intro i h hm
      refine ⟨h, Ev.up ?_⟩
      simp only [spec_l01New.l0, if_neg (show ¬ (i : Int) < 4000 by omega)]
      exact Ev.ite (fun _ => Ev.now _) (fun _ => Ev.now _)
    | succ m ih =>
      intro i h hm
      by_cases c : (i : Int) < (b.length : Int)
      · by_cases c2 : (i : Int) < 4000
        · have hw : wrap64 ((i : Int) + 1) = ((i + 1 : Nat) : Int) := by rw [wrap_id (by omega) (by omega)]; simp
          obtain ⟨h', e⟩ := ih (i + 1) (Go.bits .and .i64 (wrap64 ((wrap64 ((wrap64 (h * 131)) + (wrap64 (rd b (i : Int))))) + 7)) 1073741823) (by omega)
          refine ⟨h', Ev.up ?_⟩
          simp only [spec_l01New.l0, if_pos c, if_pos c2, mid_nn, if_true, hw]
          exact e
        · refine ⟨h, Ev.up ?_⟩
          simp only [spec_l01New.l0, if_pos c, if_neg c2]; exact Ev.now _
      · refine ⟨h, Ev.up ?_⟩
        simp only [spec_l01New.l0, if_neg c]; exact Ev.now _
  exact main 4001 0 _ rfl
end Go.Proofs.Ytimpejidlnjhlaa.Pure
namespace Go.Proofs.Ytimpejidlnjhlaa.Pure
open Go.RowKit Go.Proofs.Ytimpejidlnjhlaa.QFnPageDots Go.Proofs.YtimpejidlnjhlaaW.PrintWords Go.Proofs.YtimpejidlnjhlaaW.PrintLast Go.Proofs.Ytimpejidlnjhlaa.Plain

theorem point_ok (b : List Int) (i h : Int) (hb : (b.length : Int) ≤ 1048576) (h0 : 0 ≤ i) (h1 : i ≤ 1048576) : ∃ x y i' h', spec_l02Point.f b i h = some (x, y, i', h') ∧ (-4 ≤ x ∧ x ≤ 36) ∧ (-4 ≤ y ∧ y ≤ 36) ∧ 0 ≤ i' ∧ i' ≤ 1048576 := by
  obtain ⟨u, i1, g1, e1, a1, a2, a3, a4⟩ := below_ok b i h 33 (by omega) (by omega) hb h0 h1
  obtain ⟨v, i2, g2, e2, b1, b2, b3, b4⟩ := below_ok b i1 g1 41 (by omega) (by omega) hb a3 a4
  have w1 : wrap64 (v - 4) = v - 4 := wrap_id (by omega) (by omega)
  obtain ⟨x, i3, g3, e3, c1, c3, c4⟩ := pick_ok b i2 g2 [0, 32, u, v - 4] (by simp) (by simp) hb b3 b4
  obtain ⟨u2, i4, g4, e4, d1, d2, d3, d4⟩ := below_ok b i3 g3 33 (by omega) (by omega) hb c3 c4
  obtain ⟨v2, i5, g5, e5, f1, f2, f3, f4⟩ := below_ok b i4 g4 41 (by omega) (by omega) hb d3 d4
  have w2 : wrap64 (v2 - 4) = v2 - 4 := wrap_id (by omega) (by omega)
  obtain ⟨y, i6, g6, e6, k1, k3, k4⟩ := pick_ok b i5 g5 [0, 32, u2, v2 - 4] (by simp) (by simp) hb f3 f4
  refine ⟨x, y, i6, g6, ?_, ?_, ?_, k3, k4⟩
  · unfold spec_l02Point.f
    simp only [e1, Option.bind_some, e2, w1, e3, e4, e5, w2, e6]
  · simp only [List.mem_cons, List.not_mem_nil, or_false] at c1; omega
  · simp only [List.mem_cons, List.not_mem_nil, or_false] at k1; omega
theorem lbox_ok (b : List Int) (i h : Int) (hb : (b.length : Int) ≤ 1048576) (h0 : 0 ≤ i) (h1 : i ≤ 1048576) : ∃ x0 y0 x1 y1 i' h', spec_l02Box.f b i h = some (x0, y0, x1, y1, i', h') ∧ (-4 ≤ x0 ∧ x0 ≤ x1 ∧ x1 ≤ 36) ∧ (-4 ≤ y0 ∧ y0 ≤ y1 ∧ y1 ≤ 36) ∧ 0 ≤ i' ∧ i' ≤ 1048576 := by
  obtain ⟨x, y, i1, g1, e1, a1, a2, a3, a4⟩ := point_ok b i h hb h0 h1
  obtain ⟨x2, y2, i2, g2, e2, b1, b2, b3, b4⟩ := point_ok b i1 g1 hb a3 a4
  refine ⟨mn x x2, mn y y2, mx x x2, mx y y2, i2, g2, ?_, ?_, ?_, b3, b4⟩
  · unfold spec_l02Box.f
    simp only [e1, Option.bind_some, e2]
  · unfold mn mx; refine ⟨?_, ?_, ?_⟩ <;> (repeat' split) <;> omega
  · unfold mn mx; refine ⟨?_, ?_, ?_⟩ <;> (repeat' split) <;> omega
def ptIn (p : S166) : Prop := (-4 ≤ p.f0 ∧ p.f0 ≤ 36) ∧ (-4 ≤ p.f1 ∧ p.f1 ≤ 36)
theorem path_loop (b : List Int) (hb : (b.length : Int) ≤ 1048576) (n : Int) (hn : n ≤ 32) : ∀ (m : Nat) (s : List S166) (i h : Int), (n - s.length).toNat = m → (s.length : Int) ≤ n → (∀ p ∈ s, ptIn p) → 0 ≤ i → i ≤ 1048576 →
    ∃ M i' h', (∀ p ∈ M, ptIn p) ∧ (M.length : Int) = n ∧ 0 ≤ i' ∧ i' ≤ 1048576 ∧ Ev (fun k => spec_l08Path.l0 k s n (s.length : Int) b i h) (M, i', h')
  | 0, s, i, h, hm, hs, hv, h0, h1 => by
    refine ⟨s, i, h, hv, by omega, h0, h1, Ev.up ?_⟩
    simp only [spec_l08Path.l0, if_neg (show ¬ (s.length : Int) < n by omega)]
    exact Ev.now _
  | m + 1, s, i, h, hm, hs, hv, h0, h1 => by
    have hlt : (s.length : Int) < n := by omega
    have hs8 : s.length < 8796093022208 := by omega
    obtain ⟨x, y, i1, g1, e1, a1, a2, a3, a4⟩ := point_ok b i h hb h0 h1
    have hw : wrap64 ((s.length : Int) + 1) = ((s ++ [(⟨x, y⟩ : S166)]).length : Int) := by rw [wrap_id (by omega) (by omega)]; simp
    obtain ⟨M, i', h', f1, f2, f3, f4, f5⟩ := path_loop b hb n hn m (s ++ [⟨x, y⟩]) i1 g1 (by simp; omega) (by simp; omega) (fun z hz => by
      rcases List.mem_append.1 hz with hz | hz
      · exact hv z hz
      · rw [List.mem_singleton] at hz; rw [hz]; exact ⟨a1, a2⟩) a3 a4
    refine ⟨M, i', h', f1, f2, f3, f4, Ev.up ?_⟩
    simp only [spec_l08Path.l0, if_pos hlt, e1, Option.bind_some, if_pos hs8, hw]
    exact f5
theorem path_ok (b : List Int) (i h : Int) (hb : (b.length : Int) ≤ 1048576) (h0 : 0 ≤ i) (h1 : i ≤ 1048576) :
    ∃ M i' h', (∀ p ∈ M, ptIn p) ∧ 3 ≤ (M.length : Int) ∧ (M.length : Int) ≤ 6 ∧ 0 ≤ i' ∧ i' ≤ 1048576 ∧ Ev (fun k => spec_l08Path.f k b i h) (M, i', h') := by
  obtain ⟨n, i1, g1, e1, a1, a2, a3, a4⟩ := below_ok b i h 4 (by omega) (by omega) hb h0 h1
  have hw : wrap64 (3 + n) = 3 + n := wrap_id (by omega) (by omega)
  obtain ⟨M, i', h', f1, f2, f3, f4, f5⟩ := path_loop b hb (3 + n) (by omega) (3 + n).toNat [] i1 g1 (by simp) (by simp; omega) (by simp) a3 a4
  refine ⟨M, i', h', f1, by omega, by omega, f3, f4, ?_⟩
  simp only [spec_l08Path.f, e1, Option.bind_some, hw]
  exact f5
theorem objOk_in {l : List S166} {g a b c d : Int} (h1 : ∀ p ∈ l, ptIn p) (h3 : 3 ≤ (l.length : Int)) (h8 : (l.length : Int) ≤ 8) (hg : 0 ≤ g ∧ g ≤ 255) (ha : -4 ≤ a ∧ a ≤ c ∧ c ≤ 36) (hb : -4 ≤ b ∧ b ≤ d ∧ d ≤ 36) : objOk l g a b c d = true := by
  unfold objOk
  simp only [Bool.and_eq_true, decide_eq_true_eq]
  refine ⟨h3, h8, ?_, by rw [inB_iff]; omega, ?_⟩
  · unfold ptsOk
    rw [List.all_eq_true]
    intro p hp
    have h := h1 p hp
    unfold ptIn at h
    simp only [coord, Bool.and_eq_true, inB_iff]
    omega
  · simp only [boxOk, coord, Bool.and_eq_true, inB_iff, decide_eq_true_eq]
    omega
def objIn (l : List S166) (g a b c d : Int) : Prop := (∀ p ∈ l, ptIn p) ∧ 3 ≤ (l.length : Int) ∧ (l.length : Int) ≤ 6 ∧ (0 ≤ g ∧ g ≤ 255) ∧ (-4 ≤ a ∧ a ≤ c ∧ c ≤ 36) ∧ (-4 ≤ b ∧ b ≤ d ∧ d ≤ 36)
theorem objIn_ok {l : List S166} {g a b c d : Int} (h : objIn l g a b c d) : objOk l g a b c d = true := objOk_in h.1 h.2.1 (by have := h.2.2.1; omega) h.2.2.2.1 h.2.2.2.2.1 h.2.2.2.2.2
theorem object_in (b : List Int) (i h : Int) (hb : (b.length : Int) ≤ 1048576) (h0 : 0 ≤ i) (h1 : i ≤ 1048576) :
    ∃ l g x0 y0 x1 y1 i' h', objIn l g x0 y0 x1 y1 ∧ 0 ≤ i' ∧ i' ≤ 1048576 ∧ Ev (fun k => spec_l10Object.f k b i h) (l, g, x0, y0, x1, y1, i', h') := by
  obtain ⟨M, i1, g1, f1, f2, f3, f4, f5, f6⟩ := path_ok b i h hb h0 h1
  obtain ⟨v, i2, g2, e2, b1, b2, b3, b4⟩ := below_ok b i1 g1 256 (by omega) (by omega) hb f4 f5
  obtain ⟨u, i3, g3, e3, c1, c3, c4⟩ := pick_ok b i2 g2 [0, 255, 128, v] (by simp) (by simp) hb b3 b4
  have hu : 0 ≤ u ∧ u ≤ 255 := by
    simp only [List.mem_cons, List.not_mem_nil, or_false] at c1; omega
  have hend : ∀ (x0 y0 x1 y1 i4 g4 : Int), (-4 ≤ x0 ∧ x0 ≤ x1 ∧ x1 ≤ 36) → (-4 ≤ y0 ∧ y0 ≤ y1 ∧ y1 ≤ 36) → 0 ≤ i4 → i4 ≤ 1048576 →
      ∃ l i' h', objIn l u x0 y0 x1 y1 ∧ 0 ≤ i' ∧ i' ≤ 1048576 ∧ Ev (fun k => spec_l10Object.j0 k b i4 g4 M u x0 y0 x1 y1) (l, u, x0, y0, x1, y1, i', h') := by
    intro x0 y0 x1 y1 i4 g4 hx hy k0 k1
    obtain ⟨o, i5, g5, e5, d1, d2⟩ := once_ok b i4 g4 3 (by omega) (by omega) hb k0 k1
    cases o with
    | true =>
      obtain ⟨p0, q0, p1, q1, i6, g6, e6, m1, m2, m3, m4⟩ := lbox_ok b i5 g5 hb d1 d2
      refine ⟨[⟨p0, q0⟩, ⟨p1, q0⟩, ⟨p1, q1⟩, ⟨p0, q1⟩], i6, g6, ⟨?_, by simp, by simp, hu, hx, hy⟩, m3, m4, Ev.up ?_⟩
      · intro p hp
        simp only [List.mem_cons, List.not_mem_nil, or_false] at hp
        unfold ptIn
        rcases hp with rfl | rfl | rfl | rfl <;> simp only <;> omega
      · simp only [spec_l10Object.j0, e5, Option.bind_some, if_true, e6]
        exact Ev.now _
    | false =>
      refine ⟨M, i5, g5, ⟨f1, f2, f3, hu, hx, hy⟩, d1, d2, Ev.up ?_⟩
      simp only [spec_l10Object.j0, e5, Option.bind_some, Bool.false_eq_true, if_false]
      exact Ev.now _
  obtain ⟨o, i4, g4, e4, d1, d2⟩ := once_ok b i3 g3 3 (by omega) (by omega) hb c3 c4
  cases o with
  | true =>
    obtain ⟨p0, q0, p1, q1, i6, g6, e6, m1, m2, m3, m4⟩ := lbox_ok b i4 g4 hb d1 d2
    obtain ⟨l, i', h', n1, n2, n3, n4⟩ := hend p0 q0 p1 q1 i6 g6 m1 m2 m3 m4
    refine ⟨l, u, p0, q0, p1, q1, i', h', n1, n2, n3, ?_⟩
    simp only [spec_l10Object.f]
    refine Ev.bind f6 ?_
    simp only [e2, Option.bind_some, e3, spec_l07Full.f, e4, if_true, e6]
    exact n4
  | false =>
    obtain ⟨l, i', h', n1, n2, n3, n4⟩ := hend 0 0 32 32 i4 g4 (by omega) (by omega) d1 d2
    refine ⟨l, u, 0, 0, 32, 32, i', h', n1, n2, n3, ?_⟩
    simp only [spec_l10Object.f]
    refine Ev.bind f6 ?_
    simp only [e2, Option.bind_some, e3, spec_l07Full.f, e4, Bool.false_eq_true, if_false]
    exact n4
theorem object_ok (b : List Int) (i h : Int) (hb : (b.length : Int) ≤ 1048576) (h0 : 0 ≤ i) (h1 : i ≤ 1048576) :
    ∃ l g x0 y0 x1 y1 i' h', objOk l g x0 y0 x1 y1 = true ∧ 0 ≤ i' ∧ i' ≤ 1048576 ∧ Ev (fun k => spec_l10Object.f k b i h) (l, g, x0, y0, x1, y1, i', h') := by
  obtain ⟨l, g, x0, y0, x1, y1, i', h', n1, n2⟩ := object_in b i h hb h0 h1
  exact ⟨l, g, x0, y0, x1, y1, i', h', objIn_ok n1, n2⟩
theorem drawObject_in (b : List Int) (hb : (b.length : Int) ≤ 1048576) : ∃ l g x0 y0 x1 y1, objIn l g x0 y0 x1 y1 ∧ Ev (fun k => spec_DrawObject.f k b) (l, g, x0, y0, x1, y1) := by
  obtain ⟨h0, e0⟩ := new_ok b hb
  obtain ⟨l, g, x0, y0, x1, y1, i', h', n1, n2, n3, n4⟩ := object_in b 0 h0 hb (by omega) (by omega)
  refine ⟨l, g, x0, y0, x1, y1, n1, ?_⟩
  simp only [spec_DrawObject.f]
  exact Ev.bind e0 (Ev.bind n4 (Ev.now _))
theorem drawObject_ok (b : List Int) (hb : (b.length : Int) ≤ 1048576) : ∃ l g x0 y0 x1 y1, objOk l g x0 y0 x1 y1 = true ∧ Ev (fun k => spec_DrawObject.f k b) (l, g, x0, y0, x1, y1) := by
  obtain ⟨l, g, x0, y0, x1, y1, n1, n2⟩ := drawObject_in b hb
  exact ⟨l, g, x0, y0, x1, y1, objIn_ok n1, n2⟩
end Go.Proofs.Ytimpejidlnjhlaa.Pure
namespace Go.Proofs.Ytimpejidlnjhlaa.Pure
open Go.RowKit Go.Proofs.Ytimpejidlnjhlaa.QFnPageDots Go.Proofs.YtimpejidlnjhlaaW.PrintWords Go.Proofs.YtimpejidlnjhlaaW.PrintLast Go.Proofs.Ytimpejidlnjhlaa.Plain

def inSp (l : List S140) (x : Int) : Bool := l.any fun s => decide (s.f0 ≤ x) && decide (x < s.f1)
def cell (M : List (List Int)) (j x : Nat) : Int := (M.getD j []).getD x 0
theorem cell_set {n : Nat} {M : List (List Int)} (h : R32 n M) (j : Nat) (hj : j < n) (x : Nat) (hx : x < 32) (g : Int) (j' x' : Nat) : cell (M.set j ((M.getD j []).set x g)) j' x' = if j' = j ∧ x' = x then g else cell M j' x' := by
  have hr := R32_row h j hj
  have hl : j < M.length := by rw [h.1]; exact hj
  unfold cell
  by_cases c : j' = j
  · subst c
    have e : (M.set j' ((M.getD j' []).set x g)).getD j' [] = (M.getD j' []).set x g := by
      rw [List.getD_eq_getElem?_getD, List.getElem?_set_self hl]; rfl
    rw [e]
    by_cases c2 : x' = x
    · subst c2
      rw [if_pos ⟨rfl, rfl⟩, List.getD_eq_getElem?_getD, List.getElem?_set_self (by omega)]; rfl
    · rw [if_neg (fun z => c2 z.2), List.getD_eq_getElem?_getD, List.getElem?_set_ne (fun z => c2 z.symm), ← List.getD_eq_getElem?_getD]
  · rw [if_neg (fun z => c z.1)]
    have e : (M.set j ((M.getD j []).set x g)).getD j' [] = M.getD j' [] := by
      rw [List.getD_eq_getElem?_getD, List.getElem?_set_ne (fun z => c z.symm), ← List.getD_eq_getElem?_getD]
    rw [e]
theorem fillM_cell {n : Nat} (g : Int) (j : Nat) (hj : j < n) (j' x' : Nat) : ∀ (m : Nat) (x : Int) (M : List (List Int)), R32 n M → 0 ≤ x → x + m ≤ 32 → cell (fillM g j m x M) j' x' = if j' = j ∧ x ≤ (x' : Int) ∧ (x' : Int) < x + m then g else cell M j' x'
  | 0, x, M, _, _, _ => by
    rw [fillM, if_neg (by omega)]
  | m + 1, x, M, hR, h0, h1 => by
    rw [fillM, fillM_cell g j hj j' x' m (x + 1) _ (R32_set hR j hj _ g) (by omega) (by omega), cell_set hR j hj x.toNat (by omega) g j' x']
    by_cases c : j' = j ∧ x ≤ (x' : Int) ∧ (x' : Int) < x + (m + 1 : Nat)
    · rw [if_pos c]
      by_cases c2 : x' = x.toNat
      · rw [if_neg (by omega), if_pos ⟨c.1, c2⟩]
      · rw [if_pos (by omega)]
    · rw [if_neg c, if_neg (by omega), if_neg (by omega)]
theorem spansM_cell {n : Nat} (g : Int) (j : Nat) (hj : j < n) (j' x' : Nat) : ∀ (l : List S140) (M : List (List Int)), R32 n M → (∀ s ∈ l, 0 ≤ s.f0 ∧ s.f1 ≤ 32) → cell (spansM g j l M) j' x' = if j' = j ∧ inSp l x' = true then g else cell M j' x'
  | [], M, _, _ => by simp [spansM, inSp]
  | s :: r, M, hR, h => by
    have hs := h s (by simp)
    have hR2 := fillM_R g j hj (s.f1 - s.f0).toNat s.f0 M hR
    rw [spansM, spansM_cell g j hj j' x' r _ hR2 (fun z hz => h z (by simp [hz]))]
    by_cases e : s.f0 ≤ s.f1
    · rw [fillM_cell g j hj j' x' _ s.f0 M hR hs.1 (by omega)]
      have hq : inSp (s :: r) x' = ((decide (s.f0 ≤ (x' : Int)) && decide ((x' : Int) < s.f1)) || inSp r x') := by simp [inSp]
      rw [hq]
      by_cases c1 : j' = j ∧ inSp r x' = true
      · rw [if_pos c1, if_pos ⟨c1.1, by rw [c1.2]; simp⟩]
      · rw [if_neg c1]
        by_cases c2 : j' = j ∧ s.f0 ≤ (x' : Int) ∧ (x' : Int) < s.f0 + ((s.f1 - s.f0).toNat : Int)
        · rw [if_pos c2, if_pos ⟨c2.1, by rw [decide_eq_true c2.2.1, decide_eq_true (show (x' : Int) < s.f1 by omega)]; rfl⟩]
        · rw [if_neg c2, if_neg]
          rintro ⟨k1, k2⟩
          simp only [Bool.or_eq_true, Bool.and_eq_true, decide_eq_true_eq] at k2
          rcases k2 with k2 | k2
          · exact c2 ⟨k1, k2.1, by omega⟩
          · exact c1 ⟨k1, k2⟩
    · have hz : (s.f1 - s.f0).toNat = 0 := by omega
      have hq : inSp (s :: r) x' = inSp r x' := by
        have : (decide (s.f0 ≤ (x' : Int)) && decide ((x' : Int) < s.f1)) = false := by
          rw [Bool.and_eq_false_iff]
          by_cases k : s.f0 ≤ (x' : Int)
          · exact .inr (decide_eq_false (by omega))
          · exact .inl (decide_eq_false k)
        simp only [inSp, List.any_cons, this, Bool.false_or]
      rw [hz, fillM, hq]
theorem paintM_cell {n : Nat} (l : List S166) (g a b c d y0 : Int) (j' x' : Nat) : ∀ (m j : Nat) (M : List (List Int)), j + m ≤ n → R32 n M → cell (paintM l g a b c d y0 m j M) j' x' = if (j ≤ j' ∧ j' < j + m) ∧ inSp (objRow l g a b c d (wrap64 (y0 + j'))) x' = true then g else cell M j' x'
  | 0, j, M, _, _ => by
    rw [paintM, if_neg (by omega)]
  | m + 1, j, M, hj, hR => by
    rw [paintM, paintM_cell l g a b c d y0 j' x' m (j + 1) _ (by omega) (spansM_R g j (by omega) _ M hR), spansM_cell g j (by omega) j' x' _ M hR objRow_in]
    by_cases e : j' = j
    · subst e
      rw [if_neg (by omega)]
      by_cases k : inSp (objRow l g a b c d (wrap64 (y0 + (j' : Int)))) x' = true
      · rw [if_pos ⟨rfl, k⟩, if_pos ⟨by omega, k⟩]
      · rw [if_neg (fun z => k z.2), if_neg (fun z => k z.2)]
    · by_cases k : (j + 1 ≤ j' ∧ j' < j + 1 + m) ∧ inSp (objRow l g a b c d (wrap64 (y0 + (j' : Int)))) x' = true
      · rw [if_pos k, if_pos ⟨by omega, k.2⟩]
      · rw [if_neg k, if_neg (fun z => e z.1), if_neg (fun z => k ⟨by omega, z.2⟩)]
theorem cells_ext {n : Nat} {M N : List (List Int)} (hM : R32 n M) (hN : R32 n N) (h : ∀ j x, j < n → x < 32 → cell M j x = cell N j x) : M = N := by
  refine List.ext_getElem (by rw [hM.1, hN.1]) (fun j h1 h2 => ?_)
  have hj : j < n := by rw [← hM.1]; exact h1
  refine List.ext_getElem (by rw [hM.2 _ (List.getElem_mem h1), hN.2 _ (List.getElem_mem h2)]) (fun x k1 k2 => ?_)
  have hx : x < 32 := by rw [← hM.2 _ (List.getElem_mem h1)]; exact k1
  have hc := h j x hj hx
  unfold cell at hc
  have e1 : M.getD j [] = M[j] := by rw [List.getD_eq_getElem?_getD, List.getElem?_eq_getElem h1]; rfl
  have e2 : N.getD j [] = N[j] := by rw [List.getD_eq_getElem?_getD, List.getElem?_eq_getElem h2]; rfl
  rw [e1, e2, List.getD_eq_getElem?_getD, List.getD_eq_getElem?_getD, List.getElem?_eq_getElem k1, List.getElem?_eq_getElem k2] at hc
  exact hc
end Go.Proofs.Ytimpejidlnjhlaa.Pure
namespace Go.Proofs.Ytimpejidlnjhlaa.Pure
open Go.RowKit Go.Proofs.Ytimpejidlnjhlaa.QFnPageDots Go.Proofs.YtimpejidlnjhlaaW.PrintWords Go.Proofs.YtimpejidlnjhlaaW.PrintLast Go.Proofs.Ytimpejidlnjhlaa.Plain

end Go.Proofs.Ytimpejidlnjhlaa.Pure
namespace Go.Proofs.Ytimpejidlnjhlaa.Pure
open Go.RowKit Go.Proofs.Ytimpejidlnjhlaa.QFnPageDots Go.Proofs.YtimpejidlnjhlaaW.PrintWords Go.Proofs.YtimpejidlnjhlaaW.PrintLast Go.Proofs.Ytimpejidlnjhlaa.Plain

/-! How many sides count at a place. -/
def cntX (f : S166) (X Y : Int) : List S166 → Nat
  | [] => 0
  | x :: r => (if crossB x.f0 x.f1 (nxt f r).f0 (nxt f r).f1 X Y = true then 1 else 0) + cntX f X Y r
theorem insGo_cnt (f : S166) (X Y : Int) : ∀ (l : List S166) (b : Bool), insGo f X Y l b = (b ^^ decide (cntX f X Y l % 2 = 1))
  | [], b => by simp [insGo, cntX]
  | x :: r, b => by
    rw [insGo, insGo_cnt f X Y r, cntX]
    by_cases c : crossB x.f0 x.f1 (nxt f r).f0 (nxt f r).f1 X Y = true
    · simp only [if_pos c]
      by_cases h : cntX f X Y r % 2 = 1
      · rw [decide_eq_true h, decide_eq_false (show ¬ (1 + cntX f X Y r) % 2 = 1 by omega)]; cases b <;> rfl
      · rw [decide_eq_false h, decide_eq_true (show (1 + cntX f X Y r) % 2 = 1 by omega)]; cases b <;> rfl
    · simp only [if_neg c, Nat.zero_add]
theorem crossB_step {a b c d X Y : Int} (h : crossB a b c d (X + 1) Y = true) : crossB a b c d X Y = true := by
  have main : ∀ a b c d : Int, 0 ≤ d - b → crossUp a b c d (X + 1) Y = true → crossUp a b c d X Y = true := by
    intro a b c d h1 h2
    unfold crossUp at *
    rw [decide_eq_true_eq] at *
    have e : (2 * (X + 1) + 1) * (d - b) = (2 * X + 1) * (d - b) + 2 * (d - b) := by rw [← Int.add_mul]; congr 1; omega
    omega
  unfold crossB at *
  split at h
  · simp at h
  · rename_i hne
    rw [if_neg hne]
    split at h
    · rename_i g; rw [if_pos g]; exact main _ _ _ _ (by omega) h
    · rename_i g; rw [if_neg g]; exact main _ _ _ _ (by omega) h
theorem cntX_step (f : S166) (X Y : Int) : ∀ l : List S166, cntX f (X + 1) Y l ≤ cntX f X Y l
  | [] => Nat.le_refl _
  | x :: r => by
    have h := cntX_step f X Y r
    unfold cntX
    by_cases c : crossB x.f0 x.f1 (nxt f r).f0 (nxt f r).f1 (X + 1) Y = true
    · rw [if_pos c, if_pos (crossB_step c)]; omega
    · rw [if_neg c]; omega
theorem cntX_len (f : S166) (X Y : Int) : ∀ l : List S166, cntX f X Y l ≤ l.length
  | [] => Nat.le_refl _
  | x :: r => by
    have h := cntX_len f X Y r
    unfold cntX
    rw [List.length_cons]
    split <;> omega
theorem inside_cnt (l : List S166) (X Y : Int) : inside l X Y = decide (cntX (l.headD z166) X Y l % 2 = 1) := by
  unfold inside; rw [insGo_cnt, Bool.false_xor]
theorem inside_drop {l : List S166} {X Y : Int} (h : inside l X Y ≠ inside l (X - 1) Y) : cntX (l.headD z166) X Y l < cntX (l.headD z166) (X - 1) Y l := by
  have h1 := cntX_step (l.headD z166) (X - 1) Y l
  rw [show X - 1 + 1 = X by omega] at h1
  rcases Nat.lt_or_ge (cntX (l.headD z166) X Y l) (cntX (l.headD z166) (X - 1) Y l) with h2 | h2
  · exact h2
  · exact absurd (by rw [inside_cnt, inside_cnt, show cntX (l.headD z166) X Y l = cntX (l.headD z166) (X - 1) Y l by omega]) h
/-- Above or below all points nothing is inside. -/
theorem crossB_flat {a b c d X Y : Int} (h : (b > Y ∧ d > Y) ∨ (b ≤ Y ∧ d ≤ Y)) : crossB a b c d X Y = false := by
  unfold crossB
  rw [if_pos]
  rw [beq_iff_eq]
  exact decide_eq_decide.2 (by omega)
theorem ins_flat (f : S166) (X Y : Int) (P : Int → Prop) (hP : ∀ b d, P b → P d → (b > Y ∧ d > Y) ∨ (b ≤ Y ∧ d ≤ Y)) (hf : P f.f1) : ∀ (l : List S166) (b : Bool), (∀ p ∈ l, P p.f1) → insGo f X Y l b = b
  | [], b, _ => rfl
  | x :: r, b, h => by
    have hn : P (nxt f r).f1 := by
      cases r with
      | nil => exact hf
      | cons y r => exact h y (by simp)
    rw [insGo, crossB_flat (hP _ _ (h x (by simp)) hn)]
    exact ins_flat f X Y P hP hf r b (fun p hp => h p (by simp [hp]))
theorem inside_flat (l : List S166) (X Y : Int) (P : Int → Prop) (hP : ∀ b d, P b → P d → (b > Y ∧ d > Y) ∨ (b ≤ Y ∧ d ≤ Y)) (h : ∀ p ∈ l, P p.f1) : inside l X Y = false := by
  unfold inside
  cases l with
  | nil => rfl
  | cons x r => exact ins_flat _ X Y P hP (h x (by simp)) _ _ h
/-! Spans that are in order. -/
def inSq (l : List S140) (x : Int) : Bool := l.any fun s => decide (s.f0 ≤ x) && decide (x < s.f1)
theorem inSq_app (l m : List S140) (x : Int) : inSq (l ++ m) x = (inSq l x || inSq m x) := by unfold inSq; rw [List.any_append]
theorem inSq_one (a b x : Int) : inSq [⟨a, b⟩] x = true ↔ a ≤ x ∧ x < b := by simp [inSq]
theorem spFrom_app (x : S140) : ∀ (q : List S140) (p : Option Int), spFrom p (q ++ [x]) = (spFrom p q && (!decide (x.f0 ≥ x.f1) && okPrev (match q.getLast? with | some y => some y.f1 | none => p) x.f0))
  | [], p => by simp [spFrom]
  | y :: q, p => by
    have h := spFrom_app x q (some y.f1)
    simp only [List.cons_append, spFrom, h]
    cases q with
    | nil => simp [Bool.and_assoc]
    | cons z q => simp [List.getLast?_cons, Bool.and_assoc]
theorem spFrom_snoc (q : List S140) (x : S140) : spFrom none (q ++ [x]) = true ↔ spFrom none q = true ∧ x.f0 < x.f1 ∧ ∀ t r, q = t ++ [r] → r.f1 < x.f0 := by
  rw [spFrom_app]
  rcases List.eq_nil_or_concat q with rfl | ⟨t, r, rfl⟩
  · simp [spFrom, okPrev]
  · rw [List.concat_eq_append]
    simp only [List.getLast?_append, List.getLast?_singleton, Option.some_or, okPrev, Bool.and_eq_true, Bool.not_eq_true', decide_eq_false_iff_not]
    constructor
    · rintro ⟨h1, h2, h3⟩
      refine ⟨h1, by omega, fun t' r' e => ?_⟩
      have := List.append_inj' e rfl
      simp only [List.cons.injEq, and_true] at this
      rw [← this.2]; omega
    · rintro ⟨h1, h2, h3⟩
      have := h3 t r rfl
      exact ⟨h1, by omega, by omega⟩
structure SI (f : Int → Bool) (N : Int → Nat) (x0 : Int) (N0 : Nat) (x : Int) (s : List S140) : Prop where
  ord : spFrom none s = true
  lst : ∀ q r, s = q ++ [r] → r.f1 ≤ x ∧ (r.f1 = x ↔ f (x - 1) = true)
  nil : s = [] → f (x - 1) = false
  mem : ∀ X, inSq s X = true ↔ x0 ≤ X ∧ X < x ∧ f X = true
  cnt : 2 * s.length + N (x - 1) ≤ N0 + (if f (x - 1) = true then 1 else 0)
theorem SI_step {f : Int → Bool} {N : Int → Nat} {x0 x : Int} {N0 : Nat} {s : List S140} (h : SI f N x0 N0 x s) (hx : x0 ≤ x) (hN : N x ≤ N (x - 1)) (hD : f x ≠ f (x - 1) → N x < N (x - 1)) : SI f N x0 N0 (x + 1) (stepS f s x) := by
  obtain ⟨h1, h2, h3, h4, h5⟩ := h
  have hx1 : x + 1 - 1 = x := by omega
  cases hf : f x with
  | false =>
    have e : stepS f s x = s := by unfold stepS; rw [hf]; rfl
    rw [e]
    refine ⟨h1, fun q r e2 => ?_, fun _ => by rw [hx1, hf], fun X => ?_, ?_⟩
    · have := (h2 q r e2).1
      rw [hx1, hf]
      exact ⟨by omega, by simp; omega⟩
    · rw [h4]
      refine ⟨fun k => ⟨k.1, by omega, k.2.2⟩, fun k => ⟨k.1, ?_, k.2.2⟩⟩
      by_cases c : X = x
      · rw [c, hf] at k; simp at k
      · omega
    · rw [hx1, hf]
      rw [hf] at hD
      simp only [Bool.false_eq_true, if_false]
      cases hp : f (x - 1) with
      | false => rw [hp] at h5; simp only [Bool.false_eq_true, if_false] at h5; omega
      | true => rw [hp] at h5 hD; simp only [if_true] at h5; have := hD (by simp); omega
  | true =>
    rw [hf] at hD
    have hnew : ∀ Z : Int, (x0 ≤ Z ∧ Z < x + 1 ∧ f Z = true) ↔ ((x0 ≤ Z ∧ Z < x ∧ f Z = true) ∨ (x ≤ Z ∧ Z < x + 1)) := by
      intro Z
      constructor
      · rintro ⟨k1, k2, k3⟩
        by_cases c : Z < x
        · exact .inl ⟨k1, c, k3⟩
        · exact .inr ⟨by omega, k2⟩
      · rintro (⟨k1, k2, k3⟩ | ⟨k1, k2⟩)
        · exact ⟨k1, by omega, k3⟩
        · have : Z = x := by omega
          subst this; exact ⟨hx, by omega, hf⟩
    have fresh : f (x - 1) = false → (∀ q r, s = q ++ [r] → r.f1 < x) → SI f N x0 N0 (x + 1) (s ++ [⟨x, x + 1⟩]) := by
      intro hp hl
      rw [hp] at h5 hD
      simp only [Bool.false_eq_true, if_false] at h5
      have hd := hD (by simp)
      refine ⟨(spFrom_snoc _ _).2 ⟨h1, by simp only; omega, fun t r e => hl t r e⟩, fun q r e => ?_, fun e => by simp at e, fun X => ?_, ?_⟩
      · have := List.append_inj' e rfl
        simp only [List.cons.injEq, and_true] at this
        rw [← this.2, hx1, hf]; simp
      · rw [inSq_app, Bool.or_eq_true, inSq_one, h4, hnew]
      · rw [hx1, hf]; simp only [List.length_append, List.length_singleton, if_true]; omega
    unfold stepS
    rw [if_pos hf]
    rcases List.eq_nil_or_concat s with rfl | ⟨q, r, rfl⟩
    · simpa using fresh (h3 rfl) (fun q r e => by simp at e)
    · rw [List.concat_eq_append] at *
      simp only [List.getLast?_append, List.getLast?_singleton, Option.some_or, List.dropLast_concat]
      have hl := h2 q r rfl
      by_cases c : r.f1 = x
      · rw [if_pos c]
        have hp := hl.2.1 c
        have ho := (spFrom_snoc q r).1 h1
        refine ⟨(spFrom_snoc _ _).2 ⟨ho.1, by simp only; omega, ho.2.2⟩, fun q' r' e => ?_, fun e => by simp at e, fun X => ?_, ?_⟩
        · have := List.append_inj' e rfl
          simp only [List.cons.injEq, and_true] at this
          rw [← this.2, hx1, hf]; simp
        · have h4X := h4 X
          have e0 : (r : S140) = ⟨r.f0, r.f1⟩ := rfl
          rw [e0, inSq_app, Bool.or_eq_true, inSq_one] at h4X
          rw [hnew, ← h4X, inSq_app, Bool.or_eq_true, inSq_one]
          constructor
          · rintro (k | ⟨k1, k2⟩)
            · exact .inl (.inl k)
            · by_cases k3 : X < r.f1
              · exact .inl (.inr ⟨k1, k3⟩)
              · exact .inr ⟨by omega, k2⟩
          · rintro ((k | ⟨k1, k2⟩) | ⟨k1, k2⟩)
            · exact .inl k
            · exact .inr ⟨k1, by omega⟩
            · exact .inr ⟨by omega, k2⟩
        · rw [hp] at h5
          simp only [if_true] at h5
          rw [hx1, hf]
          simp only [List.length_append, List.length_singleton, if_true] at h5 ⊢; omega
      · rw [if_neg c]
        refine fresh ?_ (fun q' r' e => ?_)
        · cases hp : f (x - 1)
          · rfl
          · exact absurd (hl.2.2 hp) c
        · have := List.append_inj' e rfl
          simp only [List.cons.injEq, and_true] at this
          rw [← this.2]; omega
theorem SI_scan {f : Int → Bool} {N : Int → Nat} {x0 : Int} {N0 : Nat} (hN : ∀ x, N x ≤ N (x - 1)) (hD : ∀ x, f x ≠ f (x - 1) → N x < N (x - 1)) : ∀ (n : Nat) (x : Int) (s : List S140), x0 ≤ x → SI f N x0 N0 x s → SI f N x0 N0 (x + n) (scan f n x s)
  | 0, x, s, _, h => by rw [scan]; simpa using h
  | n + 1, x, s, hx, h => by
    rw [scan]
    have := SI_scan hN hD n (x + 1) _ (by omega) (SI_step h hx (hN x) (hD x))
    rw [show x + 1 + (n : Int) = x + ((n + 1 : Nat) : Int) by omega] at this
    exact this
theorem spansAt_facts {l : List S166} {Y : Int} (hp : pathB l = true) (hY : coord Y = true) : spansOk (spansAt l Y) = true ∧ 2 * (spansAt l Y).length ≤ l.length ∧ ∀ X, inSq (spansAt l Y) X = true ↔ -200 ≤ X ∧ X ≤ 200 ∧ inside l X Y = true := by
  have hpt : ptsOk l = true ∧ l.length ≤ 8 := by unfold pathB at hp; simp only [Bool.and_eq_true, decide_eq_true_eq] at hp; exact ⟨hp.1, by omega⟩
  have hR := allR_of hpt.1
  have hl : inside l (-200 - 1) Y = false := inside_left l _ Y (fun p hp => by have := (hR p hp).1; unfold inR at this; omega)
  have hr : inside l 200 Y = false := inside_right l _ Y (fun p hp => by have := (hR p hp).1; unfold inR at this; omega)
  unfold spansAt
  rw [if_pos ⟨hp, hY⟩]
  have h0 : SI (fun X => inside l X Y) (fun X => cntX (l.headD z166) X Y l) (-200) (cntX (l.headD z166) (-200 - 1) Y l) (-200) [] := by
    refine ⟨rfl, fun q r e => by simp at e, fun _ => hl, fun X => ?_, ?_⟩
    · simp only [inSq, List.any_nil, Bool.false_eq_true, false_iff]; omega
    · simp only [List.length_nil]; omega
  have h1 := SI_scan (fun x => by have := cntX_step (l.headD z166) (x - 1) Y l; rw [show x - 1 + 1 = x by omega] at this; exact this) (fun x h => inside_drop h) 401 (-200) [] (by omega) h0
  rw [show (-200 : Int) + ((401 : Nat) : Int) = 201 by omega] at h1
  obtain ⟨a1, a2, a3, a4, a5⟩ := h1
  have e : (201 : Int) - 1 = 200 := by omega
  have hc := cntX_len (l.headD z166) (-200 - 1) Y l
  simp only [e, hr, Bool.false_eq_true, if_false] at a5
  refine ⟨?_, by omega, fun X => ?_⟩
  · unfold spansOk
    rw [a1, decide_eq_true (by omega)]; rfl
  · rw [a4]; constructor <;> (rintro ⟨k1, k2, k3⟩; exact ⟨k1, by omega, k3⟩)
/-! Spans within limits. -/
def meetL (a b : Int) : List S140 → List S140
  | [] => []
  | x :: r => if mx x.f0 a < mn x.f1 b then ⟨mx x.f0 a, mn x.f1 b⟩ :: meetL a b r else meetL a b r
theorem meetGo_L (a b : Int) : ∀ l s : List S140, meetGo a b l s = s ++ meetL a b l
  | [], s => by simp [meetGo, meetL]
  | x :: r, s => by
    rw [meetGo, meetL, meetGo_L a b r]
    split <;> simp
theorem spFrom_mono {t t' : Int} (h : t' ≤ t) : ∀ l : List S140, spFrom (some t) l = true → spFrom (some t') l = true
  | [], _ => rfl
  | x :: r, k => by
    simp only [spFrom, okPrev, Bool.and_eq_true, Bool.not_eq_true', decide_eq_false_iff_not] at k ⊢
    exact ⟨k.1, by omega, k.2.2⟩
theorem spFrom_none {t : Int} : ∀ l : List S140, spFrom (some t) l = true → spFrom none l = true
  | [], _ => rfl
  | x :: r, k => by
    simp only [spFrom, okPrev, Bool.and_eq_true] at k ⊢
    exact ⟨k.1, trivial, k.2.2⟩
theorem meetL_ok (a b : Int) : ∀ (l : List S140) (p : Option Int), spFrom p l = true → spFrom p (meetL a b l) = true
  | [], _, _ => rfl
  | x :: r, p, h => by
    have m1 : x.f0 ≤ mx x.f0 a := by unfold mx; split <;> omega
    have m2 : mn x.f1 b ≤ x.f1 := by unfold mn; split <;> omega
    simp only [spFrom, Bool.and_eq_true, Bool.not_eq_true', decide_eq_false_iff_not] at h
    have ih := meetL_ok a b r _ h.2.2
    rw [meetL]
    split
    · rename_i c
      simp only [spFrom, Bool.and_eq_true, Bool.not_eq_true', decide_eq_false_iff_not]
      refine ⟨by omega, ?_, spFrom_mono m2 _ ih⟩
      cases p with
      | none => rfl
      | some t =>
        simp only [okPrev, Bool.not_eq_true', decide_eq_false_iff_not] at h ⊢
        omega
    · cases p with
      | none => exact spFrom_none _ ih
      | some t =>
        simp only [okPrev, Bool.not_eq_true', decide_eq_false_iff_not] at h
        exact spFrom_mono (by omega) _ ih
theorem meetL_len (a b : Int) : ∀ l : List S140, (meetL a b l).length ≤ l.length
  | [] => Nat.le_refl _
  | x :: r => by
    have := meetL_len a b r
    rw [meetL]
    split <;> simp only [List.length_cons] <;> omega
theorem meetL_mem (a b X : Int) : ∀ l : List S140, inSq (meetL a b l) X = true ↔ inSq l X = true ∧ a ≤ X ∧ X < b
  | [] => by simp [meetL, inSq]
  | x :: r => by
    have ih := meetL_mem a b X r
    have hc : ∀ (y : S140) (s : List S140), inSq (y :: s) X = true ↔ (y.f0 ≤ X ∧ X < y.f1) ∨ inSq s X = true := by
      intro y s; simp [inSq]
    rw [meetL, hc]
    have m1 : mx x.f0 a ≤ X ↔ x.f0 ≤ X ∧ a ≤ X := by unfold mx; split <;> omega
    have m2 : X < mn x.f1 b ↔ X < x.f1 ∧ X < b := by unfold mn; split <;> omega
    split
    · rw [hc, ih]
      simp only [m1, m2]
      constructor
      · rintro (⟨⟨k1, k2⟩, k3, k4⟩ | ⟨k1, k2⟩)
        · exact ⟨.inl ⟨k1, k3⟩, k2, k4⟩
        · exact ⟨.inr k1, k2⟩
      · rintro ⟨k1 | k1, k2, k3⟩
        · exact .inl ⟨⟨k1.1, k2⟩, k1.2, k3⟩
        · exact .inr ⟨k1, k2, k3⟩
    · rename_i c
      rw [ih]
      constructor
      · rintro ⟨k1, k2⟩; exact ⟨.inr k1, k2⟩
      · rintro ⟨k1 | k1, k2, k3⟩
        · exact absurd (show mx x.f0 a < mn x.f1 b by have := m1.2 ⟨k1.1, k2⟩; have := m2.2 ⟨k1.2, k3⟩; omega) c
        · exact ⟨k1, k2, k3⟩
theorem meetL_in (a b : Int) : ∀ (l : List S140), ∀ r ∈ meetL a b l, a ≤ r.f0 ∧ r.f1 ≤ b
  | [], r, h => by simp [meetL] at h
  | x :: l, r, h => by
    rw [meetL] at h
    have m1 : a ≤ mx x.f0 a := by unfold mx; split <;> omega
    have m2 : mn x.f1 b ≤ b := by unfold mn; split <;> omega
    split at h
    · rcases List.mem_cons.1 h with rfl | h
      · exact ⟨m1, m2⟩
      · exact meetL_in a b l r h
    · exact meetL_in a b l r h
def sumS : List S140 → Int
  | [] => 0
  | x :: r => (x.f1 - x.f0) + sumS r
theorem sumS_le (B : Int) : ∀ (l : List S140) (t : Int), spFrom (some t) l = true → (∀ r ∈ l, r.f1 ≤ B) → t ≤ B → 0 ≤ sumS l ∧ sumS l ≤ B - t
  | [], t, _, _, h => by simp only [sumS]; omega
  | x :: r, t, h, hB, ht => by
    simp only [spFrom, okPrev, Bool.and_eq_true, Bool.not_eq_true', decide_eq_false_iff_not] at h
    have hx := hB x (by simp)
    have ih := sumS_le B r x.f1 h.2.2 (fun y hy => hB y (by simp [hy])) hx
    simp only [sumS]; omega
theorem sumS_in (A B : Int) (h : A ≤ B) (l : List S140) (h1 : spFrom none l = true) (h2 : ∀ r ∈ l, A ≤ r.f0 ∧ r.f1 ≤ B) : 0 ≤ sumS l ∧ sumS l ≤ B - A := by
  have : spFrom (some (A - 1)) l = true := by
    cases l with
    | nil => rfl
    | cons x r =>
      have := (h2 x (by simp)).1
      simp only [spFrom, okPrev, Bool.and_eq_true, Bool.not_eq_true', decide_eq_false_iff_not] at h1 ⊢
      exact ⟨h1.1, by omega, h1.2.2⟩
  cases l with
  | nil => simp only [sumS]; omega
  | cons x r =>
    have hx := h2 x (by simp)
    simp only [spFrom, okPrev, Bool.and_eq_true, Bool.not_eq_true', decide_eq_false_iff_not] at h1
    have ih := sumS_le B r x.f1 h1.2.2 (fun y hy => (h2 y (by simp [hy])).2) hx.2
    simp only [sumS]; omega
theorem dotsGo_sum (B : Int) (hB : B ≤ 1000) : ∀ (l : List S140) (t a : Int), -1000 ≤ t → spFrom (some t) l = true → (∀ r ∈ l, r.f1 ≤ B) → t ≤ B → -1000000 ≤ a → a ≤ 1000000 - (B - t) → dotsGo l a = a + sumS l
  | [], t, a, _, _, _, _, _, _ => by simp [dotsGo, sumS]
  | x :: r, t, a, h0, h, hB2, ht, ha, hb => by
    simp only [spFrom, okPrev, Bool.and_eq_true, Bool.not_eq_true', decide_eq_false_iff_not] at h
    have hx := hB2 x (by simp)
    rw [dotsGo, wrap_id (by omega) (by omega), dotsGo_sum B hB r x.f1 _ (by omega) h.2.2 (fun y hy => hB2 y (by simp [hy])) hx (by omega) (by omega)]
    simp only [sumS]; omega
theorem spDots_sum (A B : Int) (hA : -500 ≤ A) (h : A ≤ B) (hB : B ≤ 500) (l : List S140) (h1 : spansOk l = true) (h2 : ∀ r ∈ l, A ≤ r.f0 ∧ r.f1 ≤ B) : spDots l = sumS l := by
  unfold spDots
  rw [if_pos h1]
  have h3 : spFrom none l = true := by unfold spansOk at h1; rw [Bool.and_eq_true] at h1; exact h1.2
  have : spFrom (some (A - 1)) l = true := by
    cases l with
    | nil => rfl
    | cons x r =>
      have := (h2 x (by simp)).1
      simp only [spFrom, okPrev, Bool.and_eq_true, Bool.not_eq_true', decide_eq_false_iff_not] at h3 ⊢
      exact ⟨h3.1, by omega, h3.2.2⟩
  rw [dotsGo_sum B (by omega) l (A - 1) 0 (by omega) this (fun r hr => (h2 r hr).2) (by omega) (by omega) (by omega), Int.zero_add]
/-! Boxes -/
def inBx (p : BoxT) (X Y : Int) : Prop := p.1 ≤ X ∧ X < p.2.2.1 ∧ p.2.1 ≤ Y ∧ Y < p.2.2.2
def bxOk (p : BoxT) : Bool := boxOk p.1 p.2.1 p.2.2.1 p.2.2.2
theorem bxOk_iff {p : BoxT} : bxOk p = true ↔ (-200 ≤ p.1 ∧ p.1 ≤ p.2.2.1 ∧ p.2.2.1 ≤ 200) ∧ (-200 ≤ p.2.1 ∧ p.2.1 ≤ p.2.2.2 ∧ p.2.2.2 ≤ 200) := by
  simp only [bxOk, boxOk, coord, Bool.and_eq_true, inB_iff, decide_eq_true_eq]; omega
theorem in_meet {p q : BoxT} (hp : bxOk p = true) (hq : bxOk q = true) (X Y : Int) : inBx (meet p q) X Y ↔ inBx p X Y ∧ inBx q X Y := by
  have a1 := mx_tells p.1 q.1
  have a2 := mx_tells p.2.1 q.2.1
  have a3 := mn_tells p.2.2.1 q.2.2.1
  have a4 := mn_tells p.2.2.2 q.2.2.2
  unfold meet
  by_cases c : boxOk p.1 p.2.1 p.2.2.1 p.2.2.2 = true ∧ boxOk q.1 q.2.1 q.2.2.1 q.2.2.2 = true ∧ mx p.1 q.1 < mn p.2.2.1 q.2.2.1 ∧ mx p.2.1 q.2.1 < mn p.2.2.2 q.2.2.2
  · rw [if_pos c]; unfold inBx; simp only; omega
  · rw [if_neg c]
    unfold inBx
    simp only
    constructor
    · omega
    · rintro ⟨⟨k1, k2, k3, k4⟩, k5, k6, k7, k8⟩
      exact absurd ⟨hp, hq, by omega, by omega⟩ c
theorem meet_ok {p q : BoxT} (hp : bxOk p = true) (hq : bxOk q = true) : bxOk (meet p q) = true := by
  rw [bxOk_iff] at *
  have a1 := mx_tells p.1 q.1
  have a2 := mx_tells p.2.1 q.2.1
  have a3 := mn_tells p.2.2.1 q.2.2.1
  have a4 := mn_tells p.2.2.2 q.2.2.2
  unfold meet
  split
  · rename_i c; simp only; omega
  · simp
theorem boxFrom_y : ∀ (l : List S166) (b : BoxT), (boxFrom l b).2.1 ≤ b.2.1 ∧ b.2.2.2 ≤ (boxFrom l b).2.2.2 ∧ (∀ p ∈ l, (boxFrom l b).2.1 ≤ p.f1 ∧ p.f1 ≤ (boxFrom l b).2.2.2) ∧ (inR b.2.1 → allR l → inR (boxFrom l b).2.1) ∧ (inR b.2.2.2 → allR l → inR (boxFrom l b).2.2.2)
  | [], b => by
    refine ⟨Int.le_refl _, Int.le_refl _, fun p hp => absurd hp (by simp), fun h _ => h, fun h _ => h⟩
  | x :: r, b => by
    have h := boxFrom_y r (mn b.1 x.f0, mn b.2.1 x.f1, mx b.2.2.1 x.f0, mx b.2.2.2 x.f1)
    rw [boxFrom]
    generalize boxFrom r (mn b.1 x.f0, mn b.2.1 x.f1, mx b.2.2.1 x.f0, mx b.2.2.2 x.f1) = B at h ⊢
    obtain ⟨h1, h2, h3, h4, h5⟩ := h
    simp only at h1 h2 h4 h5
    have e1 := mn_tells b.2.1 x.f1
    have e2 := mx_tells b.2.2.2 x.f1
    refine ⟨by omega, by omega, fun p hp => ?_, fun hb hr => h4 ?_ (fun q hq => hr q (by simp [hq])), fun hb hr => h5 ?_ (fun q hq => hr q (by simp [hq]))⟩
    · rcases List.mem_cons.1 hp with rfl | hp
      · omega
      · exact h3 p hp
    · have := (hr x (by simp)).2; unfold inR at *; omega
    · have := (hr x (by simp)).2; unfold inR at *; omega
theorem boxFrom_x : ∀ (l : List S166) (b : BoxT), (boxFrom l b).1 ≤ b.1 ∧ b.2.2.1 ≤ (boxFrom l b).2.2.1 ∧ (∀ p ∈ l, (boxFrom l b).1 ≤ p.f0 ∧ p.f0 ≤ (boxFrom l b).2.2.1) ∧ (inR b.1 → allR l → inR (boxFrom l b).1) ∧ (inR b.2.2.1 → allR l → inR (boxFrom l b).2.2.1)
  | [], b => by
    refine ⟨Int.le_refl _, Int.le_refl _, fun p hp => absurd hp (by simp), fun h _ => h, fun h _ => h⟩
  | x :: r, b => by
    have h := boxFrom_x r (mn b.1 x.f0, mn b.2.1 x.f1, mx b.2.2.1 x.f0, mx b.2.2.2 x.f1)
    rw [boxFrom]
    generalize boxFrom r (mn b.1 x.f0, mn b.2.1 x.f1, mx b.2.2.1 x.f0, mx b.2.2.2 x.f1) = B at h ⊢
    obtain ⟨h1, h2, h3, h4, h5⟩ := h
    simp only at h1 h2 h4 h5
    have e1 := mn_tells b.1 x.f0
    have e2 := mx_tells b.2.2.1 x.f0
    refine ⟨by omega, by omega, fun p hp => ?_, fun hb hr => h4 ?_ (fun q hq => hr q (by simp [hq])), fun hb hr => h5 ?_ (fun q hq => hr q (by simp [hq]))⟩
    · rcases List.mem_cons.1 hp with rfl | hp
      · omega
      · exact h3 p hp
    · have := (hr x (by simp)).1; unfold inR at *; omega
    · have := (hr x (by simp)).1; unfold inR at *; omega
theorem boxOf_all {l : List S166} (hp : ptsOk l = true) : bxOk (boxOf l) = true ∧ ∀ p ∈ l, ((boxOf l).1 ≤ p.f0 ∧ p.f0 ≤ (boxOf l).2.2.1) ∧ ((boxOf l).2.1 ≤ p.f1 ∧ p.f1 ≤ (boxOf l).2.2.2) := by
  have hR := allR_of hp
  match l, hp, hR with
  | [], _, _ => exact ⟨by decide, fun p h => by simp at h⟩
  | x :: r, hp, hR =>
    have e : boxOf (x :: r) = boxFrom r (x.f0, x.f1, x.f0, x.f1) := if_pos hp
    rw [e]
    obtain ⟨h1, h2, h3, h4, h5⟩ := boxFrom_x r (x.f0, x.f1, x.f0, x.f1)
    obtain ⟨k1, k2, k3, k4, k5⟩ := boxFrom_y r (x.f0, x.f1, x.f0, x.f1)
    have hx := hR x (by simp)
    have hr : allR r := fun q hq => hR q (by simp [hq])
    simp only at h1 h2 h4 h5 k1 k2 k4 k5
    have g1 := h4 hx.1 hr
    have g2 := h5 hx.1 hr
    have g3 := k4 hx.2 hr
    have g4 := k5 hx.2 hr
    refine ⟨?_, fun p hp => ?_⟩
    · rw [bxOk_iff]; unfold inR at *; omega
    · rcases List.mem_cons.1 hp with rfl | hp
      · exact ⟨⟨h1, h2⟩, k1, k2⟩
      · exact ⟨h3 p hp, k3 p hp⟩
theorem inside_box {l : List S166} (hp : ptsOk l = true) {X Y : Int} (h : inside l X Y = true) : inBx (boxOf l) X Y := by
  have hb := (boxOf_all hp).2
  have no : ∀ {P : Prop}, inside l X Y = false → P := fun k => by rw [h] at k; simp at k
  refine ⟨?_, ?_, ?_, ?_⟩
  · by_cases c : (boxOf l).1 ≤ X
    · exact c
    · exact no (inside_left l X Y (fun p hp => by have := (hb p hp).1; omega))
  · by_cases c : X < (boxOf l).2.2.1
    · exact c
    · exact no (inside_right l X Y (fun p hp => by have := (hb p hp).1; omega))
  · by_cases c : (boxOf l).2.1 ≤ Y
    · exact c
    · exact no (inside_flat l X Y (fun b => b > Y) (fun b d k1 k2 => .inl ⟨k1, k2⟩) (fun p hp => by have := (hb p hp).2; omega))
  · by_cases c : Y < (boxOf l).2.2.2
    · exact c
    · exact no (inside_flat l X Y (fun b => b ≤ Y) (fun b d k1 k2 => .inr ⟨k1, k2⟩) (fun p hp => by have := (hb p hp).2; omega))
theorem objOk_parts {l : List S166} {g a b c d : Int} (h : objOk l g a b c d = true) : 3 ≤ l.length ∧ l.length ≤ 8 ∧ ptsOk l = true ∧ (0 ≤ g ∧ g ≤ 255) ∧ bxOk (a, b, c, d) = true ∧ pathB l = true := by
  unfold objOk at h
  simp only [Bool.and_eq_true, decide_eq_true_eq, inB_iff] at h
  refine ⟨by omega, by omega, h.2.2.1, h.2.2.2.1, h.2.2.2.2, ?_⟩
  unfold pathB
  rw [h.2.2.1, decide_eq_true h.2.1]; rfl
theorem objBox_ok (l : List S166) (g a b c d : Int) : bxOk (objBox l g a b c d) = true := by
  unfold objBox
  split
  · rename_i h
    obtain ⟨_, _, h1, _, h2, _⟩ := objOk_parts h
    exact meet_ok (meet_ok (boxOf_all h1).1 h2) (by decide)
  · decide
theorem in_objBox {l : List S166} {g a b c d : Int} (h : objOk l g a b c d = true) (X Y : Int) : inBx (objBox l g a b c d) X Y ↔ inBx (boxOf l) X Y ∧ inBx (a, b, c, d) X Y ∧ inBx (0, 0, 32, 32) X Y := by
  obtain ⟨_, _, h1, _, h2, _⟩ := objOk_parts h
  unfold objBox
  rw [if_pos h, in_meet (meet_ok (boxOf_all h1).1 h2) (by decide), in_meet (boxOf_all h1).1 h2, and_assoc]
theorem objRow_facts {l : List S166} {g a b c d : Int} (h : objOk l g a b c d = true) (Y : Int) : spansOk (objRow l g a b c d Y) = true ∧ 2 * (objRow l g a b c d Y).length ≤ l.length ∧ (∀ X, inSq (objRow l g a b c d Y) X = true ↔ inside l X Y = true ∧ inBx (objBox l g a b c d) X Y) ∧ (∀ r ∈ objRow l g a b c d Y, (objBox l g a b c d).1 ≤ r.f0 ∧ r.f1 ≤ (objBox l g a b c d).2.2.1) ∧ (objRow l g a b c d Y ≠ [] → (objBox l g a b c d).2.1 ≤ Y ∧ Y < (objBox l g a b c d).2.2.2) := by
  obtain ⟨_, _, h1, _, h2, hpb⟩ := objOk_parts h
  have hok := bxOk_iff.1 (objBox_ok l g a b c d)
  unfold objRow
  generalize objBox l g a b c d = B at *
  by_cases c : Y < B.2.1 ∨ B.2.2.2 ≤ Y
  · rw [if_pos c]
    refine ⟨rfl, by simp, fun X => ?_, fun r hr => by simp at hr, fun k => absurd rfl k⟩
    simp only [inSq, List.any_nil, Bool.false_eq_true, false_iff]
    rintro ⟨_, _, _, k3, k4⟩
    omega
  · rw [if_neg c]
    have hY : coord Y = true := by rw [inR_coord]; unfold inR; omega
    obtain ⟨s1, s2, s3⟩ := spansAt_facts hpb hY
    have s4 : spFrom none (spansAt l Y) = true := by unfold spansOk at s1; rw [Bool.and_eq_true] at s1; exact s1.2
    have e : meetSp (spansAt l Y) B.1 B.2.2.1 = meetL B.1 B.2.2.1 (spansAt l Y) := by
      unfold meetSp; rw [if_pos s1, meetGo_L, List.nil_append]
    rw [e]
    have hl := meetL_len B.1 B.2.2.1 (spansAt l Y)
    have h8 := spansOk_len s1
    refine ⟨?_, by omega, fun X => ?_, meetL_in _ _ _, fun _ => by omega⟩
    · unfold spansOk; rw [meetL_ok _ _ _ _ s4, decide_eq_true (by omega)]; rfl
    · rw [meetL_mem, s3]
      unfold inBx
      constructor
      · rintro ⟨⟨k1, k2, k3⟩, k4, k5⟩; exact ⟨k3, k4, k5, by omega, by omega⟩
      · rintro ⟨k1, k2, k3, k4, k5⟩; exact ⟨⟨by omega, by omega, k1⟩, k2, k3⟩
theorem objRow_clip {l : List S166} {g a b c d : Int} (h : objOk l g a b c d = true) {X Y : Int} (h0 : 0 ≤ X) (h1 : X < 32) (h2 : 0 ≤ Y) (h3 : Y < 32) : inSq (objRow l g a b c d Y) X = true ↔ inside l X Y = true ∧ inBx (a, b, c, d) X Y := by
  have hp := (objOk_parts h).2.2.1
  rw [(objRow_facts h Y).2.2.1, in_objBox h]
  constructor
  · rintro ⟨k1, _, k2, _⟩; exact ⟨k1, k2⟩
  · rintro ⟨k1, k2⟩; exact ⟨k1, inside_box hp k1, k2, h0, h1, h2, h3⟩
/-- The dots of a row: at most the box's width, and none outside of it. -/
theorem objRow_dots {l : List S166} {g a b c d : Int} (h : objOk l g a b c d = true) (Y : Int) : 0 ≤ spDots (objRow l g a b c d Y) ∧ spDots (objRow l g a b c d Y) ≤ (if (objBox l g a b c d).2.1 ≤ Y ∧ Y < (objBox l g a b c d).2.2.2 then (objBox l g a b c d).2.2.1 - (objBox l g a b c d).1 else 0) := by
  have hok := bxOk_iff.1 (objBox_ok l g a b c d)
  obtain ⟨f1, f2, f3, f4, f5⟩ := objRow_facts h Y
  have s4 : spFrom none (objRow l g a b c d Y) = true := by unfold spansOk at f1; rw [Bool.and_eq_true] at f1; exact f1.2
  rw [spDots_sum (objBox l g a b c d).1 (objBox l g a b c d).2.2.1 (by omega) (by omega) (by omega) _ f1 f4]
  have k := sumS_in _ _ (show (objBox l g a b c d).1 ≤ (objBox l g a b c d).2.2.1 by omega) _ s4 f4
  by_cases c0 : objRow l g a b c d Y = []
  · rw [c0]; simp only [sumS]; split <;> omega
  · rw [if_pos (f5 c0)]; exact k
end Go.Proofs.Ytimpejidlnjhlaa.Pure
namespace Go.Proofs.Ytimpejidlnjhlaa.Pure
open Go.RowKit Go.Proofs.Ytimpejidlnjhlaa.QFnPageDots Go.Proofs.YtimpejidlnjhlaaW.PrintWords Go.Proofs.YtimpejidlnjhlaaW.PrintLast Go.Proofs.Ytimpejidlnjhlaa.Plain

end Go.Proofs.Ytimpejidlnjhlaa.Pure
namespace Go.Proofs.Ytimpejidlnjhlaa.Pure
open Go.RowKit Go.Proofs.Ytimpejidlnjhlaa.QFnPageDots Go.Proofs.YtimpejidlnjhlaaW.PrintWords Go.Proofs.YtimpejidlnjhlaaW.PrintLast Go.Proofs.Ytimpejidlnjhlaa.Plain

end Go.Proofs.Ytimpejidlnjhlaa.Pure
namespace Go.Proofs.Ytimpejidlnjhlaa.Pure
open Go.RowKit Go.Proofs.Ytimpejidlnjhlaa.QFnPageDots Go.Proofs.YtimpejidlnjhlaaW.PrintWords Go.Proofs.YtimpejidlnjhlaaW.PrintLast Go.Proofs.Ytimpejidlnjhlaa.Plain

theorem rendO_cell {n : Nat} (y : Int) (o : S41) (M : List (List Int)) (h : RG n M) (j x : Nat) (hj : j < n) (h0 : 0 ≤ y) (h1 : y + j ≤ 1000) : cell (rendO y o M) j x = if objOk o.f0 o.f1 o.f2.f0 o.f2.f1 o.f2.f2 o.f2.f3 = true ∧ inSp (objRow o.f0 o.f1 o.f2.f0 o.f2.f1 o.f2.f2 o.f2.f3 (y + j)) x = true then o.f1 else cell M j x := by
  unfold rendO
  by_cases c : objOk o.f0 o.f1 o.f2.f0 o.f2.f1 o.f2.f2 o.f2.f3 = true
  · rw [if_pos c, h.1, paintM_cell (n := n) _ _ _ _ _ _ _ j x n 0 M (by omega) (RG_32 h), wrap_id (x := y + (j : Int)) (by omega) (by omega)]
    by_cases k : inSp (objRow o.f0 o.f1 o.f2.f0 o.f2.f1 o.f2.f2 o.f2.f3 (y + j)) x = true
    · rw [if_pos ⟨by omega, k⟩, if_pos ⟨c, k⟩]
    · rw [if_neg (fun q => k q.2), if_neg (fun q => k q.2)]
  · rw [if_neg c, if_neg (fun q => c q.1)]
theorem white_cell (n : Int) (j x : Nat) (hj : j < (whiteRows n).length) (hx : x < 32) : cell (whiteRows n) j x = 255 := by
  unfold cell
  have e : (whiteRows n).getD j [] = wRow := by
    rw [List.getD_eq_getElem?_getD, List.getElem?_eq_getElem hj]
    exact whiteRows_row (List.getElem_mem hj)
  rw [e]
  unfold wRow
  rw [List.getD_eq_getElem?_getD, List.getElem?_replicate, if_pos hx]; rfl
end Go.Proofs.Ytimpejidlnjhlaa.Pure
namespace Go.Proofs.Ytimpejidlnjhlaa.Pure
open Go.RowKit Go.Proofs.Ytimpejidlnjhlaa.QFnPageDots Go.Proofs.YtimpejidlnjhlaaW.PrintWords Go.Proofs.YtimpejidlnjhlaaW.PrintLast Go.Proofs.Ytimpejidlnjhlaa.Plain

def cntP (P : Int → Bool) : Nat → Int → Int
  | 0, _ => 0
  | n + 1, t => (if P t = true then 1 else 0) + cntP P n (t + 1)
theorem cntP_add (P : Int → Bool) : ∀ (n m : Nat) (t : Int), cntP P (n + m) t = cntP P n t + cntP P m (t + n)
  | 0, m, t => by simp [cntP]
  | n + 1, m, t => by
    rw [show n + 1 + m = (n + m) + 1 by omega, cntP, cntP, cntP_add P n m, show t + 1 + (n : Int) = t + ((n + 1 : Nat) : Int) by omega]; omega
theorem cntP_all (P : Int → Bool) (v : Bool) : ∀ (n : Nat) (t : Int), (∀ x, t ≤ x → x < t + n → P x = v) → cntP P n t = if v = true then (n : Int) else 0
  | 0, t, _ => by cases v <;> rfl
  | n + 1, t, h => by
    rw [cntP, cntP_all P v n (t + 1) (fun x h1 h2 => h x (by omega) (by omega)), h t (by omega) (by omega)]
    cases v
    · simp
    · simp only [if_true]; omega
theorem cntP_congr (P R : Int → Bool) : ∀ (n : Nat) (t : Int), (∀ x, t ≤ x → x < t + n → P x = R x) → cntP P n t = cntP R n t
  | 0, t, _ => rfl
  | n + 1, t, h => by
    rw [cntP, cntP, h t (by omega) (by omega), cntP_congr P R n (t + 1) (fun x h1 h2 => h x (by omega) (by omega))]
theorem cntP_bd (P : Int → Bool) : ∀ (n : Nat) (t : Int), 0 ≤ cntP P n t ∧ cntP P n t ≤ n
  | 0, t => by simp [cntP]
  | n + 1, t => by
    have := cntP_bd P n (t + 1)
    rw [cntP]
    split <;> omega
theorem inSq_gt {X : Int} : ∀ (r : List S140) (u : Int), spFrom (some u) r = true → inSq r X = true → u < X
  | [], _, _, h => by simp [inSq] at h
  | x :: r, u, h, k => by
    simp only [spFrom, okPrev, Bool.and_eq_true, Bool.not_eq_true', decide_eq_false_iff_not] at h
    have hc : inSq (x :: r) X = true ↔ (x.f0 ≤ X ∧ X < x.f1) ∨ inSq r X = true := by simp [inSq]
    rcases hc.1 k with k | k
    · omega
    · have := inSq_gt r x.f1 h.2.2 k; omega
theorem span_cnt (B : Int) : ∀ (S : List S140) (t : Int), spFrom (some (t - 1)) S = true → (∀ r ∈ S, r.f1 ≤ B) → t ≤ B → cntP (inSq S) (B - t).toNat t = sumS S
  | [], t, _, _, _ => by
    rw [cntP_all (inSq []) false _ _ (fun x _ _ => by simp [inSq])]; rfl
  | x :: r, t, h, hB, ht => by
    have hx := hB x (by simp)
    have hs := h
    simp only [spFrom, okPrev, Bool.and_eq_true, Bool.not_eq_true', decide_eq_false_iff_not] at h
    have hc : ∀ X, inSq (x :: r) X = ((decide (x.f0 ≤ X) && decide (X < x.f1)) || inSq r X) := fun X => by simp [inSq]
    rw [show (B - t).toNat = (x.f0 - t).toNat + ((x.f1 - x.f0).toNat + (B - x.f1).toNat) by omega, cntP_add, cntP_add]
    rw [cntP_all (inSq (x :: r)) false (x.f0 - t).toNat t (fun X h1 h2 => by
      rw [hc, decide_eq_false (by omega), Bool.false_and, Bool.false_or]
      cases e : inSq r X with
      | false => rfl
      | true => have := inSq_gt r x.f1 h.2.2 e; omega)]
    rw [cntP_all (inSq (x :: r)) true (x.f1 - x.f0).toNat _ (fun X h1 h2 => by rw [hc, decide_eq_true (by omega), decide_eq_true (by omega)]; rfl)]
    rw [cntP_congr (inSq (x :: r)) (inSq r) _ _ (fun X h1 h2 => by rw [hc, decide_eq_false (show ¬ X < x.f1 by omega), Bool.and_false, Bool.false_or])]
    rw [show t + ((x.f0 - t).toNat : Int) + ((x.f1 - x.f0).toNat : Int) = x.f1 by omega, span_cnt B r x.f1 (spFrom_mono (by omega) _ h.2.2) (fun y hy => hB y (by simp [hy])) hx]
    simp only [sumS, Bool.false_eq_true, if_false, if_true]
    omega
theorem cntV_P (g : Int) (P : Int → Bool) : ∀ (l : List Int) (t a : Int), (∀ i : Nat, i < l.length → (l.getD i 0 = g ↔ P (t + i) = true)) → 0 ≤ a → a + l.length ≤ 1000000 → cntV g l a = a + cntP P l.length t
  | [], t, a, _, _, _ => by simp [cntV, cntP]
  | x :: l, t, a, h, h0, h1 => by
    rw [List.length_cons] at h1
    have hx := h 0 (by simp)
    simp only [List.getD_cons_zero, Int.ofNat_zero, Int.add_zero] at hx
    have ih := fun b hb0 hb1 => cntV_P g P l (t + 1) b (fun i hi => by
      have := h (i + 1) (by simp; omega)
      rw [List.getD_cons_succ, show t + ((i + 1 : Nat) : Int) = t + 1 + (i : Int) by omega] at this
      exact this) hb0 hb1
    rw [cntV, List.length_cons, cntP]
    by_cases c : x = g
    · rw [if_pos c, if_pos (hx.1 c), wrap_id (by omega) (by omega), ih (a + 1) (by omega) (by omega)]; omega
    · rw [if_neg c, if_neg (fun k => c (hx.2 k)), ih a h0 (by omega)]; omega
theorem cntVV_dots {o : List S166} {g a b c d : Int} (h : objOk o g a b c d = true) : ∀ (rows : List (List Int)) (y s : Int), (∀ r ∈ rows, r.length = 32) → (∀ j x : Nat, j < rows.length → x < 32 → (cell rows j x = g ↔ inSq (objRow o g a b c d (y + j)) x = true)) → 0 ≤ s → s + 32 * rows.length ≤ 100000 → cntVV g rows s = dotsR o g a b c d rows.length y s
  | [], y, s, _, _, _, _ => rfl
  | r :: rows, y, s, hr, hc, h0, h1 => by
    rw [List.length_cons] at h1
    obtain ⟨f1, f2, f3, f4, f5⟩ := objRow_facts h y
    have hp := objBox_page o g a b c d
    unfold inPage at hp
    have s4 : spFrom none (objRow o g a b c d y) = true := by unfold spansOk at f1; rw [Bool.and_eq_true] at f1; exact f1.2
    have hin : ∀ z ∈ objRow o g a b c d y, 0 ≤ z.f0 ∧ z.f1 ≤ 32 := fun z hz => by have := f4 z hz; omega
    have hr0 := hr r (by simp)
    have hd : spDots (objRow o g a b c d y) = cntP (inSq (objRow o g a b c d y)) 32 0 := by
      rw [spDots_sum 0 32 (by omega) (by omega) (by omega) _ f1 hin]
      have hs5 : spFrom (some (0 - 1)) (objRow o g a b c d y) = true := by
        cases e : objRow o g a b c d y with
        | nil => rfl
        | cons x q =>
          rw [e] at s4 hin
          have := (hin x (by simp)).1
          simp only [spFrom, okPrev, Bool.and_eq_true, Bool.not_eq_true', decide_eq_false_iff_not] at s4 ⊢
          exact ⟨s4.1, by omega, s4.2.2⟩
      exact (span_cnt 32 _ 0 hs5 (fun z hz => (hin z hz).2) (by omega)).symm
    have hrow : cntV g r s = s + cntP (inSq (objRow o g a b c d y)) 32 0 := by
      rw [cntV_P g (inSq (objRow o g a b c d y)) r 0 s (fun i hi => by
        have := hc 0 i (by simp) (by omega)
        unfold cell at this
        rw [List.getD_cons_zero, Int.ofNat_zero, Int.add_zero] at this
        rw [Int.zero_add]; exact this) h0 (by omega), hr0]
    have hbd := cntP_bd (inSq (objRow o g a b c d y)) 32 0
    rw [cntVV, hrow, List.length_cons, dotsR, hd, wrap_id (by omega) (by omega)]
    refine cntVV_dots h rows (y + 1) _ (fun z hz => hr z (by simp [hz])) (fun j x hj hx => ?_) (by omega) (by omega)
    have := hc (j + 1) x (by simp; omega) hx
    unfold cell at this ⊢
    rw [List.getD_cons_succ, show y + ((j + 1 : Nat) : Int) = y + 1 + (j : Int) by omega] at this
    exact this
theorem cntV_white : ∀ (n : Nat) (a : Int), 0 ≤ a → a + n ≤ 1000000 → cntV 255 (List.replicate n 255) a = a + n
  | 0, a, _, _ => by simp [cntV]
  | n + 1, a, h0, h1 => by
    rw [List.replicate_succ, cntV, if_pos rfl, wrap_id (by omega) (by omega), cntV_white n (a + 1) (by omega) (by omega)]; omega
theorem cntVV_white : ∀ (n : Nat) (a : Int), 0 ≤ a → a + 32 * n ≤ 1000000 → cntVV 255 (List.replicate n wRow) a = a + 32 * n
  | 0, a, _, _ => by simp [cntVV]
  | n + 1, a, h0, h1 => by
    rw [List.replicate_succ, cntVV]
    unfold wRow
    rw [cntV_white 32 a h0 (by omega)]
    have := cntVV_white n (a + 32) (by omega) (by omega)
    unfold wRow at this
    rw [show a + ((32 : Nat) : Int) = a + 32 by omega, this]; omega
theorem FnPageDots (l : List Int) (h : l.length ≤ maxLen ∧ ∀ y ∈ l, ((Lit.int .u8 y).wf = true)) : ∃ k, laws_FnPageDots.f k l = some true := by
  refine Ev.rounds (g := fun k => laws_FnPageDots.f k l) ?_
  simp only [laws_FnPageDots.f, laws_big.f, Option.bind_some]
  by_cases c : (l.length : Int) > 1048576
  · simp only [decide_eq_true c, if_true]; exact Ev.now _
  · simp only [decide_eq_false c, Bool.false_eq_true, if_false]
    obtain ⟨o, g, a, b, cc, d, hi, hO⟩ := drawObject_in l (by omega)
    have ho := objIn_ok hi
    obtain ⟨o3, o8, op, og, oc, opb⟩ := objOk_parts ho
    have hom : o.length ≤ maxLen := by rw [maxLen_eq]; omega
    refine Ev.bind hO ?_
    simp only
    generalize hob : (⟨o, g, (⟨a, b, cc, d⟩ : S39)⟩ : S41) = ob
    have hlm : ∀ x ∈ [ob], x.f0.length ≤ maxLen := fun x hx => by rw [List.mem_singleton] at hx; rw [hx, ← hob]; exact hom
    have hA : paintA [ob] = (rendGo 0 [ob] (whiteRows 32), true) := by
      unfold paintA objsOk
      rw [← hob]
      simp [ho]
    have hPA := iPaintAll_ev [ob] (by rw [maxLen_eq]; simp) hlm
    rw [hA] at hPA
    have hW : (whiteRows 32).length = 32 := by decide
    have hWG := whiteRows_G 32
    rw [hW] at hWG
    have hVG := rendGo_G 0 [ob] _ hWG
    have hVc : ∀ j x : Nat, j < 32 → x < 32 → cell (rendGo 0 [ob] (whiteRows 32)) j x = if inSq (objRow o g a b cc d j) x = true then g else 255 := fun j x hj hx => by
      have := rendO_cell 0 ob (whiteRows 32) hWG j x hj (Int.le_refl _) (by omega)
      rw [Int.zero_add, white_cell 32 j x (by omega) hx] at this
      rw [rendGo, rendGo, this, ← hob]
      simp only [ho, true_and]
      rfl
    generalize rendGo 0 [ob] (whiteRows 32) = V at hPA hVG hVc ⊢
    refine Ev.bind hPA (Ev.bind (iWhiteRows_ev 32) ?_)
    simp only [if_true]
    refine Ev.bind (iRowsOk_ev V) ?_
    have hVl : (V.length : Int) = 32 := by rw [hVG.1]; rfl
    have hVm : V.length ≤ maxLen := by rw [hVG.1, maxLen_eq]; decide
    have hVr : ∀ x ∈ V, x.length ≤ maxLen := fun x hx => by rw [(RG_32 hVG).2 x hx, maxLen_eq]; decide
    simp only [RG_ok hVG (by omega), if_true, if_pos hVl]
    refine Ev.bind (iCountValue_ev 255 (whiteRows 32) (by rw [hW, maxLen_eq]; decide) (fun x hx => by rw [(RG_32 hWG).2 x hx, maxLen_eq]; decide)) ?_
    have hcw : cntVV 255 (whiteRows 32) 0 = 1024 := by
      have e : whiteRows 32 = List.replicate 32 wRow := rfl
      rw [e, cntVV_white 32 0 (by omega) (by omega)]; rfl
    refine Ev.up ?_
    simp only [laws_FnPageDots.j0, hcw, bne_self_eq_false, Bool.false_eq_true, if_false]
    refine Ev.ite (fun _ => Ev.now _) (fun gw => ?_)
    refine Ev.bind (iCountValue_ev g V hVm hVr) (Ev.bind (iObjectDots_ev o g a b cc d hom) ?_)
    refine Ev.val ?_
    have hdots := cntVV_dots ho V 0 0 (fun r hr => (RG_32 hVG).2 r hr) (fun j x hj hx => by
      rw [hVc j x (by rw [← hVG.1]; exact hj) hx, Int.zero_add]
      constructor
      · intro k
        by_cases e : inSq (objRow o g a b cc d j) x = true
        · exact e
        · rw [if_neg e] at k; exact absurd k.symm gw
      · intro k; rw [if_pos k]) (Int.le_refl _) (by rw [hVG.1]; omega)
    rw [hdots, hVG.1]
    simp
end Go.Proofs.Ytimpejidlnjhlaa.Pure
