/- The plain law of FnPages: over numbers and lists, what the printed functions answer, and that the law answers true. -/
import Derived.Test.YtjodcfjaedhpeaaQFnPagesx19
import Derived.Test.YtjodcfjaedhpeaaPlain
set_option linter.unusedSimpArgs false
set_option linter.unusedVariables false
namespace Go.Proofs.Ytjodcfjaedhpeaa.Pure
open Go.RowKit Go.Proofs.Ytjodcfjaedhpeaa.QFnPages Go.Proofs.YtjodcfjaedhpeaaW.PrintWords Go.Proofs.YtjodcfjaedhpeaaW.PrintLast Go.Proofs.Ytjodcfjaedhpeaa.Plain

theorem within_eq (a b c : Int) : impl_within.f a b c = some (inB a b c) := by unfold impl_within.f inB; by_cases h : b ≤ a <;> simp [h]
theorem l01In_eq (a b c : Int) : spec_l01In.f a b c = some (inB a b c) := by unfold spec_l01In.f inB; by_cases h : b ≤ a <;> simp [h]
def coord (a : Int) : Bool := inB a (-200) 200
def boxOk (a b c d : Int) : Bool := coord a && (coord b && (coord c && (coord d && (decide (a ≤ c) && decide (b ≤ d)))))
theorem coordOk_eq (a : Int) : impl_coordOk.f a = some (coord a) := by unfold impl_coordOk.f; rw [within_eq]; rfl
theorem l02In_eq (a : Int) : spec_l02In.f a = some (coord a) := by unfold spec_l02In.f; rw [l01In_eq]; rfl
theorem iPointOk_eq (a b : Int) : impl_PointOk.f a b = some (coord a && coord b) := by unfold impl_PointOk.f; simp only [coordOk_eq, Option.bind_some, and_some]
theorem sPointOk_eq (a b : Int) : spec_PointOk.f a b = some (coord a && coord b) := by unfold spec_PointOk.f; simp only [l02In_eq, Option.bind_some, and_some]
theorem iBoxOk_eq (a b c d : Int) : impl_BoxOk.f a b c d = some (boxOk a b c d) := by unfold impl_BoxOk.f boxOk; simp only [coordOk_eq, Option.bind_some, and_some_p (a ≤ c), and_some]
theorem sBoxOk_eq (a b c d : Int) : spec_BoxOk.f a b c d = some (boxOk a b c d) := by unfold spec_BoxOk.f boxOk; simp only [l02In_eq, Option.bind_some, and_some_p (a ≤ c), and_some]
def ptsOk (l : List S80) : Bool := l.all fun p => coord p.f0 && coord p.f1
theorem pointsOk_ev (l : List S80) (hm : l.length ≤ maxLen) : Ev (fun k => impl_pointsOk.f k l) (ptsOk l) := by
  simp only [impl_pointsOk.f]
  refine ev_loop0 l (F := fun k i => impl_pointsOk.l0 k l l.length i) (fun _ r => ptsOk r) ?_ (fun pre x rest e h => ?_)
  · simp only [impl_pointsOk.l0, end_lt, if_false]; exact Ev.now _
  · subst e
    simp only [impl_pointsOk.l0, mid_lt, mid_nn, mid_wrap hm, if_true, rd_T80, Int.toNat_natCast, mid_get, iPointOk_eq, Option.bind_some]
    exact Ev.andB (fun _ => h)
theorem l07Points_ev (l : List S80) (hm : l.length ≤ maxLen) : Ev (fun k => spec_l07Points.f k l) (ptsOk l && decide ((l.length : Int) ≤ 8)) := by
  simp only [spec_l07Points.f]
  refine ev_loop0 l (F := fun k i => spec_l07Points.l0 k l i) (fun _ r => ptsOk r && decide ((l.length : Int) ≤ 8)) ?_ (fun pre x rest e h => ?_)
  · simp only [spec_l07Points.l0, end_lt, if_false]; exact Ev.now _
  · have : ptsOk (x :: rest) = ((coord x.f0 && coord x.f1) && ptsOk rest) := rfl
    rw [this, Bool.and_assoc]
    subst e
    simp only [spec_l07Points.l0, mid_lt, mid_nn, mid_wrap hm, if_true, rd_T80, Int.toNat_natCast, mid_get, sPointOk_eq, Option.bind_some]
    exact Ev.andB (fun _ => h)
def objOk (l : List S80) (g a b c d : Int) : Bool := decide (3 ≤ (l.length : Int)) && (decide ((l.length : Int) ≤ 8) && (ptsOk l && (inB g 0 255 && boxOk a b c d)))
theorem iObjectOk_ev (l : List S80) (g a b c d : Int) (hm : l.length ≤ maxLen) : Ev (fun k => impl_ObjectOk.f k l g a b c d) (objOk l g a b c d) := by
  simp only [impl_ObjectOk.f, within_eq, iBoxOk_eq, Option.bind_some, and_some]
  unfold objOk
  rw [← Bool.and_assoc]
  exact Ev.andB (fun _ => Ev.bind (pointsOk_ev l hm) (Ev.now _))
theorem l07Object_ev (l : List S80) (g a b c d : Int) (hm : l.length ≤ maxLen) : Ev (fun k => spec_l07Object.f k l g a b c d) (objOk l g a b c d) := by
  simp only [spec_l07Object.f, l01In_eq, sBoxOk_eq, Option.bind_some, and_some]
  unfold objOk
  refine Ev.andP (fun _ => ?_)
  have : (decide ((l.length : Int) ≤ 8) && (ptsOk l && (inB g 0 255 && boxOk a b c d))) = ((ptsOk l && decide ((l.length : Int) ≤ 8)) && (inB g 0 255 && boxOk a b c d)) := by
    cases decide ((l.length : Int) ≤ 8) <;> cases ptsOk l <;> rfl
  rw [this]
  exact Ev.bind (l07Points_ev l hm) (Ev.now _)
def rowOk (l : List Int) : Bool := decide ((l.length : Int) = 32) && l.all fun v => inB v 0 255
def rowsOk (l : List (List Int)) : Bool := decide ((l.length : Int) ≤ 32) && l.all rowOk
end Go.Proofs.Ytjodcfjaedhpeaa.Pure
namespace Go.Proofs.Ytjodcfjaedhpeaa.Pure
open Go.RowKit Go.Proofs.Ytjodcfjaedhpeaa.QFnPages Go.Proofs.YtjodcfjaedhpeaaW.PrintWords Go.Proofs.YtjodcfjaedhpeaaW.PrintLast Go.Proofs.Ytjodcfjaedhpeaa.Plain

abbrev BoxT := Int × Int × Int × Int
theorem mx_self (a : Int) : mx a a = a := by unfold mx; split <;> rfl
theorem mn_self (a : Int) : mn a a = a := by unfold mn; split <;> rfl
theorem mx_comm (a b : Int) : mx a b = mx b a := by unfold mx; omega
theorem mn_comm (a b : Int) : mn a b = mn b a := by unfold mn; omega
def meet (p q : BoxT) : BoxT := if boxOk p.1 p.2.1 p.2.2.1 p.2.2.2 = true ∧ boxOk q.1 q.2.1 q.2.2.1 q.2.2.2 = true ∧ mx p.1 q.1 < mn p.2.2.1 q.2.2.1 ∧ mx p.2.1 q.2.1 < mn p.2.2.2 q.2.2.2 then (mx p.1 q.1, mx p.2.1 q.2.1, mn p.2.2.1 q.2.2.1, mn p.2.2.2 q.2.2.2) else (0, 0, 0, 0)
theorem sMeetBox_eq (a b c d e f g h : Int) : spec_MeetBox.f a b c d e f g h = some (meet (a, b, c, d) (e, f, g, h)) := by
  unfold spec_MeetBox.f meet
  simp only [sBoxOk_eq, Option.bind_some]
  by_cases c1 : boxOk a b c d = true
  · by_cases c2 : boxOk e f g h = true
    · by_cases c3 : mx a e ≥ mn c g
      · have n3 : ¬ mx a e < mn c g := by omega
        simp [c1, c2, c3, n3]
      · have n3 : mx a e < mn c g := by omega
        by_cases c4 : mx b f ≥ mn d h
        · have n4 : ¬ mx b f < mn d h := by omega
          simp [c1, c2, c4, n4]
        · have n4 : mx b f < mn d h := by omega
          simp [c1, c2, n3, n4, c3, c4]
    · simp [c1, c2]
  · simp [c1]
def boxFrom : List S80 → BoxT → BoxT
  | [], b => b
  | x :: r, b => boxFrom r (mn b.1 x.f0, mn b.2.1 x.f1, mx b.2.2.1 x.f0, mx b.2.2.2 x.f1)
def boxOf (l : List S80) : BoxT :=
  match l with
  | [] => (0, 0, 0, 0)
  | x :: r => if ptsOk (x :: r) = true then boxFrom r (x.f0, x.f1, x.f0, x.f1) else (0, 0, 0, 0)
theorem sBoxOf_ev (l : List S80) (hm : l.length ≤ maxLen) : Ev (fun k => spec_BoxOf.f k l) (boxOf l) := by
  simp only [spec_BoxOf.f]
  have hg : boxOf l = if ptsOk l = true then (if ([] : List S80) = [] then boxOf l else boxFrom l (0, 0, 0, 0)) else (0, 0, 0, 0) := by
    match l with
    | [] => simp [boxOf]
    | x :: r => unfold boxOf; by_cases c : ptsOk (x :: r) = true <;> simp [c]
  rw [hg]
  refine ev_loop l (F := fun k (s : BoxT) i => spec_BoxOf.l0 k l i s.1 s.2.1 s.2.2.1 s.2.2.2) (fun p _ s => p = [] → s = (0, 0, 0, 0)) (fun p r s => if ptsOk r = true then (if p = [] then boxOf r else boxFrom r s) else (0, 0, 0, 0)) ?_ ?_ (0, 0, 0, 0) (fun _ => rfl)
  · intro s hs
    simp only [spec_BoxOf.l0, end_lt, if_false]
    refine Ev.val ?_
    by_cases c : l = []
    · rw [hs c]; simp [c, boxOf, ptsOk]
    · simp [c, boxFrom, ptsOk]
  · rintro pre x rest s e hs ih
    have hp : ptsOk (x :: rest) = ((coord x.f0 && coord x.f1) && ptsOk rest) := rfl
    clear hg
    subst e
    simp only [spec_BoxOf.l0, mid_lt, mid_nn, mid_wrap hm, if_true, rd_T80, Int.toNat_natCast, mid_get, sPointOk_eq, Option.bind_some]
    by_cases cx : (coord x.f0 && coord x.f1) = true
    · simp only [cx, if_true]
      have hpe : ptsOk (x :: rest) = ptsOk rest := by rw [hp, cx, Bool.true_and]
      have hne : ¬ pre ++ [x] = [] := by simp
      by_cases cp : pre = []
      · have c0 : (pre.length : Int) = 0 := by simp [cp]
        have h := ih (x.f0, x.f1, x.f0, x.f1) (fun e => absurd e hne)
        simp only [if_neg hne] at h
        simp only [c0, if_true, if_pos cp, hpe]
        by_cases cr : ptsOk rest = true
        · simp only [cr, if_true] at h ⊢
          have : boxOf (x :: rest) = boxFrom rest (x.f0, x.f1, x.f0, x.f1) := by
            show (if ptsOk (x :: rest) = true then boxFrom rest (x.f0, x.f1, x.f0, x.f1) else (0, 0, 0, 0)) = _
            rw [if_pos (hpe.trans cr)]
          rw [this]
          exact h
        · simp only [if_neg cr] at h ⊢
          exact h
      · have c0 : ¬ (pre.length : Int) = 0 := by
          intro h; exact cp (List.eq_nil_of_length_eq_zero (by omega))
        have h := ih (mn s.1 x.f0, mn s.2.1 x.f1, mx s.2.2.1 x.f0, mx s.2.2.2 x.f1) (fun e => absurd e hne)
        simp only [if_neg hne] at h
        simp only [if_neg c0, if_neg cp, hpe]
        exact h
    · have hpe : ptsOk (x :: rest) = false := by rw [hp]; simp [cx]
      simp only [if_neg cx, hpe, Bool.false_eq_true, if_false]
      exact Ev.now _
/-- A loop that counts from lo to hi. -/
theorem ev_range {σ β : Type} {F : Nat → σ → Int → Option β} (lo hi : Int) (hlh : lo ≤ hi) (Inv : Int → σ → Prop) (r : β)
    (hnil : ∀ s, Inv hi s → Ev (fun k => F (k + 1) s hi) r)
    (hcons : ∀ i s, lo ≤ i → i < hi → Inv i s → (∀ s', Inv (i + 1) s' → Ev (fun k => F k s' (i + 1)) r) → Ev (fun k => F (k + 1) s i) r) :
    ∀ s, Inv lo s → Ev (fun k => F k s lo) r := by
  have main : ∀ (n : Nat) (i : Int) (s : σ), lo ≤ i → i + n = hi → Inv i s → Ev (fun k => F k s i) r := by
    intro n
    induction n with
    | zero =>
      intro i s h0 h1 hI
      have e : i = hi := by omega
      subst e
      exact Ev.up (hnil s hI)
    | succ n ih =>
      intro i s h0 h1 hI
      exact Ev.up (hcons i s h0 (by omega) hI (fun s' hI' => ih (i + 1) s' (by omega) (by omega) hI'))
  intro s hI
  exact main (hi - lo).toNat lo s (by omega) (by omega) hI
def inPage (p : BoxT) : Prop := 0 ≤ p.1 ∧ p.1 ≤ p.2.2.1 ∧ p.2.2.1 ≤ 32 ∧ 0 ≤ p.2.1 ∧ p.2.1 ≤ p.2.2.2 ∧ p.2.2.2 ≤ 32
def rowsIn (lo y0 y1 y : Int) : Int := if mx lo y0 < mn y y1 then mn y y1 - mx lo y0 else 0
theorem mx_tells (a b : Int) : a ≤ mx a b ∧ b ≤ mx a b ∧ (mx a b = a ∨ mx a b = b) := by unfold mx; omega
theorem mn_tells (a b : Int) : mn a b ≤ a ∧ mn a b ≤ b ∧ (mn a b = a ∨ mn a b = b) := by unfold mn; omega
theorem rowsIn_bd {lo y0 y1 y : Int} (h0 : 0 ≤ lo) (h1 : y1 ≤ 32) : 0 ≤ rowsIn lo y0 y1 y ∧ rowsIn lo y0 y1 y ≤ 32 := by
  unfold rowsIn
  have a := mx_tells lo y0
  have b := mn_tells y y1
  split <;> omega
theorem rowsIn_pos {lo y0 y1 y : Int} (h1 : lo < y) (h2 : lo < y1) (h3 : y0 < y) (h4 : y0 < y1) : rowsIn lo y0 y1 y = mn y1 y - mx y0 lo := by
  unfold rowsIn
  rw [mx_comm y0, mn_comm y1]
  have a := mx_tells lo y0
  have b := mn_tells y y1
  rw [if_pos (by omega)]
theorem rowsIn_in {lo y0 y1 y : Int} (h1 : lo ≤ y) (h2 : y0 ≤ y) (h3 : y < y1) : rowsIn lo y0 y1 (y + 1) = rowsIn lo y0 y1 y + 1 := by
  unfold rowsIn
  have a := mx_tells lo y0
  have b := mn_tells y y1
  have c := mn_tells (y + 1) y1
  split <;> split <;> omega
theorem rowsIn_out {lo y0 y1 y : Int} (h1 : lo ≤ y) (h2 : y < y0 ∨ y1 ≤ y) : rowsIn lo y0 y1 (y + 1) = rowsIn lo y0 y1 y := by
  unfold rowsIn
  have a := mx_tells lo y0
  have b := mn_tells y y1
  have c := mn_tells (y + 1) y1
  split <;> split <;> omega
theorem rowsIn_lo {lo y0 y1 : Int} : rowsIn lo y0 y1 lo = 0 := by
  unfold rowsIn
  have a := mx_tells lo y0
  have b := mn_tells lo y1
  rw [if_neg (by omega)]
theorem meet_page (p : BoxT) : inPage (meet p (0, 0, 32, 32)) := by
  unfold meet
  by_cases c : boxOk p.1 p.2.1 p.2.2.1 p.2.2.2 = true ∧ boxOk 0 0 32 32 = true ∧ mx p.1 0 < mn p.2.2.1 32 ∧ mx p.2.1 0 < mn p.2.2.2 32
  · rw [if_pos c]
    obtain ⟨_, _, h3, h4⟩ := c
    unfold inPage
    simp only
    unfold mx mn at *
    omega
  · rw [if_neg c]; simp [inPage]
def cntD (p : BoxT) : Int := if boxOk p.1 p.2.1 p.2.2.1 p.2.2.2 = true then wrap64 (wrap64 (p.2.2.1 - p.1) * wrap64 (p.2.2.2 - p.2.1)) else 0
end Go.Proofs.Ytjodcfjaedhpeaa.Pure
namespace Go.Proofs.Ytjodcfjaedhpeaa.Pure
open Go.RowKit Go.Proofs.Ytjodcfjaedhpeaa.QFnPages Go.Proofs.YtjodcfjaedhpeaaW.PrintWords Go.Proofs.YtjodcfjaedhpeaaW.PrintLast Go.Proofs.Ytjodcfjaedhpeaa.Plain

def objsOk (l : List S60) : Bool := l.all fun o => objOk o.f0 o.f1 o.f2.f0 o.f2.f1 o.f2.f2 o.f2.f3
end Go.Proofs.Ytjodcfjaedhpeaa.Pure
namespace Go.Proofs.Ytjodcfjaedhpeaa.Pure
open Go.RowKit Go.Proofs.Ytjodcfjaedhpeaa.QFnPages Go.Proofs.YtjodcfjaedhpeaaW.PrintWords Go.Proofs.YtjodcfjaedhpeaaW.PrintLast Go.Proofs.Ytjodcfjaedhpeaa.Plain

theorem and255 (x : Int) : 0 ≤ Go.bits .and .i64 x 255 ∧ Go.bits .and .i64 x 255 ≤ 255 := by
  have h : ((BitVec.ofInt 64 x) &&& (BitVec.ofInt 64 255)).toNat ≤ 255 := by
    rw [BitVec.toNat_and]; exact Nat.le_trans Nat.and_le_right (by decide)
  have e : Go.bits .and .i64 x 255 = IntKind.wrap .i64 (((BitVec.ofInt 64 x) &&& (BitVec.ofInt 64 255)).toNat : Int) := rfl
  rw [e]
  generalize ((BitVec.ofInt 64 x) &&& (BitVec.ofInt 64 255)).toNat = n at h
  have e2 : IntKind.wrap .i64 (n : Int) = n := by
    have e3 : IntKind.wrap .i64 (n : Int) = if ((true && decide ((n : Int) % 2 ^ 64 ≥ 2 ^ 63)) = true) then (n : Int) % 2 ^ 64 - 2 ^ 64 else (n : Int) % 2 ^ 64 := rfl
    rw [e3]
    have c : ¬ ((true && decide ((n : Int) % 2 ^ 64 ≥ 2 ^ 63)) = true) := by simp; omega
    rw [if_neg c]; omega
  rw [e2]; omega
theorem byte_ok (b : List Int) (i h : Int) (hb : (b.length : Int) ≤ 1048576) (h0 : 0 ≤ i) (h1 : i ≤ 1048576) : ∃ v i' h', spec_l01Byte.f b i h = some (v, i', h') ∧ 0 ≤ v ∧ v ≤ 255 ∧ 0 ≤ i' ∧ i' ≤ 1048576 := by
  unfold spec_l01Byte.f
  by_cases c : i < (b.length : Int)
  · rw [if_pos c, if_pos h0]
    have hw : wrap64 (i + 1) = i + 1 := wrap_id (by omega) (by omega)
    exact ⟨_, _, _, rfl, (and255 _).1, (and255 _).2, by rw [hw]; omega, by rw [hw]; omega⟩
  · rw [if_neg c]
    exact ⟨_, _, _, rfl, (and255 _).1, (and255 _).2, h0, h1⟩
theorem below_ok (b : List Int) (i h n : Int) (hn : 0 < n) (hn2 : n ≤ 256) (hb : (b.length : Int) ≤ 1048576) (h0 : 0 ≤ i) (h1 : i ≤ 1048576) : ∃ v i' h', spec_l01Below.f b i h n = some (v, i', h') ∧ 0 ≤ v ∧ v < n ∧ 0 ≤ i' ∧ i' ≤ 1048576 := by
  obtain ⟨v, i', h', e, g0, g1, g2, g3⟩ := byte_ok b i h hb h0 h1
  unfold spec_l01Below.f
  rw [if_neg (by omega), if_pos hn2, e]
  refine ⟨Int.tmod v n, i', h', ?_, Int.tmod_nonneg _ g0, Int.tmod_lt_of_pos _ hn, g2, g3⟩
  simp only [Option.bind_some]
  rw [if_neg (by omega)]
theorem new_ok (b : List Int) (hb : (b.length : Int) ≤ 1048576) : ∃ h', Ev (fun k => spec_l01New.f k b) (b, 0, h') := by
  simp only [spec_l01New.f]
  have main : ∀ (m : Nat) (i : Nat) (h : Int), 4001 - i = m → ∃ h', Ev (fun k => spec_l01New.l0 k b h (i : Int)) (b, 0, h') := by
    intro m
    induction m with
    | zero =>
      intro i h hm
      refine ⟨h, Ev.up ?_⟩
      simp only [spec_l01New.l0, if_neg (show ¬ (i : Int) < 4000 by omega)]
      exact Ev.ite (fun _ => Ev.now _) (fun _ => Ev.now _)
    | succ m ih =>
      intro i h hm
      by_cases c : (i : Int) < (b.length : Int)
      · by_cases c2 : (i : Int) < 4000
        · have hw : wrap64 ((i : Int) + 1) = ((i + 1 : Nat) : Int) := by rw [wrap_id (by omega) (by omega)]; simp
          obtain ⟨h', e⟩ := ih (i + 1) (Go.bits .and .i64 (wrap64 ((wrap64 ((wrap64 (h * 131)) + (wrap64 (rd b (i : Int))))) + 7)) 1073741823) (by omega)
          refine ⟨h', Ev.up ?_⟩
          simp only [spec_l01New.l0, if_pos c, if_pos c2, mid_nn, if_true, hw]
          exact e
        · refine ⟨h, Ev.up ?_⟩
          simp only [spec_l01New.l0, if_pos c, if_neg c2]; exact Ev.now _
      · refine ⟨h, Ev.up ?_⟩
        simp only [spec_l01New.l0, if_neg c]; exact Ev.now _
  exact main 4001 0 _ rfl
end Go.Proofs.Ytjodcfjaedhpeaa.Pure
namespace Go.Proofs.Ytjodcfjaedhpeaa.Pure
open Go.RowKit Go.Proofs.Ytjodcfjaedhpeaa.QFnPages Go.Proofs.YtjodcfjaedhpeaaW.PrintWords Go.Proofs.YtjodcfjaedhpeaaW.PrintLast Go.Proofs.Ytjodcfjaedhpeaa.Plain

def stkOk (l : List Int) : Bool := (l.all fun v => inB v (-9999) 9999) && decide ((l.length : Int) ≤ 12)
theorem iStackOk_ev (l : List Int) (hm : l.length ≤ maxLen) : Ev (fun k => impl_StackOk.f k l) (stkOk l) := by
  simp only [impl_StackOk.f]
  unfold stkOk
  by_cases c : (l.length : Int) > 12
  · simp only [if_pos c, decide_eq_false (show ¬ (l.length : Int) ≤ 12 by omega), Bool.and_false]; exact Ev.now _
  · simp only [if_neg c, decide_eq_true (show (l.length : Int) ≤ 12 by omega), Bool.and_true]
    refine ev_loop0 l (F := fun k i => impl_StackOk.l0 k l l.length i) (fun _ r => r.all fun v => inB v (-9999) 9999) ?_ (fun pre x rest e h => ?_)
    · simp only [impl_StackOk.l0, end_lt, if_false]; exact Ev.now _
    · clear c
      subst e
      simp only [impl_StackOk.l0, mid_lt, mid_nn, mid_wrap hm, if_true, rd, Int.toNat_natCast, mid_get, within_eq, Option.bind_some, List.all_cons]
      exact Ev.andB (fun _ => h)
theorem sStackOk_ev (l : List Int) (hm : l.length ≤ maxLen) : Ev (fun k => spec_StackOk.f k l) (stkOk l) := by
  simp only [spec_StackOk.f]
  unfold stkOk
  refine ev_loop0 l (F := fun k i => spec_StackOk.l0 k l i) (fun _ r => (r.all fun v => inB v (-9999) 9999) && decide ((l.length : Int) ≤ 12)) ?_ (fun pre x rest e h => ?_)
  · simp only [spec_StackOk.l0, end_lt, if_false, List.all_nil, Bool.true_and]; exact Ev.now _
  · have e1 : (((x :: rest).all fun v => inB v (-9999) 9999) && decide ((l.length : Int) ≤ 12)) = (inB x (-9999) 9999 && ((rest.all fun v => inB v (-9999) 9999) && decide ((l.length : Int) ≤ 12))) := by rw [List.all_cons, Bool.and_assoc]
    rw [e1]
    subst e
    simp only [spec_StackOk.l0, mid_lt, mid_nn, mid_wrap hm, if_true, rd, Int.toNat_natCast, mid_get, l01In_eq, Option.bind_some]
    exact Ev.andB (fun _ => h)
def turnOk (a b c d : Int) : Bool := inB a 0 3 && (inB b 1 4 && (coord c && coord d))
theorem iTurnOk_eq (a b c d : Int) : impl_TurnOk.f a b c d = some (turnOk a b c d) := by
  unfold impl_TurnOk.f turnOk
  simp only [within_eq, coordOk_eq, Option.bind_some, and_some]
theorem sTurnOk_eq (a b c d : Int) : spec_TurnOk.f a b c d = some (turnOk a b c d) := by
  unfold spec_TurnOk.f turnOk
  simp only [l01In_eq, l02In_eq, Option.bind_some, and_some]
def grOk (st : List Int) (p q r s : Int) (l : List S80) (g t u v x : Int) : Bool := stkOk st && (turnOk p q r s && (boxOk t u v x && ((ptsOk l && decide ((l.length : Int) ≤ 8)) && inB g 0 255)))
theorem iGraphicsOk_ev (st : List Int) (p q r s : Int) (l : List S80) (g t u v x : Int) (hs : st.length ≤ maxLen) (hl : l.length ≤ maxLen) : Ev (fun k => impl_GraphicsOk.f k st p q r s l g t u v x) (grOk st p q r s l g t u v x) := by
  simp only [impl_GraphicsOk.f, iTurnOk_eq, iBoxOk_eq, within_eq, Option.bind_some]
  unfold grOk
  refine Ev.bind (iStackOk_ev st hs) (Ev.andB (fun _ => Ev.andB (fun _ => Ev.andB (fun _ => ?_))))
  rw [show (ptsOk l && decide ((l.length : Int) ≤ 8)) = (decide ((l.length : Int) ≤ 8) && ptsOk l) from Bool.and_comm _ _, Bool.and_assoc]
  exact Ev.andP (fun _ => Ev.bind (pointsOk_ev l hl) (Ev.andB (fun _ => Ev.now _)))
theorem sGraphicsOk_ev (st : List Int) (p q r s : Int) (l : List S80) (g t u v x : Int) (hs : st.length ≤ maxLen) (hl : l.length ≤ maxLen) : Ev (fun k => spec_GraphicsOk.f k st p q r s l g t u v x) (grOk st p q r s l g t u v x) := by
  simp only [spec_GraphicsOk.f, sTurnOk_eq, sBoxOk_eq, l01In_eq, Option.bind_some]
  unfold grOk
  refine Ev.bind (sStackOk_ev st hs) (Ev.andB (fun _ => Ev.andB (fun _ => Ev.andB (fun _ => ?_))))
  exact Ev.bind (l07Points_ev l hl) (Ev.andB (fun _ => Ev.now _))
def grO (x : S31) : Bool := grOk x.f0 x.f1.f0 x.f1.f1 x.f1.f2 x.f1.f3 x.f2 x.f3 x.f4.f0 x.f4.f1 x.f4.f2 x.f4.f3
def pgOk (st : List Int) (p q r s : Int) (l : List S80) (g t u v x : Int) (G : List S31) (O : List S60) : Bool := grOk st p q r s l g t u v x && (decide ((G.length : Int) ≤ 4) && (decide ((O.length : Int) ≤ 12) && (G.all grO && objsOk O)))
theorem iPageOk_ev (st : List Int) (p q r s : Int) (l : List S80) (g t u v x : Int) (G : List S31) (O : List S60) (hs : st.length ≤ maxLen) (hl : l.length ≤ maxLen) (hG : G.length ≤ maxLen) (hGx : ∀ x ∈ G, x.f0.length ≤ maxLen ∧ x.f2.length ≤ maxLen) (hO : O.length ≤ maxLen) (hOx : ∀ x ∈ O, x.f0.length ≤ maxLen) :
    Ev (fun k => impl_PageOk.f k st p q r s l g t u v x G O) (pgOk st p q r s l g t u v x G O) := by
  have no : Ev (fun k => impl_PageOk.j0 k true st p q r s l g t u v x G O) false := Ev.up (by simp only [impl_PageOk.j0, if_true]; exact Ev.now _)
  have objs : Ev (fun k => impl_PageOk.l1 k O (O.length : Int) 0) (objsOk O) := by
    refine ev_loop0 O (F := fun k i => impl_PageOk.l1 k O O.length i) (fun _ r => objsOk r) ?_ (fun pre y rest e h => ?_)
    · simp only [impl_PageOk.l1, end_lt, if_false]; exact Ev.now _
    · have hxx := hOx y (by rw [e]; simp)
      subst e
      simp only [impl_PageOk.l1, mid_lt, mid_nn, mid_wrap hO, if_true, rd_T60, Int.toNat_natCast, mid_get]
      exact Ev.bind (iObjectOk_ev y.f0 _ _ _ _ _ hxx) (Ev.andB (fun _ => h))
  have grs : Ev (fun k => impl_PageOk.l0 k G (G.length : Int) 0 st p q r s l g t u v x G O) (G.all grO && objsOk O) := by
    have hGG : ∀ H : List S31, Ev (fun k => impl_PageOk.l0 k G (G.length : Int) 0 st p q r s l g t u v x H O) (G.all grO && objsOk O) := fun H => by
      refine ev_loop0 G (F := fun k i => impl_PageOk.l0 k G G.length i st p q r s l g t u v x H O) (fun _ r => r.all grO && objsOk O) ?_ (fun pre y rest e h => ?_)
      · simp only [impl_PageOk.l0, end_lt, if_false, List.all_nil, Bool.true_and]; exact objs
      · have hxx := hGx y (by rw [e]; simp)
        rw [List.all_cons, Bool.and_assoc]
        subst e
        simp only [impl_PageOk.l0, mid_lt, mid_nn, mid_wrap hG, if_true, rd_T31, Int.toNat_natCast, mid_get]
        exact Ev.bind (iGraphicsOk_ev y.f0 _ _ _ _ y.f2 _ _ _ _ _ hxx.1 hxx.2) (Ev.andB (fun _ => h))
    exact hGG G
  simp only [impl_PageOk.f]
  unfold pgOk
  refine Ev.bind (iGraphicsOk_ev st p q r s l g t u v x hs hl) ?_
  by_cases c : grOk st p q r s l g t u v x = true
  · simp only [c, if_true, Bool.true_and]
    by_cases c1 : (G.length : Int) > 4
    · simp only [if_pos c1, decide_eq_false (show ¬ (G.length : Int) ≤ 4 by omega), Bool.false_and]; exact no
    · simp only [if_neg c1, decide_eq_true (show (G.length : Int) ≤ 4 by omega), Bool.true_and]
      by_cases c2 : (O.length : Int) > 12
      · simp only [decide_eq_true c2, decide_eq_false (show ¬ (O.length : Int) ≤ 12 by omega), Bool.false_and]; exact no
      · simp only [decide_eq_false c2, decide_eq_true (show (O.length : Int) ≤ 12 by omega), Bool.true_and]
        refine Ev.up ?_
        simp only [impl_PageOk.j0, Bool.false_eq_true, if_false]
        exact grs
  · simp only [c, Bool.false_eq_true, if_false, Bool.false_and]; exact no
theorem sPageOk_ev (st : List Int) (p q r s : Int) (l : List S80) (g t u v x : Int) (G : List S31) (O : List S60) (hs : st.length ≤ maxLen) (hl : l.length ≤ maxLen) (hG : G.length ≤ maxLen) (hGx : ∀ x ∈ G, x.f0.length ≤ maxLen ∧ x.f2.length ≤ maxLen) (hO : O.length ≤ maxLen) (hOx : ∀ x ∈ O, x.f0.length ≤ maxLen) :
    Ev (fun k => spec_PageOk.f k st p q r s l g t u v x G O) (pgOk st p q r s l g t u v x G O) := by
  have no : Ev (fun k => spec_PageOk.j0 k true st p q r s l g t u v x G O) false := Ev.up (by simp only [spec_PageOk.j0, if_true]; exact Ev.now _)
  have objs : Ev (fun k => spec_PageOk.l1 k 0 st p q r s l g t u v x G O) (objsOk O) := by
    refine ev_loop0 O (F := fun k i => spec_PageOk.l1 k i st p q r s l g t u v x G O) (fun _ r => objsOk r) ?_ (fun pre y rest e h => ?_)
    · simp only [spec_PageOk.l1, end_lt, if_false]; exact Ev.now _
    · have hxx := hOx y (by rw [e]; simp)
      subst e
      simp only [spec_PageOk.l1, mid_lt, mid_nn, mid_wrap hO, if_true, rd_T60, Int.toNat_natCast, mid_get]
      exact Ev.bind (l07Object_ev y.f0 _ _ _ _ _ hxx) (Ev.andB (fun _ => h))
  have grs : Ev (fun k => spec_PageOk.l0 k 0 st p q r s l g t u v x G O) (G.all grO && objsOk O) := by
    refine ev_loop0 G (F := fun k i => spec_PageOk.l0 k i st p q r s l g t u v x G O) (fun _ r => r.all grO && objsOk O) ?_ (fun pre y rest e h => ?_)
    · simp only [spec_PageOk.l0, end_lt, if_false, List.all_nil, Bool.true_and]; exact objs
    · have hxx := hGx y (by rw [e]; simp)
      have hlt : (pre.length : Int) < (G.length : Int) := by rw [e, mid_len]; omega
      have hw : wrap64 ((pre.length : Int) + 1) = ((pre ++ [y]).length : Int) := mid_wrap (pre := pre) (rest := rest) (x := y) (by rw [← e]; exact hG)
      have hrd : rd_T31 G (pre.length : Int) = y := by rw [e]; simp [rd_T31, List.getD_eq_getElem?_getD]
      rw [List.all_cons, Bool.and_assoc]
      simp only [spec_PageOk.l0, if_pos hlt, mid_nn, hw, if_true, hrd]
      exact Ev.bind (sGraphicsOk_ev y.f0 _ _ _ _ y.f2 _ _ _ _ _ hxx.1 hxx.2) (Ev.andB (fun _ => h))
  simp only [spec_PageOk.f]
  unfold pgOk
  refine Ev.bind (sGraphicsOk_ev st p q r s l g t u v x hs hl) ?_
  by_cases c : grOk st p q r s l g t u v x = true
  · simp only [c, if_true, Bool.true_and]
    by_cases c1 : (G.length : Int) > 4
    · simp only [if_pos c1, decide_eq_false (show ¬ (G.length : Int) ≤ 4 by omega), Bool.false_and]; exact no
    · simp only [if_neg c1, decide_eq_true (show (G.length : Int) ≤ 4 by omega), Bool.true_and]
      by_cases c2 : (O.length : Int) > 12
      · simp only [decide_eq_true c2, decide_eq_false (show ¬ (O.length : Int) ≤ 12 by omega), Bool.false_and]; exact no
      · simp only [decide_eq_false c2, decide_eq_true (show (O.length : Int) ≤ 12 by omega), Bool.true_and]
        refine Ev.up ?_
        simp only [spec_PageOk.j0, Bool.false_eq_true, if_false]
        exact grs
  · simp only [c, Bool.false_eq_true, if_false, Bool.false_and]; exact no
end Go.Proofs.Ytjodcfjaedhpeaa.Pure
namespace Go.Proofs.Ytjodcfjaedhpeaa.Pure
open Go.RowKit Go.Proofs.Ytjodcfjaedhpeaa.QFnPages Go.Proofs.YtjodcfjaedhpeaaW.PrintWords Go.Proofs.YtjodcfjaedhpeaaW.PrintLast Go.Proofs.Ytjodcfjaedhpeaa.Plain

/-! Names, tokens -/
def nmFrom (a : ByteArray) : Nat → Int → Bool
  | 0, _ => true
  | n + 1, i => if bt a i < 97 then false else if bt a i > 122 then false else nmFrom a n (i + 1)
def nameOk (a : ByteArray) : Bool := if (a.size : Int) < 1 then false else if (a.size : Int) > 8 then false else nmFrom a a.size 0
def tokOk (a : ByteArray) (n : Int) : Bool := if a.toList = ([] : List UInt8) then inB n (-999) 999 else (nameOk a && (n == 0))
theorem iIsName_ev (a : ByteArray) : Ev (fun k => impl_IsName.f k a) (nameOk a) := by
  simp only [impl_IsName.f]
  unfold nameOk
  have no : Ev (fun k => impl_IsName.j0 k a true) false := Ev.up (by simp only [impl_IsName.j0, if_true]; exact Ev.now _)
  by_cases c : (a.size : Int) < 1
  · simp only [if_pos c]; exact no
  · simp only [if_neg c]
    by_cases c2 : (a.size : Int) > 8
    · simp only [if_pos c2, decide_eq_true c2]; exact no
    · simp only [if_neg c2, decide_eq_false c2]
      refine Ev.up ?_
      simp only [impl_IsName.j0, Bool.false_eq_true, if_false]
      have main : ∀ (n : Nat) (i : Int), 0 ≤ i → i + n = a.size → Ev (fun k => impl_IsName.l0 k a i) (nmFrom a n i) := by
        intro n
        induction n with
        | zero =>
          intro i h0 h1
          refine Ev.up ?_
          simp only [impl_IsName.l0, if_neg (show ¬ i < (a.size : Int) by omega)]
          exact Ev.now _
        | succ n ih =>
          intro i h0 h1
          refine Ev.up ?_
          have hw : wrap64 (i + 1) = i + 1 := wrap_id (by omega) (by omega)
          simp only [impl_IsName.l0, if_pos (show i < (a.size : Int) by omega), if_pos h0, hw, nmFrom]
          exact Ev.ite (fun z => by rw [if_pos z]; exact Ev.now _) (fun z => by rw [if_neg z]; exact Ev.ite (fun z2 => by rw [if_pos z2]; exact Ev.now _) (fun z2 => by rw [if_neg z2]; exact ih (i + 1) (by omega) (by omega)))
      exact main a.size 0 (by omega) (by omega)
theorem iTokenOk_ev (a : ByteArray) (n : Int) : Ev (fun k => impl_TokenOk.f k a n) (tokOk a n) := by
  simp only [impl_TokenOk.f]
  unfold tokOk
  refine Ev.ite (fun z => ?_) (fun z => ?_)
  · simp only [if_pos z, within_eq, Option.bind_some]; exact Ev.now _
  · simp only [if_neg z]
    exact Ev.bind (iIsName_ev a) (Ev.andB (fun _ => Ev.now _))
end Go.Proofs.Ytjodcfjaedhpeaa.Pure
namespace Go.Proofs.Ytjodcfjaedhpeaa.Pure
open Go.RowKit Go.Proofs.Ytjodcfjaedhpeaa.QFnPages Go.Proofs.YtjodcfjaedhpeaaW.PrintWords Go.Proofs.YtjodcfjaedhpeaaW.PrintLast Go.Proofs.Ytjodcfjaedhpeaa.Plain

/-! What executing a token does, as a function over values -/
structure Pg where
  g : S31
  sv : List S31
  ob : List S60
abbrev PgT := List Int × Int × Int × Int × Int × (List S80) × Int × Int × Int × Int × Int × (List S31) × (List S60)
abbrev PgB := List Int × Int × Int × Int × Int × (List S80) × Int × Int × Int × Int × Int × (List S31) × (List S60) × Bool
abbrev tup (p : Pg) : PgT := (p.g.f0, p.g.f1.f0, p.g.f1.f1, p.g.f1.f2, p.g.f1.f3, p.g.f2, p.g.f3, p.g.f4.f0, p.g.f4.f1, p.g.f4.f2, p.g.f4.f3, p.sv, p.ob)
def tupB (z : Pg × Bool) : PgB := (z.1.g.f0, z.1.g.f1.f0, z.1.g.f1.f1, z.1.g.f1.f2, z.1.g.f1.f3, z.1.g.f2, z.1.g.f3, z.1.g.f4.f0, z.1.g.f4.f1, z.1.g.f4.f2, z.1.g.f4.f3, z.1.sv, z.1.ob, z.2)
def okP (p : Pg) : Bool := pgOk p.g.f0 p.g.f1.f0 p.g.f1.f1 p.g.f1.f2 p.g.f1.f3 p.g.f2 p.g.f3 p.g.f4.f0 p.g.f4.f1 p.g.f4.f2 p.g.f4.f3 p.sv p.ob
def pgN (n : Nat) (p : Pg) : Prop := p.g.f0.length ≤ n ∧ p.g.f2.length ≤ n ∧ p.sv.length ≤ n ∧ (∀ x ∈ p.sv, x.f0.length ≤ n ∧ x.f2.length ≤ n) ∧ p.ob.length ≤ n ∧ ∀ x ∈ p.ob, x.f0.length ≤ n
def takeN (l : List Int) (n : Int) : List Int × List Int × Bool := if stkOk l = true ∧ inB n 0 (l.length : Int) = true then (l.take ((l.length : Int) - n).toNat, l.drop ((l.length : Int) - n).toNat, true) else (l, [], false)
def pushN (l : List Int) (n : Int) : List Int × Bool := if stkOk l = true ∧ stkOk (l ++ [n]) = true then (l ++ [n], true) else (l, false)
def isOp (a : ByteArray) : Bool := if a.toList = ([97, 100, 100] : List UInt8) then true else if a.toList = ([115, 117, 98] : List UInt8) then true else if a.toList = ([109, 117, 108] : List UInt8) then true else if a.toList = ([110, 101, 103] : List UInt8) then true else if a.toList = ([100, 117, 112] : List UInt8) then true else if a.toList = ([112, 111, 112] : List UInt8) then true else if a.toList = ([101, 120, 99, 104] : List UInt8) then true else false
def stkCnt (a : ByteArray) : Int := if a.toList = ([110, 101, 103] : List UInt8) then 1 else if a.toList = ([100, 117, 112] : List UInt8) then 1 else if a.toList = ([112, 111, 112] : List UInt8) then 1 else 2
def stkRes (a : ByteArray) (r x : List Int) : List Int :=
  if a.toList = ([97, 100, 100] : List UInt8) then r ++ [wrap64 ((rd x 0) + (rd x 1))] else if a.toList = ([115, 117, 98] : List UInt8) then r ++ [wrap64 ((rd x 0) - (rd x 1))] else if a.toList = ([109, 117, 108] : List UInt8) then r ++ [wrap64 ((rd x 0) * (rd x 1))]
  else if a.toList = ([101, 120, 99, 104] : List UInt8) then r ++ [rd x 1, rd x 0] else if a.toList = ([110, 101, 103] : List UInt8) then r ++ [wrap64 (-(rd x 0))] else if a.toList = ([100, 117, 112] : List UInt8) then r ++ [rd x 0, rd x 0] else r
def stackOpV (l : List Int) (a : ByteArray) : List Int × Bool := if (takeN l (stkCnt a)).2.2 = true ∧ isOp a = true ∧ stkOk (stkRes a (takeN l (stkCnt a)).1 (takeN l (stkCnt a)).2.1) = true then (stkRes a (takeN l (stkCnt a)).1 (takeN l (stkCnt a)).2.1, true) else (l, false)
def takenV (a : ByteArray) : Int × Bool :=
  if a.toList = ([110, 101, 119] : List UInt8) then (0, true) else if a.toList = ([102, 105, 108, 108] : List UInt8) then (0, true) else if a.toList = ([99, 108, 105, 112] : List UInt8) then (0, true) else if a.toList = ([115, 97, 118, 101] : List UInt8) then (0, true) else if a.toList = ([114, 101, 115, 116, 111, 114, 101] : List UInt8) then (0, true)
  else if a.toList = ([103, 114, 97, 121] : List UInt8) then (1, true) else if a.toList = ([116, 117, 114, 110] : List UInt8) then (1, true) else if a.toList = ([115, 99, 97, 108, 101] : List UInt8) then (1, true)
  else if a.toList = ([109, 111, 118, 101, 116, 111] : List UInt8) then (2, true) else if a.toList = ([108, 105, 110, 101, 116, 111] : List UInt8) then (2, true) else if a.toList = ([115, 104, 105, 102, 116] : List UInt8) then (2, true) else if a.toList = ([114, 101, 99, 116] : List UInt8) then (4, true) else (0, false)
def qrt : Nat → Int → Int → Int × Int
  | 0, x, y => (x, y)
  | n + 1, x, y => qrt n (wrap64 (-y)) x
def movedV (t : S26) (x y : Int) : Int × Int := (wrap64 ((qrt t.f0.toNat (wrap64 (x * t.f1)) (wrap64 (y * t.f1))).1 + t.f2), wrap64 ((qrt t.f0.toNat (wrap64 (x * t.f1)) (wrap64 (y * t.f1))).2 + t.f3))
def tnOk (t : S26) : Bool := turnOk t.f0 t.f1 t.f2 t.f3
def joinT (a b : S26) : S26 := ⟨Int.tmod (wrap64 (a.f0 + b.f0)) 4, wrap64 (a.f1 * b.f1), (movedV b a.f2 a.f3).1, (movedV b a.f2 a.f3).2⟩
def joinV (a b : S26) : S26 × Bool := if tnOk a = true ∧ tnOk b = true ∧ tnOk (joinT a b) = true then (joinT a b, true) else (⟨0, 0, 0, 0⟩, false)
def mvP (t : S26) (x y : Int) : S80 := ⟨(movedV t x y).1, (movedV t x y).2⟩
def box4 (b : BoxT) : S29 := ⟨b.1, b.2.1, b.2.2.1, b.2.2.2⟩
def otherT (a : ByteArray) (x : List Int) : S26 := if a.toList = ([115, 104, 105, 102, 116] : List UInt8) then ⟨0, 1, rd x 0, rd x 1⟩ else if a.toList = ([116, 117, 114, 110] : List UInt8) then ⟨rd x 0, 1, 0, 0⟩ else if a.toList = ([115, 99, 97, 108, 101] : List UInt8) then ⟨0, rd x 0, 0, 0⟩ else ⟨0, 1, 0, 0⟩
def rectP (t : S26) (x : List Int) : List S80 := [mvP t (rd x 0) (rd x 1), mvP t (wrap64 (rd x 0 + rd x 2)) (rd x 1), mvP t (wrap64 (rd x 0 + rd x 2)) (wrap64 (rd x 1 + rd x 3)), mvP t (rd x 0) (wrap64 (rd x 1 + rd x 3))]
def paint (p : Pg) (a : ByteArray) (x : List Int) : Option Pg :=
  if a.toList = ([110, 101, 119] : List UInt8) then some { p with g := { p.g with f2 := [] } }
  else if a.toList = ([109, 111, 118, 101, 116, 111] : List UInt8) then some { p with g := { p.g with f2 := [mvP p.g.f1 (rd x 0) (rd x 1)] } }
  else if a.toList = ([108, 105, 110, 101, 116, 111] : List UInt8) then (if (p.g.f2.length : Int) = 0 then none else some { p with g := { p.g with f2 := p.g.f2 ++ [mvP p.g.f1 (rd x 0) (rd x 1)] } })
  else if a.toList = ([114, 101, 99, 116] : List UInt8) then (if inB (rd x 2) 0 200 = true ∧ inB (rd x 3) 0 200 = true then some { p with g := { p.g with f2 := rectP p.g.f1 x } } else none)
  else if a.toList = ([102, 105, 108, 108] : List UInt8) then (if (p.g.f2.length : Int) < 3 then none else some { p with g := { p.g with f2 := [] }, ob := p.ob ++ [⟨p.g.f2, p.g.f3, p.g.f4⟩] })
  else if a.toList = ([103, 114, 97, 121] : List UInt8) then some { p with g := { p.g with f3 := rd x 0 } }
  else if a.toList = ([99, 108, 105, 112] : List UInt8) then (if (p.g.f2.length : Int) = 0 then none else some { p with g := { p.g with f2 := [], f4 := box4 (meet (p.g.f4.f0, p.g.f4.f1, p.g.f4.f2, p.g.f4.f3) (boxOf p.g.f2)) } })
  else if a.toList = ([115, 97, 118, 101] : List UInt8) then some { p with sv := p.sv ++ [p.g] }
  else if a.toList = ([114, 101, 115, 116, 111, 114, 101] : List UInt8) then (if (p.sv.length : Int) = 0 then none else some { p with g := { rd_T31 p.sv ((p.sv.length : Int) - 1) with f0 := p.g.f0 }, sv := p.sv.take ((p.sv.length : Int) - 1).toNat })
  else if (joinV (otherT a x) p.g.f1).2 = true then some { p with g := { p.g with f1 := (joinV (otherT a x) p.g.f1).1 } } else none
abbrev setSt (p : Pg) (l : List Int) : Pg := { p with g := { p.g with f0 := l } }
def stepV (p : Pg) (a : ByteArray) (n : Int) : Option Pg :=
  if a.toList = ([] : List UInt8) then (if (pushN p.g.f0 n).2 = true then some (setSt p (pushN p.g.f0 n).1) else none)
  else if isOp a = true then (if (stackOpV p.g.f0 a).2 = true then some (setSt p (stackOpV p.g.f0 a).1) else none)
  else if (takenV a).2 = true then (if (takeN p.g.f0 (takenV a).1).2.2 = true then paint (setSt p (takeN p.g.f0 (takenV a).1).1) a (takeN p.g.f0 (takenV a).1).2.1 else none) else none
def finV (p : Pg) (s : Option Pg) : Pg × Bool := match s with
  | some q => if okP q = true then (q, true) else (p, false)
  | none => (p, false)
def exec (p : Pg) (a : ByteArray) (n : Int) : Pg × Bool := if okP p = true ∧ tokOk a n = true then finV p (stepV p a n) else (p, false)
theorem okP_fin {p : Pg} {s : Option Pg} (h : (finV p s).2 = true) : okP (finV p s).1 = true := by
  unfold finV at h ⊢
  split
  · split
    · assumption
    · rename_i q hq; simp [hq] at h
  · simp at h
theorem exec_ok {p : Pg} {a : ByteArray} {n : Int} (h : (exec p a n).2 = true) : okP (exec p a n).1 = true := by
  unfold exec at h ⊢
  split
  · rename_i c; rw [if_pos c] at h; exact okP_fin h
  · rename_i c; rw [if_neg c] at h; simp at h
theorem stk_len {l : List Int} (h : stkOk l = true) : (l.length : Int) ≤ 12 := by
  unfold stkOk at h
  simp only [Bool.and_eq_true, decide_eq_true_eq] at h
  exact h.2
theorem okP_small {p : Pg} (h : okP p = true) : pgN 12 p ∧ tnOk p.g.f1 = true := by
  unfold okP pgOk grOk at h
  simp only [Bool.and_eq_true, decide_eq_true_eq, List.all_eq_true] at h
  obtain ⟨⟨h1, h2, h3, ⟨h4, h5⟩, h6⟩, h7, h8, h9, h10⟩ := h
  refine ⟨⟨by have := stk_len h1; omega, by omega, by omega, fun x hx => ?_, by omega, fun x hx => ?_⟩, h2⟩
  · have h11 := h9 x hx
    unfold grO grOk at h11
    simp only [Bool.and_eq_true, decide_eq_true_eq] at h11
    have := stk_len h11.1
    have := h11.2.2.2.1.2
    exact ⟨by omega, by omega⟩
  · unfold objsOk at h10
    have h11 := List.all_eq_true.1 h10 x hx
    unfold objOk at h11
    simp only [Bool.and_eq_true, decide_eq_true_eq] at h11
    omega
theorem pgN_mono {m n : Nat} {p : Pg} (h : pgN m p) (hmn : m ≤ n) : pgN n p := ⟨by have := h.1; omega, by have := h.2.1; omega, by have := h.2.2.1; omega, fun x hx => ⟨by have := (h.2.2.2.1 x hx).1; omega, by have := (h.2.2.2.1 x hx).2; omega⟩, by have := h.2.2.2.2.1; omega, fun x hx => by have := h.2.2.2.2.2 x hx; omega⟩
/-! the program's functions -/
theorem iClone_eq (l : List Int) (h : l.length ≤ 2000000) : slices_Clone_int_int.f l = some l := by
  have c : l.length < 17592186044416 := by omega
  simp [slices_Clone_int_int.f, c]
theorem iCloneP_eq (l : List S80) (h : l.length ≤ 2000000) : impl_Point.f l = some l := by
  have c : l.length < 8796093022208 := by omega
  simp [impl_Point.f, c]
theorem icopyG_eq (st : List Int) (p q r s : Int) (l : List S80) (g t u v x : Int) (hs : st.length ≤ 2000000) (hl : l.length ≤ 2000000) : impl_copyGraphics.f st p q r s l g t u v x = some (st, p, q, r, s, l, g, t, u, v, x) := by
  simp only [impl_copyGraphics.f, iClone_eq st hs, iCloneP_eq l hl, Option.bind_some]
theorem icopyOs_ev (O : List S60) (hO : O.length ≤ 2000000) (hx : ∀ x ∈ O, x.f0.length ≤ 2000000) : Ev (fun k => impl_copyObjects.f k O) O := by
  simp only [impl_copyObjects.f]
  refine ev_loop O (F := fun k s i => impl_copyObjects.l0 k s O O.length i) (fun pre _ s => s = pre) (fun _ _ _ => O) ?_ ?_ [] rfl
  · rintro s rfl
    simp only [impl_copyObjects.l0, end_lt, if_false]; exact Ev.now _
  · rintro pre x rest s e rfl h
    have hxx := hx x (by rw [e]; simp)
    have hpl : s.length ≤ 2000000 := by have := congrArg List.length e; simp at this; omega
    have hlt : (s.length : Int) < (O.length : Int) := by rw [e, mid_len]; omega
    have hw : wrap64 ((s.length : Int) + 1) = ((s ++ [x]).length : Int) := mid_wrap (pre := s) (rest := rest) (x := x) (by rw [← e, maxLen_eq]; omega)
    have hrd : rd_T60 O (s.length : Int) = x := by rw [e]; simp [rd_T60, List.getD_eq_getElem?_getD]
    simp only [impl_copyObjects.l0, if_pos hlt, mid_nn, if_true, hrd, hw, impl_copyObject.f, iCloneP_eq x.f0 hxx, Option.bind_some, if_pos (show s.length < 2199023255552 by omega)]
    exact h (s ++ [x]) rfl
theorem icopyPage_ev (p : Pg) (h : pgN 2000000 p) : Ev (fun k => impl_copyPage.f k p.g.f0 p.g.f1.f0 p.g.f1.f1 p.g.f1.f2 p.g.f1.f3 p.g.f2 p.g.f3 p.g.f4.f0 p.g.f4.f1 p.g.f4.f2 p.g.f4.f3 p.sv p.ob) (tup p) := by
  obtain ⟨h1, h2, h3, h4, h5, h6⟩ := h
  simp only [impl_copyPage.f, icopyG_eq _ _ _ _ _ _ _ _ _ _ _ h1 h2, Option.bind_some]
  refine Ev.bind (icopyOs_ev p.ob h5 h6) ?_
  refine ev_loop p.sv (F := fun k s i => impl_copyPage.l0 k p.sv p.sv.length i p.g.f0 p.g.f1.f0 p.g.f1.f1 p.g.f1.f2 p.g.f1.f3 p.g.f2 p.g.f3 p.g.f4.f0 p.g.f4.f1 p.g.f4.f2 p.g.f4.f3 s p.ob) (fun pre _ s => s = pre) (fun _ _ _ => tup p) ?_ ?_ [] rfl
  · rintro s rfl
    simp only [impl_copyPage.l0, end_lt, if_false]; exact Ev.now _
  · rintro pre x rest s e rfl ih
    have hxx := h4 x (by rw [e]; simp)
    have hpl : s.length ≤ 2000000 := by have := congrArg List.length e; simp at this; omega
    have hlt : (s.length : Int) < (p.sv.length : Int) := by rw [e, mid_len]; omega
    have hw : wrap64 ((s.length : Int) + 1) = ((s ++ [x]).length : Int) := mid_wrap (pre := s) (rest := rest) (x := x) (by rw [← e, maxLen_eq]; omega)
    have hrd : rd_T31 p.sv (s.length : Int) = x := by rw [e]; simp [rd_T31, List.getD_eq_getElem?_getD]
    simp only [impl_copyPage.l0, if_pos hlt, mid_nn, if_true, hrd, hw, icopyG_eq _ _ _ _ _ _ _ _ _ _ _ hxx.1 hxx.2, Option.bind_some, if_pos (show s.length < 1172812402961 by omega)]
    exact ih (s ++ [x]) rfl
theorem iIsStackOp_eq (a : ByteArray) : impl_IsStackOp.f a = some (isOp a) := by
  unfold impl_IsStackOp.f isOp
  repeat' split
  all_goals rfl
theorem iTaken_ev (a : ByteArray) : Ev (fun k => impl_taken.f k a) (takenV a) := by
  have j2 : ∀ b : Bool, (b = true → takenV a = (2, true)) → (b = false → takenV a = if a.toList = ([114, 101, 99, 116] : List UInt8) then (4, true) else (0, false)) → Ev (fun k => impl_taken.j2 k a b) (takenV a) := fun b h1 h2 => by
    refine Ev.up ?_
    simp only [impl_taken.j2]
    cases b with
    | true => simp only [if_true, h1]; exact Ev.now _
    | false => simp only [Bool.false_eq_true, if_false, h2]; exact Ev.ite (fun z => by rw [if_pos z]; exact Ev.now _) (fun z => by rw [if_neg z]; exact Ev.now _)
  simp only [impl_taken.f]
  by_cases n1 : a.toList = ([110, 101, 119] : List UInt8)
  · simp only [if_pos n1, beq_iff_eq.2 n1, takenV]; exact Ev.up (by simp only [impl_taken.j0, if_true]; exact Ev.now _)
  by_cases n2 : a.toList = ([102, 105, 108, 108] : List UInt8)
  · simp only [if_neg n1, if_pos n2, beq_iff_eq.2 n2, takenV]; exact Ev.up (by simp only [impl_taken.j0, if_true]; exact Ev.now _)
  by_cases n3 : a.toList = ([99, 108, 105, 112] : List UInt8)
  · simp only [if_neg n1, if_neg n2, if_pos n3, beq_iff_eq.2 n3, takenV]; exact Ev.up (by simp only [impl_taken.j0, if_true]; exact Ev.now _)
  by_cases n4 : a.toList = ([115, 97, 118, 101] : List UInt8)
  · simp only [if_neg n1, if_neg n2, if_neg n3, if_pos n4, beq_iff_eq.2 n4, takenV]; exact Ev.up (by simp only [impl_taken.j0, if_true]; exact Ev.now _)
  by_cases n5 : a.toList = ([114, 101, 115, 116, 111, 114, 101] : List UInt8)
  · simp only [if_neg n1, if_neg n2, if_neg n3, if_neg n4, if_pos n5, beq_iff_eq.2 n5, takenV]; exact Ev.up (by simp only [impl_taken.j0, if_true]; exact Ev.now _)
  simp only [if_neg n1, if_neg n2, if_neg n3, if_neg n4, beq_eq_false_iff_ne.2 n5]
  refine Ev.up ?_
  simp only [impl_taken.j0, Bool.false_eq_true, if_false]
  by_cases m1 : a.toList = ([103, 114, 97, 121] : List UInt8)
  · simp only [if_pos m1, beq_iff_eq.2 m1, takenV, if_neg n1, if_neg n2, if_neg n3, if_neg n4, if_neg n5]; exact Ev.up (by simp only [impl_taken.j1, if_true]; exact Ev.now _)
  by_cases m2 : a.toList = ([116, 117, 114, 110] : List UInt8)
  · simp only [if_neg m1, if_pos m2, beq_iff_eq.2 m2, takenV, if_neg n1, if_neg n2, if_neg n3, if_neg n4, if_neg n5]; exact Ev.up (by simp only [impl_taken.j1, if_true]; exact Ev.now _)
  by_cases m3 : a.toList = ([115, 99, 97, 108, 101] : List UInt8)
  · simp only [if_neg m1, if_neg m2, if_pos m3, beq_iff_eq.2 m3, takenV, if_neg n1, if_neg n2, if_neg n3, if_neg n4, if_neg n5]; exact Ev.up (by simp only [impl_taken.j1, if_true]; exact Ev.now _)
  simp only [if_neg m1, if_neg m2, beq_eq_false_iff_ne.2 m3]
  refine Ev.up ?_
  simp only [impl_taken.j1, Bool.false_eq_true, if_false]
  have base : takenV a = if a.toList = ([109, 111, 118, 101, 116, 111] : List UInt8) then (2, true) else if a.toList = ([108, 105, 110, 101, 116, 111] : List UInt8) then (2, true) else if a.toList = ([115, 104, 105, 102, 116] : List UInt8) then (2, true) else if a.toList = ([114, 101, 99, 116] : List UInt8) then (4, true) else (0, false) := by
    unfold takenV
    simp only [if_neg n1, if_neg n2, if_neg n3, if_neg n4, if_neg n5, if_neg m1, if_neg m2, if_neg m3]
  by_cases q1 : a.toList = ([109, 111, 118, 101, 116, 111] : List UInt8)
  · simp only [if_pos q1]; exact j2 _ (fun _ => by rw [base, if_pos q1]) (fun h => absurd q1 (beq_eq_false_iff_ne.1 h))
  by_cases q2 : a.toList = ([108, 105, 110, 101, 116, 111] : List UInt8)
  · simp only [if_neg q1, if_pos q2]; exact j2 _ (fun _ => by rw [base, if_neg q1, if_pos q2]) (fun h => absurd q2 (beq_eq_false_iff_ne.1 h))
  simp only [if_neg q1, if_neg q2]
  exact j2 _ (fun h => by rw [base, if_neg q1, if_neg q2, if_pos (beq_iff_eq.1 h)]) (fun h => by rw [base, if_neg q1, if_neg q2, if_neg (beq_eq_false_iff_ne.1 h)])
theorem iTake_ev (l : List Int) (n : Int) (hl : l.length ≤ 2000000) (hn : 0 ≤ n) (hn2 : n ≤ 100) : Ev (fun k => impl_TakeNumbers.f k l n) (takeN l n) := by
  simp only [impl_TakeNumbers.f, within_eq, Option.bind_some]
  unfold takeN
  have no : Ev (fun k => impl_TakeNumbers.j0 k l n true) (l, [], false) := Ev.up (by simp only [impl_TakeNumbers.j0, if_true, iClone_eq l hl, Option.bind_some]; exact Ev.now _)
  refine Ev.bind (iStackOk_ev l (by rw [maxLen_eq]; omega)) ?_
  cases hs : stkOk l with
  | false => simp only [Bool.false_eq_true, if_false, false_and]; exact no
  | true =>
    simp only [if_true, true_and]
    cases hb : inB n 0 (l.length : Int) with
    | false => simp only [Bool.not_false, Bool.false_eq_true, if_false]; exact no
    | true =>
      have hb2 := inB_iff.1 hb
      have hw : wrap64 ((l.length : Int) - n) = (l.length : Int) - n := wrap_id (by omega) (by omega)
      refine Ev.up ?_
      simp only [Bool.not_true, impl_TakeNumbers.j0, Bool.false_eq_true, if_false, hw, if_pos (show 0 ≤ (l.length : Int) - n by omega), if_pos (show (l.length : Int) - n ≤ (l.length : Int) by omega), if_true]
      rw [iClone_eq _ (by rw [List.length_take]; omega), iClone_eq _ (by rw [List.length_drop]; omega)]
      exact Ev.now _
theorem iPush_ev (l : List Int) (n : Int) (hl : l.length ≤ 2000000) : Ev (fun k => impl_PushNumber.f k l n) (pushN l n) := by
  simp only [impl_PushNumber.f, iClone_eq l hl, Option.bind_some, if_pos (show l.length < 17592186044416 by omega)]
  unfold pushN
  refine Ev.bind (iStackOk_ev l (by rw [maxLen_eq]; omega)) ?_
  cases hs : stkOk l with
  | false => simp only [Bool.false_eq_true, if_false, false_and]; exact Ev.now _
  | true =>
    simp only [if_true, true_and]
    refine Ev.bind (iStackOk_ev (l ++ [n]) (by rw [maxLen_eq, List.length_append, List.length_singleton]; omega)) ?_
    exact Ev.iteB (fun h => by rw [if_pos h]; exact Ev.now _) (fun h => by rw [h]; simp only [Bool.false_eq_true, if_false]; exact Ev.now _)
theorem takeN_facts {l : List Int} {n : Int} (hn : 0 ≤ n) : (takeN l n).1.length ≤ l.length ∧ (takeN l n).2.1.length ≤ l.length ∧ ((takeN l n).2.2 = true → ((takeN l n).2.1.length : Int) = n) := by
  unfold takeN
  split
  · rename_i h
    have hb := inB_iff.1 h.2
    refine ⟨by rw [List.length_take]; omega, by rw [List.length_drop]; omega, fun _ => ?_⟩
    rw [List.length_drop]; omega
  · simp
theorem stkCnt_bd (a : ByteArray) : 0 ≤ stkCnt a ∧ stkCnt a ≤ 2 := by unfold stkCnt; repeat' split <;> omega
theorem tn_q {t : S26} (h : tnOk t = true) : 0 ≤ t.f0 ∧ t.f0 ≤ 3 := by
  unfold tnOk turnOk at h
  simp only [Bool.and_eq_true] at h
  exact inB_iff.1 h.1
def joinR (z : S26 × Bool) : Int × Int × Int × Int × Bool := (z.1.f0, z.1.f1, z.1.f2, z.1.f3, z.2)
end Go.Proofs.Ytjodcfjaedhpeaa.Pure
namespace Go.Proofs.Ytjodcfjaedhpeaa.Pure
open Go.RowKit Go.Proofs.Ytjodcfjaedhpeaa.QFnPages Go.Proofs.YtjodcfjaedhpeaaW.PrintWords Go.Proofs.YtjodcfjaedhpeaaW.PrintLast Go.Proofs.Ytjodcfjaedhpeaa.Plain

/-! FnPages: what is drawn runs; a page stays valid; saving and restoring give the page back -/
def dNames : List ByteArray := [⟨#[103, 114, 97, 121]⟩, ⟨#[114, 101, 99, 116]⟩, ⟨#[102, 105, 108, 108]⟩, ⟨#[99, 108, 105, 112]⟩, ⟨#[108, 105, 110, 101, 116, 111]⟩, ⟨#[109, 111, 118, 101, 116, 111]⟩, ⟨#[115, 97, 118, 101]⟩, ⟨#[114, 101, 115, 116, 111, 114, 101]⟩, ⟨#[110, 101, 119]⟩, ⟨#[115, 104, 105, 102, 116]⟩]
def tkD (t : S40) : Prop := (t.f0 = ⟨#[]⟩ ∧ 0 ≤ t.f1 ∧ t.f1 ≤ 999) ∨ (t.f0 ∈ dNames ∧ t.f1 = 0)
theorem dI {n : Int} (h : 0 ≤ n) (h2 : n ≤ 999) : tkD ⟨⟨#[]⟩, n⟩ := .inl ⟨rfl, h, h2⟩
theorem dN {a : ByteArray} (h : a ∈ dNames) : tkD ⟨a, 0⟩ := .inr ⟨h, rfl⟩
theorem dZ : ∀ z ∈ ([] : List S40), tkD z := fun z h => by cases h
theorem dC {x : S40} {l : List S40} (h : tkD x) (hl : ∀ z ∈ l, tkD z) : ∀ z ∈ x :: l, tkD z := fun z hz => by
  rcases List.mem_cons.1 hz with rfl | hz
  · exact h
  · exact hl z hz
theorem dA {l m : List S40} (hl : ∀ z ∈ l, tkD z) (hm : ∀ z ∈ m, tkD z) : ∀ z ∈ l ++ m, tkD z := fun z hz => (List.mem_append.1 hz).elim (hl z) (hm z)
def DrD (F : Nat → Option (List S40 × Int × Int)) : Prop := ∃ l i h, l.length ≤ 55 ∧ (∀ z ∈ l, tkD z) ∧ Ev F (l, i, h)
theorem pickM_ok (b : List Int) (i h : Int) (l : List ByteArray) (hn : 0 < l.length) (hn2 : l.length ≤ 256) (hb : (b.length : Int) ≤ 1048576) (h0 : 0 ≤ i) (h1 : i ≤ 1048576) : ∃ v i' h', v ∈ l ∧ spec_l01Pick.f b i h l = some (v, i', h') ∧ 0 ≤ i' ∧ i' ≤ 1048576 := by
  obtain ⟨v, i', h', e, g0, g1, g2, g3⟩ := below_ok b i h l.length (by omega) (by omega) hb h0 h1
  unfold spec_l01Pick.f
  rw [e]
  simp only [Option.bind_some, if_pos g0, if_pos g1]
  refine ⟨_, _, _, ?_, rfl, g2, g3⟩
  unfold rdOf
  rw [List.getD_eq_getElem?_getD, List.getElem?_eq_getElem (by omega)]
  exact List.getElem_mem _
theorem tokensD_ok (b : List Int) (hb : (b.length : Int) ≤ 1048576) : ∀ (m : Nat) (s : List S40) (x i h : Int), (5 - x).toNat = m → 0 ≤ x → s.length ≤ 55 → (∀ z ∈ s, tkD z) → 0 ≤ i → i ≤ 1048576 → DrD fun k => spec_l07Tokens.l0 k s x b i h
  | m, s, x, i, h, hm, hx, hs, hd, h0, h1 => by
    obtain ⟨v, i1, g1, e1, v0, v1, a1, b1⟩ := below_ok b i h 5 (by omega) (by omega) hb h0 h1
    have hw : wrap64 (1 + v) = 1 + v := wrap_id (by omega) (by omega)
    have hs8 : s.length < 5864062014805 := by omega
    have out : DrD fun k => spec_l07Tokens.j1 k s x false b i1 g1 := by
      refine ⟨s, i1, g1, hs, hd, Ev.up ?_⟩
      simp only [spec_l07Tokens.j1, Bool.false_eq_true, if_false]
      exact Ev.now _
    by_cases c : x < 1 + v
    case neg =>
      obtain ⟨l, i', h', c1, cd, c4⟩ := out
      refine ⟨l, i', h', c1, cd, Ev.up ?_⟩
      simp only [spec_l07Tokens.l0, e1, Option.bind_some, hw, if_neg c]
      exact c4
    have hw2 : wrap64 (x + 1) = x + 1 := wrap_id (by omega) (by omega)
    obtain ⟨m, rfl⟩ : ∃ m', m = m' + 1 := ⟨m - 1, by omega⟩
    have next : ∀ (t : List S40) (i h : Int), t.length ≤ 55 → (∀ z ∈ t, tkD z) → 0 ≤ i → i ≤ 1048576 → DrD fun k => spec_l07Tokens.l0 k t (wrap64 (x + 1)) b i h := fun t i h ht hz h0 h1 => by
      rw [hw2]
      exact tokensD_ok b hb m t (x + 1) i h (by omega) (by omega) ht hz h0 h1
    have lines : ∀ (n : Int) (hn : n ≤ 5) (q : Nat) (t : List S40) (y i h : Int), (n - y).toNat = q → 0 ≤ y → t.length + 3 * q ≤ 54 → (∀ z ∈ t, tkD z) → 0 ≤ i → i ≤ 1048576 → DrD fun k => spec_l07Tokens.l1 k t x n y b i h := by
      intro n hn q
      induction q with
      | zero =>
        intro t y i h hq hy ht hz h0 h1
        obtain ⟨l, i', h', c1, cd, c4⟩ := next (t ++ [⟨⟨#[102, 105, 108, 108]⟩, 0⟩]) i h (by simp; omega) (dA hz (dC (dN (by simp [dNames])) dZ)) h0 h1
        refine ⟨l, i', h', c1, cd, Ev.up ?_⟩
        simp only [spec_l07Tokens.l1, if_neg (show ¬ y < n by omega), if_pos (show t.length < 5864062014805 by omega)]
        exact c4
      | succ q ih =>
        intro t y i h hq hy ht hz h0 h1
        obtain ⟨p1, i1, g1, e1, _, _, a1, b1⟩ := below_ok b i h 33 (by omega) (by omega) hb h0 h1
        obtain ⟨p2, i2, g2, e2, _, _, a2, b2⟩ := below_ok b i1 g1 33 (by omega) (by omega) hb a1 b1
        have hw3 : wrap64 (y + 1) = y + 1 := wrap_id (by omega) (by omega)
        by_cases c0 : y = 0
        · obtain ⟨l, i', h', c1, cd, c4⟩ := ih (t ++ [⟨⟨#[]⟩, p1⟩, ⟨⟨#[]⟩, p2⟩, ⟨⟨#[109, 111, 118, 101, 116, 111]⟩, 0⟩]) (y + 1) i2 g2 (by omega) (by omega) (by simp; omega) (dA hz (dC (dI (by omega) (by omega)) (dC (dI (by omega) (by omega)) (dC (dN (by simp [dNames])) dZ)))) a2 b2
          refine ⟨l, i', h', c1, cd, Ev.up ?_⟩
          simp only [spec_l07Tokens.l1, if_pos (show y < n by omega), e1, e2, Option.bind_some, spec_l06First.f, if_pos c0, List.length_cons, List.length_nil, if_pos (show (0 : Int) ≤ 1 by omega), if_pos (show (1 : Int) < ((0 + 1 + 1 : Nat) : Int) by omega), if_pos (show t.length + (0 + 1 + 1 + 1) < 5864062014805 by omega), hw3]
          exact c4
        · obtain ⟨l, i', h', c1, cd, c4⟩ := ih (t ++ [⟨⟨#[]⟩, p1⟩, ⟨⟨#[]⟩, p2⟩, ⟨⟨#[108, 105, 110, 101, 116, 111]⟩, 0⟩]) (y + 1) i2 g2 (by omega) (by omega) (by simp; omega) (dA hz (dC (dI (by omega) (by omega)) (dC (dI (by omega) (by omega)) (dC (dN (by simp [dNames])) dZ)))) a2 b2
          refine ⟨l, i', h', c1, cd, Ev.up ?_⟩
          simp only [spec_l07Tokens.l1, if_pos (show y < n by omega), e1, e2, Option.bind_some, spec_l06First.f, if_neg c0, List.length_cons, List.length_nil, if_pos (Int.le_refl 0), if_pos (show (0 : Int) < ((0 + 1 + 1 : Nat) : Int) by omega), if_pos (show t.length + (0 + 1 + 1 + 1) < 5864062014805 by omega), hw3]
          exact c4
    have h3 : (s.length : Int) < 40 → ∀ (u : Int) (i h : Int), 0 ≤ i → i ≤ 1048576 → ∀ o, DrD fun k => spec_l07Tokens.j3 k s x u o b i h := by
      intro hs4 u i h h0 h1 o
      cases o with
      | true =>
        obtain ⟨p1, i1, g1, e1, w0, w1, a1, b1⟩ := below_ok b i h 3 (by omega) (by omega) hb h0 h1
        have hw3 : wrap64 (3 + p1) = 3 + p1 := wrap_id (by omega) (by omega)
        obtain ⟨l, i', h', c1, cd, c4⟩ := lines (3 + p1) (by omega) (3 + p1).toNat s 0 i1 g1 (by omega) (by omega) (by omega) hd a1 b1
        refine ⟨l, i', h', c1, cd, Ev.up ?_⟩
        simp only [spec_l07Tokens.j3, if_true, e1, Option.bind_some, hw3]
        exact c4
      | false =>
        by_cases c5 : u = 5
        · obtain ⟨z, i1, g1, hz, e1, a1, b1⟩ := pickM_ok b i h [(⟨#[115, 97, 118, 101]⟩ : ByteArray), (⟨#[114, 101, 115, 116, 111, 114, 101]⟩ : ByteArray), (⟨#[110, 101, 119]⟩ : ByteArray)] (by simp) (by simp) hb h0 h1
          obtain ⟨l, i', h', c1, cd, c4⟩ := next (s ++ [⟨z, 0⟩]) i1 g1 (by simp; omega) (dA hd (dC (dN (by simp only [List.mem_cons, List.not_mem_nil, or_false] at hz; rcases hz with rfl | rfl | rfl <;> simp [dNames])) dZ)) a1 b1
          refine ⟨l, i', h', c1, cd, Ev.up ?_⟩
          simp only [spec_l07Tokens.j3, Bool.false_eq_true, if_false, if_pos c5, e1, Option.bind_some, if_pos hs8]
          exact c4
        · obtain ⟨p1, i1, g1, e1, _, _, a1, b1⟩ := below_ok b i h 5 (by omega) (by omega) hb h0 h1
          obtain ⟨p2, i2, g2, e2, _, _, a2, b2⟩ := below_ok b i1 g1 5 (by omega) (by omega) hb a1 b1
          obtain ⟨l, i', h', c1, cd, c4⟩ := next (s ++ [⟨⟨#[]⟩, p1⟩, ⟨⟨#[]⟩, p2⟩, ⟨⟨#[115, 104, 105, 102, 116]⟩, 0⟩]) i2 g2 (by simp; omega) (dA hd (dC (dI (by omega) (by omega)) (dC (dI (by omega) (by omega)) (dC (dN (by simp [dNames])) dZ)))) a2 b2
          refine ⟨l, i', h', c1, cd, Ev.up ?_⟩
          simp only [spec_l07Tokens.j3, Bool.false_eq_true, if_false, if_neg c5, e1, e2, Option.bind_some, List.length_cons, List.length_nil, if_pos (show s.length + (0 + 1 + 1 + 1) < 5864062014805 by omega)]
          exact c4
    have h2 : (s.length : Int) < 40 → ∀ (u : Int) (i h : Int), 0 ≤ i → i ≤ 1048576 → ∀ o, DrD fun k => spec_l07Tokens.j2 k s x u o b i h := by
      intro hs4 u i h h0 h1 o
      cases o with
      | true =>
        obtain ⟨p1, i1, g1, e1, _, _, a1, b1⟩ := below_ok b i h 28 (by omega) (by omega) hb h0 h1
        obtain ⟨p2, i2, g2, e2, _, _, a2, b2⟩ := below_ok b i1 g1 28 (by omega) (by omega) hb a1 b1
        obtain ⟨p3, i3, g3, e3, _, _, a3, b3⟩ := below_ok b i2 g2 14 (by omega) (by omega) hb a2 b2
        obtain ⟨p4, i4, g4, e4, _, _, a4, b4⟩ := below_ok b i3 g3 14 (by omega) (by omega) hb a3 b3
        have hw5 : wrap64 (1 + p3) = 1 + p3 := wrap_id (by omega) (by omega)
        have hw6 : wrap64 (1 + p4) = 1 + p4 := wrap_id (by omega) (by omega)
        obtain ⟨z, i5, g5, hz, e5, a5, b5⟩ := pickM_ok b i4 g4 [(⟨#[102, 105, 108, 108]⟩ : ByteArray), (⟨#[102, 105, 108, 108]⟩ : ByteArray), (⟨#[102, 105, 108, 108]⟩ : ByteArray), (⟨#[99, 108, 105, 112]⟩ : ByteArray)] (by simp) (by simp) hb a4 b4
        obtain ⟨l, i', h', c1, cd, c4⟩ := next ((s ++ [⟨⟨#[]⟩, p1⟩, ⟨⟨#[]⟩, p2⟩, ⟨⟨#[]⟩, wrap64 (1 + p3)⟩, ⟨⟨#[]⟩, wrap64 (1 + p4)⟩]) ++ [⟨⟨#[114, 101, 99, 116]⟩, 0⟩, ⟨z, 0⟩]) i5 g5 (by simp; omega) (dA (dA hd (dC (dI (by omega) (by omega)) (dC (dI (by omega) (by omega)) (dC (dI (by omega) (by omega)) (dC (dI (by omega) (by omega)) dZ))))) (dC (dN (by simp [dNames])) (dC (dN (by simp only [List.mem_cons, List.not_mem_nil, or_false] at hz; rcases hz with rfl | rfl | rfl | rfl <;> simp [dNames])) dZ))) a5 b5
        refine ⟨l, i', h', c1, cd, Ev.up ?_⟩
        simp only [spec_l07Tokens.j2, if_true, e1, e2, e3, e4, e5, Option.bind_some, List.length_append, List.length_cons, List.length_nil, if_pos (show s.length + (0 + 1 + 1 + 1 + 1) < 5864062014805 by omega), if_pos (show s.length + (0 + 1 + 1 + 1 + 1) + (0 + 1 + 1) < 5864062014805 by omega)]
        exact c4
      | false =>
        by_cases c3 : u = 3
        · obtain ⟨l, i', h', c1, cd, c4⟩ := h3 hs4 u i h h0 h1 (u == 3)
          refine ⟨l, i', h', c1, cd, Ev.up ?_⟩
          simp only [spec_l07Tokens.j2, Bool.false_eq_true, if_false, if_pos c3]
          exact c4
        · obtain ⟨l, i', h', c1, cd, c4⟩ := h3 hs4 u i h h0 h1 (u == 4)
          refine ⟨l, i', h', c1, cd, Ev.up ?_⟩
          simp only [spec_l07Tokens.j2, Bool.false_eq_true, if_false, if_neg c3]
          exact c4
    have h4 : ∀ o, (o = true → (s.length : Int) < 40) → DrD fun k => spec_l07Tokens.j1 k s x o b i1 g1 := by
      intro o ho
      have hs4 := ho
      cases o with
      | false => exact out
      | true =>
        have hs4 := ho rfl
        obtain ⟨u, i2, g2, e2, _, _, a2, b2⟩ := below_ok b i1 g1 7 (by omega) (by omega) hb a1 b1
        by_cases c0 : u = 0
        · obtain ⟨p1, i3, g3, e3, _, _, a3, b3⟩ := below_ok b i2 g2 256 (by omega) (by omega) hb a2 b2
          obtain ⟨l, i', h', c1, cd, c4⟩ := next (s ++ [⟨⟨#[]⟩, p1⟩, ⟨⟨#[103, 114, 97, 121]⟩, 0⟩]) i3 g3 (by simp; omega) (dA hd (dC (dI (by omega) (by omega)) (dC (dN (by simp [dNames])) dZ))) a3 b3
          refine ⟨l, i', h', c1, cd, Ev.up ?_⟩
          simp only [spec_l07Tokens.j1, if_true, e2, e3, if_pos c0, Option.bind_some, List.length_cons, List.length_nil, if_pos (show s.length + (0 + 1 + 1) < 5864062014805 by omega)]
          exact c4
        · by_cases c1 : u = 1
          · obtain ⟨l, i', h', d1, cd, d4⟩ := h2 hs4 u i2 g2 a2 b2 (u == 1)
            refine ⟨l, i', h', d1, cd, Ev.up ?_⟩
            simp only [spec_l07Tokens.j1, if_true, e2, Option.bind_some, if_neg c0, if_pos c1]
            exact d4
          · obtain ⟨l, i', h', d1, cd, d4⟩ := h2 hs4 u i2 g2 a2 b2 (u == 2)
            refine ⟨l, i', h', d1, cd, Ev.up ?_⟩
            simp only [spec_l07Tokens.j1, if_true, e2, Option.bind_some, if_neg c0, if_neg c1]
            exact d4
    obtain ⟨l, i', h', d1, cd, d4⟩ := h4 (decide ((s.length : Int) < 40)) (fun z => of_decide_eq_true z)
    refine ⟨l, i', h', d1, cd, Ev.up ?_⟩
    simp only [spec_l07Tokens.l0, e1, Option.bind_some, hw, if_pos c]
    exact d4
termination_by m => m
/-! spec -/
theorem ba_loop (a : ByteArray) : ∀ (m i : Nat) (r : List UInt8), a.size - i = m → ByteArray.toList.loop a i r = r.reverse ++ a.data.toList.drop i := by
  intro m
  induction m with
  | zero =>
    intro i r h
    unfold ByteArray.toList.loop
    have hs : a.size = a.data.size := rfl
    rw [if_neg (by omega), List.drop_eq_nil_of_le (by simp; omega), List.append_nil]
  | succ m ih =>
    intro i r h
    have hs : a.size = a.data.size := rfl
    unfold ByteArray.toList.loop
    rw [if_pos (by omega), ih (i + 1) _ (by omega), List.reverse_cons, List.append_assoc, List.singleton_append]
    have hi : i < a.data.size := by omega
    have hg : a.get! i = a.data.toList[i]'(by simpa using hi) := by
      show a.data[i]! = _
      rw [getElem!_pos a.data i hi]; simp
    rw [hg, ← List.drop_eq_getElem_cons]
theorem ba_toList (a : ByteArray) : a.toList = a.data.toList := by
  unfold ByteArray.toList
  rw [ba_loop a _ 0 [] rfl]; simp
theorem sIsName_ev (a : ByteArray) (h1 : 1 ≤ a.size) (h2 : a.size ≤ 8) (hb : ∀ i : Nat, i < a.size → 97 ≤ bt a i ∧ bt a i ≤ 122) : Ev (fun k => spec_IsName.f k a) true := by
  simp only [spec_IsName.f]
  have main : ∀ (m i : Nat), a.size - i = m → i ≤ a.size → Ev (fun k => spec_IsName.l0 k a (i : Int)) true := by
    intro m
    induction m with
    | zero =>
      intro i hm hi
      have e : inB (a.size : Int) 1 8 = true := inB_iff.2 ⟨by omega, by omega⟩
      exact Ev.up (by simp only [spec_IsName.l0, if_neg (show ¬ (i : Int) < (a.size : Int) by omega), l01In_eq, Option.bind_some, e]; exact Ev.now _)
    | succ m ih =>
      intro i hm hi
      have hw : wrap64 ((i : Int) + 1) = ((i + 1 : Nat) : Int) := by rw [wrap_id (by omega) (by omega)]; omega
      have hx := hb i (by omega)
      exact Ev.up (by simp only [spec_IsName.l0, if_pos (show (i : Int) < (a.size : Int) by omega), if_pos (show (0 : Int) ≤ (i : Int) by omega), if_neg (show ¬ bt a i < 97 by omega), if_neg (show ¬ bt a i > 122 by omega), hw]; exact ih (i + 1) (by omega) (by omega))
  exact main _ 0 rfl (by omega)
theorem sTok_ev {t : S40} (h : tkD t) : Ev (fun k => spec_TokenOk.f k t.f0 t.f1) true := by
  obtain ⟨a, n⟩ := t
  rcases h with ⟨ha, h0, h1⟩ | ⟨ha, hn⟩
  · simp only at ha h0 h1
    subst ha
    have e : inB n (-999) 999 = true := inB_iff.2 ⟨by omega, h1⟩
    have e2 : (⟨#[]⟩ : ByteArray).toList = ([] : List UInt8) := by rw [ba_toList]
    simp only [spec_TokenOk.f, l01In_eq, Option.bind_some, e, if_pos e2]
    exact Ev.now _
  · simp only [dNames, List.mem_cons, List.not_mem_nil, or_false] at ha hn
    subst hn
    simp only [spec_TokenOk.f]
    rcases ha with rfl | rfl | rfl | rfl | rfl | rfl | rfl | rfl | rfl | rfl <;>
      (refine Ev.ite (fun h => absurd h (by rw [ba_toList]; decide)) (fun _ => Ev.bind (sIsName_ev _ (by decide) (by decide) (by decide)) (Ev.now _)))
theorem tkD_ne {t : S40} (h : tkD t) : t.f0.toList ≠ ([114, 101, 112, 101, 97, 116] : List UInt8) ∧ t.f0.toList ≠ ([101, 110, 100] : List UInt8) := by
  obtain ⟨a, n⟩ := t
  rcases h with ⟨ha, h0, h1⟩ | ⟨ha, hn⟩
  · simp only at ha; subst ha; simp only [ba_toList]; decide
  · simp only [dNames, List.mem_cons, List.not_mem_nil, or_false] at ha
    rcases ha with rfl | rfl | rfl | rfl | rfl | rfl | rfl | rfl | rfl | rfl <;> (simp only [ba_toList]; decide)
theorem sDepth_ev (l : List S40) (hl : l.length ≤ 55) (hd : ∀ z ∈ l, tkD z) : Ev (fun k => spec_BlockDepth.f k l) 0 := by
  simp only [spec_BlockDepth.f]
  refine ev_loop0 l (F := fun k i => spec_BlockDepth.l0 k l 0 0 i) (fun _ _ => 0) ?_ (fun pre x rest e h => ?_)
  · simp only [spec_BlockDepth.l0, end_lt, if_false, if_true, if_neg (show ¬ (0 : Int) > 3 by omega)]; exact Ev.now _
  · have hx := hd x (by rw [e]; simp)
    have hlt : (pre.length : Int) < (l.length : Int) := by rw [e, mid_len]; omega
    have hw : wrap64 ((pre.length : Int) + 1) = ((pre ++ [x]).length : Int) := mid_wrap (pre := pre) (rest := rest) (x := x) (by rw [← e, maxLen_eq]; omega)
    have hrd : rd_T40 l (pre.length : Int) = x := by rw [e]; simp [rd_T40, List.getD_eq_getElem?_getD]
    simp only [spec_BlockDepth.l0, if_pos hlt, mid_nn, if_true, hrd]
    refine Ev.bind (sTok_ev hx) ?_
    simp only [if_true, decide_eq_false (show ¬ (l.length : Int) > 60 by omega)]
    refine Ev.up ?_
    simp only [spec_BlockDepth.j1, Bool.false_eq_true, if_false, if_pos hlt, mid_nn, if_true, hrd, if_neg (tkD_ne hx).1, if_neg (tkD_ne hx).2, hw]
    exact h
theorem sFlat_ev (l : List S40) (hl : l.length ≤ 55) (hd : ∀ z ∈ l, tkD z) : Ev (fun k => spec_l06Flat.f k l) l := by
  refine Ev.up ?_
  simp only [spec_l06Flat.f]
  refine ev_loop l (F := fun k s i => spec_l06Flat.l0 k l s i) (fun pre _ s => s = pre) (fun _ _ _ => l) ?_ ?_ [] rfl
  · rintro s rfl
    simp only [spec_l06Flat.l0, end_lt, if_false]; exact Ev.now _
  · rintro pre x rest s e rfl h
    have hpl : s.length ≤ 55 := by have := congrArg List.length e; simp at this; omega
    have hlt : (s.length : Int) < (l.length : Int) := by rw [e, mid_len]; omega
    have hw : wrap64 ((s.length : Int) + 1) = ((s ++ [x]).length : Int) := mid_wrap (pre := s) (rest := rest) (x := x) (by rw [← e, maxLen_eq]; omega)
    have hrd : rd_T40 l (s.length : Int) = x := by rw [e]; simp [rd_T40, List.getD_eq_getElem?_getD]
    have go : Ev (fun k => spec_l06Flat.j1 k l s (s.length : Int) true) l := by
      refine Ev.up ?_
      simp only [spec_l06Flat.j1, if_true, if_pos hlt, mid_nn, hrd, hw, if_pos (show s.length < 5864062014805 by omega)]
      exact h (s ++ [x]) rfl
    simp only [spec_l06Flat.l0, if_pos hlt, hw]
    by_cases c : ((s ++ [x]).length : Int) ≥ (l.length : Int)
    · simp only [if_pos c]; exact go
    · have hc : ((s ++ [x]).length : Int) < (l.length : Int) := by omega
      have hm : tkD (rd_T40 l ((s ++ [x]).length : Int)) := by
        unfold rd_T40
        rw [List.getD_eq_getElem?_getD, List.getElem?_eq_getElem (by omega)]
        exact hd _ (List.getElem_mem _)
      have hb : ((rd_T40 l ((s ++ [x]).length : Int)).f0.toList != ([114, 101, 112, 101, 97, 116] : List UInt8)) = true := bne_iff_ne.2 (tkD_ne hm).1
      simp only [if_neg c, if_pos hc, if_pos (show (0 : Int) ≤ ((s ++ [x]).length : Int) by omega), hb]
      exact go
theorem sFlatten_ev (l : List S40) (hl : l.length ≤ 55) (hd : ∀ z ∈ l, tkD z) : Ev (fun k => spec_FlattenBlocks.f k l) (l, true) := by
  simp only [spec_FlattenBlocks.f, spec_FlatLength.f, spec_BlocksOk.f]
  refine Ev.bind (a := (l.length : Int)) (Ev.bind (a := true) (Ev.bind (sDepth_ev l hl hd) (Ev.now _)) ?_) ?_
  · simp only [if_true]
    exact Ev.bind (sFlat_ev l hl hd) (Ev.now _)
  · have e : inB (l.length : Int) 0 200 = true := inB_iff.2 ⟨by omega, by omega⟩
    simp only [l01In_eq, Option.bind_some, e, if_true]
    exact Ev.bind (sFlat_ev l hl hd) (Ev.now _)
theorem sCopy_eq (l : List Int) (h : l.length ≤ 2000000) : spec_l05Copy.f l = some l := by
  have c : l.length < 17592186044416 := by omega
  simp [spec_l05Copy.f, c]
theorem sGr_eq (st : List Int) (p q r s : Int) (l : List S80) (g t u v x : Int) (hs : st.length ≤ 2000000) (hl : l.length ≤ 2000000) : spec_l07Graphics.f st p q r s l g t u v x = some (st, p, q, r, s, l, g, t, u, v, x) := by
  have c : l.length < 8796093022208 := by omega
  simp [spec_l07Graphics.f, sCopy_eq st hs, c]
theorem sShape_eq (l : List S80) (g t u v x : Int) (hl : l.length ≤ 2000000) : spec_l07Shape.f l g t u v x = some (l, g, t, u, v, x) := by
  have c : l.length < 8796093022208 := by omega
  simp [spec_l07Shape.f, c]
theorem sCopyPage_ev (p : Pg) (h : pgN 2000000 p) : Ev (fun k => spec_l07Copy.f k p.g.f0 p.g.f1.f0 p.g.f1.f1 p.g.f1.f2 p.g.f1.f3 p.g.f2 p.g.f3 p.g.f4.f0 p.g.f4.f1 p.g.f4.f2 p.g.f4.f3 p.sv p.ob) (tup p) := by
  obtain ⟨h1, h2, h3, h4, h5, h6⟩ := h
  simp only [spec_l07Copy.f, sGr_eq _ _ _ _ _ _ _ _ _ _ _ h1 h2, Option.bind_some]
  have objs : ∀ z, z = p.sv → Ev (fun k => spec_l07Copy.l1 k 0 p.g.f0 p.g.f1.f0 p.g.f1.f1 p.g.f1.f2 p.g.f1.f3 p.g.f2 p.g.f3 p.g.f4.f0 p.g.f4.f1 p.g.f4.f2 p.g.f4.f3 p.sv p.ob p.g.f0 p.g.f1.f0 p.g.f1.f1 p.g.f1.f2 p.g.f1.f3 p.g.f2 p.g.f3 p.g.f4.f0 p.g.f4.f1 p.g.f4.f2 p.g.f4.f3 z ([] : List S60)) (tup p) := by
    rintro z rfl
    refine ev_loop p.ob (F := fun k s i => spec_l07Copy.l1 k i p.g.f0 p.g.f1.f0 p.g.f1.f1 p.g.f1.f2 p.g.f1.f3 p.g.f2 p.g.f3 p.g.f4.f0 p.g.f4.f1 p.g.f4.f2 p.g.f4.f3 p.sv p.ob p.g.f0 p.g.f1.f0 p.g.f1.f1 p.g.f1.f2 p.g.f1.f3 p.g.f2 p.g.f3 p.g.f4.f0 p.g.f4.f1 p.g.f4.f2 p.g.f4.f3 p.sv s) (fun pre _ s => s = pre) (fun _ _ _ => tup p) ?_ ?_ [] rfl
    · rintro s rfl
      simp only [spec_l07Copy.l1, end_lt, if_false]; exact Ev.now _
    · rintro pre x rest s e rfl ih
      have hxx := h6 x (by rw [e]; simp)
      have hpl : s.length ≤ 2000000 := by have := congrArg List.length e; simp at this; omega
      have hlt : (s.length : Int) < (p.ob.length : Int) := by rw [e, mid_len]; omega
      have hw : wrap64 ((s.length : Int) + 1) = ((s ++ [x]).length : Int) := mid_wrap (pre := s) (rest := rest) (x := x) (by rw [← e, maxLen_eq]; omega)
      have hrd : rd_T60 p.ob (s.length : Int) = x := by rw [e]; simp [rd_T60, List.getD_eq_getElem?_getD]
      simp only [spec_l07Copy.l1, if_pos hlt, mid_nn, if_true, hrd, hw, sShape_eq _ _ _ _ _ _ hxx, Option.bind_some, if_pos (show s.length < 2199023255552 by omega)]
      exact ih (s ++ [x]) rfl
  refine ev_loop p.sv (F := fun k s i => spec_l07Copy.l0 k i p.g.f0 p.g.f1.f0 p.g.f1.f1 p.g.f1.f2 p.g.f1.f3 p.g.f2 p.g.f3 p.g.f4.f0 p.g.f4.f1 p.g.f4.f2 p.g.f4.f3 p.sv p.ob p.g.f0 p.g.f1.f0 p.g.f1.f1 p.g.f1.f2 p.g.f1.f3 p.g.f2 p.g.f3 p.g.f4.f0 p.g.f4.f1 p.g.f4.f2 p.g.f4.f3 s) (fun pre _ s => s = pre) (fun _ _ _ => tup p) ?_ ?_ [] rfl
  · rintro s rfl
    simp only [spec_l07Copy.l0, end_lt, if_false]; exact objs _ rfl
  · rintro pre x rest s e rfl ih
    have hxx := h4 x (by rw [e]; simp)
    have hpl : s.length ≤ 2000000 := by have := congrArg List.length e; simp at this; omega
    have hlt : (s.length : Int) < (p.sv.length : Int) := by rw [e, mid_len]; omega
    have hw : wrap64 ((s.length : Int) + 1) = ((s ++ [x]).length : Int) := mid_wrap (pre := s) (rest := rest) (x := x) (by rw [← e, maxLen_eq]; omega)
    have hrd : rd_T31 p.sv (s.length : Int) = x := by rw [e]; simp [rd_T31, List.getD_eq_getElem?_getD]
    simp only [spec_l07Copy.l0, if_pos hlt, mid_nn, if_true, hrd, hw, sGr_eq _ _ _ _ _ _ _ _ _ _ _ hxx.1 hxx.2, Option.bind_some, if_pos (show s.length < 1172812402961 by omega)]
    exact ih (s ++ [x]) rfl
theorem sTake_ev (l : List Int) (n : Int) (hl : l.length ≤ 2000000) (hn : 0 ≤ n) (hn2 : n ≤ 100) : Ev (fun k => spec_TakeNumbers.f k l n) (takeN l n) := by
  simp only [spec_TakeNumbers.f, l01In_eq, Option.bind_some]
  unfold takeN
  have no : Ev (fun k => spec_TakeNumbers.j0 k l n true) (l, [], false) := Ev.up (by simp only [spec_TakeNumbers.j0, if_true, sCopy_eq l hl, Option.bind_some]; exact Ev.now _)
  refine Ev.bind (sStackOk_ev l (by rw [maxLen_eq]; omega)) ?_
  cases hs : stkOk l with
  | false => simp only [Bool.false_eq_true, if_false, false_and]; exact no
  | true =>
    simp only [if_true, true_and]
    cases hb : inB n 0 (l.length : Int) with
    | false => simp only [Bool.not_false, Bool.false_eq_true, if_false]; exact no
    | true =>
      have hb2 := inB_iff.1 hb
      have hw : wrap64 ((l.length : Int) - n) = (l.length : Int) - n := wrap_id (by omega) (by omega)
      refine Ev.up ?_
      simp only [Bool.not_true, spec_TakeNumbers.j0, Bool.false_eq_true, if_false, hw, if_pos (show 0 ≤ (l.length : Int) - n by omega), if_pos (show (l.length : Int) - n ≤ (l.length : Int) by omega), if_true]
      rw [sCopy_eq _ (by rw [List.length_take]; omega), sCopy_eq _ (by rw [List.length_drop]; omega)]
      exact Ev.now _
theorem sPush_ev (l : List Int) (n : Int) (hl : l.length ≤ 2000000) : Ev (fun k => spec_PushNumber.f k l n) (pushN l n) := by
  simp only [spec_PushNumber.f, sCopy_eq l hl, Option.bind_some, if_pos (show l.length < 17592186044416 by omega)]
  unfold pushN
  refine Ev.bind (sStackOk_ev l (by rw [maxLen_eq]; omega)) ?_
  cases hs : stkOk l with
  | false => simp only [Bool.false_eq_true, if_false, false_and]; exact Ev.now _
  | true =>
    simp only [if_true, true_and]
    refine Ev.bind (sStackOk_ev (l ++ [n]) (by rw [maxLen_eq, List.length_append, List.length_singleton]; omega)) ?_
    exact Ev.iteB (fun h => by rw [if_pos h]; exact Ev.now _) (fun h => by rw [h]; simp only [Bool.false_eq_true, if_false]; exact Ev.now _)
theorem sRaw_ev (t : S26) (x y : Int) (h0 : 0 ≤ t.f0) (h1 : t.f0 ≤ 3) : ∃ z, Ev (fun k => spec_l03Raw.f k t.f0 t.f1 t.f2 t.f3 x y) z := by
  simp only [spec_l03Raw.f]
  have main : ∀ (m : Nat) (i a b : Int), (t.f0 - i).toNat = m → 0 ≤ i → ∃ z, Ev (fun k => spec_l03Raw.l0 k a b i t.f0 t.f1 t.f2 t.f3) z := by
    intro m
    induction m with
    | zero => intro i a b hm hi; exact ⟨_, Ev.up (by simp only [spec_l03Raw.l0, if_neg (show ¬ i < t.f0 by omega)]; exact Ev.now _)⟩
    | succ m ih =>
      intro i a b hm hi
      have hw : wrap64 (i + 1) = i + 1 := wrap_id (by omega) (by omega)
      obtain ⟨z, hz⟩ := ih (i + 1) (wrap64 (-b)) a (by omega) (by omega)
      exact ⟨z, Ev.up (by simp only [spec_l03Raw.l0, if_pos (show i < t.f0 by omega), hw]; exact hz)⟩
  exact main _ 0 _ _ rfl (by omega)
theorem sJoin_ev (a b : S26) : ∃ z, Ev (fun k => spec_JoinTurns.f k a.f0 a.f1 a.f2 a.f3 b.f0 b.f1 b.f2 b.f3) z := by
  simp only [spec_JoinTurns.f, sTurnOk_eq, Option.bind_some]
  have no : Ev (fun k => spec_JoinTurns.j0 k true a.f0 a.f1 a.f2 a.f3 b.f0 b.f1 b.f2 b.f3) (0, 0, 0, 0, false) := Ev.up (by simp only [spec_JoinTurns.j0, if_true]; exact Ev.now _)
  cases h1 : turnOk a.f0 a.f1 a.f2 a.f3 with
  | false => simp only [Bool.false_eq_true, if_false]; exact ⟨_, no⟩
  | true =>
    simp only [if_true]
    cases h2 : turnOk b.f0 b.f1 b.f2 b.f3 with
    | false => simp only [Bool.not_false]; exact ⟨_, no⟩
    | true =>
      have hq := tn_q (t := b) h2
      obtain ⟨z, hz⟩ := sRaw_ev b a.f2 a.f3 hq.1 hq.2
      simp only [Bool.not_true]
      cases h3 : turnOk (Int.tmod (wrap64 (a.f0 + b.f0)) 4) (wrap64 (a.f1 * b.f1)) z.1 z.2 with
      | false => exact ⟨_, Ev.up (by simp only [spec_JoinTurns.j0, Bool.false_eq_true, if_false, sTurnOk_eq, Option.bind_some]; exact Ev.bind hz (by simp only [h3, Bool.false_eq_true, if_false]; exact Ev.now _))⟩
      | true => exact ⟨_, Ev.up (by simp only [spec_JoinTurns.j0, Bool.false_eq_true, if_false, sTurnOk_eq, Option.bind_some]; exact Ev.bind hz (by simp only [h3, if_true]; exact Ev.now _))⟩
theorem sBoxOf_ev2 (l : List S80) (hl : l.length ≤ 2000000) : ∃ z, Ev (fun k => spec_BoxOf.f k l) z := by
  simp only [spec_BoxOf.f]
  have main : ∀ (rest pre : List S80) (a b c d : Int), l = pre ++ rest → ∃ z, Ev (fun k => spec_BoxOf.l0 k l (pre.length : Int) a b c d) z := by
    intro rest
    induction rest with
    | nil =>
      intro pre a b c d e
      have e' : pre.length = l.length := by rw [e]; simp
      exact ⟨_, Ev.up (by simp only [spec_BoxOf.l0, e', end_lt, if_false]; exact Ev.now _)⟩
    | cons x r ih =>
      intro pre a b c d e
      have hlt : (pre.length : Int) < (l.length : Int) := by rw [e, mid_len]; omega
      have hw : wrap64 ((pre.length : Int) + 1) = ((pre ++ [x]).length : Int) := mid_wrap (pre := pre) (rest := r) (x := x) (by rw [← e, maxLen_eq]; omega)
      have ih2 := fun a b c d => ih (pre ++ [x]) a b c d (by rw [e]; simp)
      generalize hy : rd_T80 l (pre.length : Int) = y
      obtain ⟨b0, hb0⟩ : ∃ b0, spec_PointOk.f y.f0 y.f1 = some b0 := by
        unfold spec_PointOk.f
        simp only [l02In_eq, Option.bind_some]
        split
        · exact ⟨_, rfl⟩
        · exact ⟨_, rfl⟩
      cases b0 with
      | false => exact ⟨_, Ev.up (by simp only [spec_BoxOf.l0, if_pos hlt, mid_nn, if_true, hy, hb0, Option.bind_some, Bool.false_eq_true, if_false]; exact Ev.now _)⟩
      | true =>
        by_cases c0 : (pre.length : Int) = 0
        · obtain ⟨z, hz⟩ := ih2 y.f0 y.f1 y.f0 y.f1
          exact ⟨z, Ev.up (by simp only [spec_BoxOf.l0, if_pos hlt, mid_nn, if_true, hy, hb0, Option.bind_some, if_pos c0, hw]; exact hz)⟩
        · obtain ⟨z, hz⟩ := ih2 (mn a y.f0) (mn b y.f1) (mx c y.f0) (mx d y.f1)
          exact ⟨z, Ev.up (by simp only [spec_BoxOf.l0, if_pos hlt, mid_nn, if_true, hy, hb0, Option.bind_some, if_neg c0, hw]; exact hz)⟩
  exact main l [] 0 0 0 0 rfl
theorem sMeet_ev (a b c d e f g h : Int) : ∃ z, spec_MeetBox.f a b c d e f g h = some z := by
  have hb : ∀ a b c d, ∃ z, spec_BoxOk.f a b c d = some z := fun a b c d => ⟨_, sBoxOk_eq a b c d⟩
  obtain ⟨z1, h1⟩ := hb a b c d
  obtain ⟨z2, h2⟩ := hb e f g h
  simp only [spec_MeetBox.f, h1, h2, Option.bind_some]
  repeat' split
  all_goals exact ⟨_, rfl⟩
def Gd (F : Nat → Option PgB) : Prop := ∃ z : Pg × Bool, Ev F (tupB z) ∧ okP z.1 = true
theorem Gd.bind {α : Type} {g : Nat → Option α} {f : Nat → α → Option PgB} {a : α} (h : Ev g a) (k : Gd (fun n => f n a)) : Gd (fun n => (g n).bind (f n)) := by
  obtain ⟨z, hz, ho⟩ := k
  exact ⟨z, Ev.bind h hz, ho⟩
theorem Gd.up {g : Nat → Option PgB} (h : Gd (fun k => g (k + 1))) : Gd g := by
  obtain ⟨z, hz, ho⟩ := h
  exact ⟨z, Ev.up hz, ho⟩
theorem sPageOkP_ev (p : Pg) (h : pgN 2000000 p) : Ev (fun k => spec_PageOk.f k p.g.f0 p.g.f1.f0 p.g.f1.f1 p.g.f1.f2 p.g.f1.f3 p.g.f2 p.g.f3 p.g.f4.f0 p.g.f4.f1 p.g.f4.f2 p.g.f4.f3 p.sv p.ob) (okP p) := by
  obtain ⟨h1, h2, h3, h4, h5, h6⟩ := h
  exact sPageOk_ev p.g.f0 p.g.f1.f0 p.g.f1.f1 p.g.f1.f2 p.g.f1.f3 p.g.f2 p.g.f3 p.g.f4.f0 p.g.f4.f1 p.g.f4.f2 p.g.f4.f3 p.sv p.ob (by rw [maxLen_eq]; omega) (by rw [maxLen_eq]; omega) (by rw [maxLen_eq]; omega) (fun x hx => by have := h4 x hx; rw [maxLen_eq]; omega) (by rw [maxLen_eq]; omega) (fun x hx => by have := h6 x hx; rw [maxLen_eq]; omega)
section
variable (p : Pg) (hok : okP p = true) (h : pgN 2000000 p)
include hok h
theorem sno (X : Pg) : Gd (fun k => spec_ExecToken.j4 k false p.g.f0 p.g.f1.f0 p.g.f1.f1 p.g.f1.f2 p.g.f1.f3 p.g.f2 p.g.f3 p.g.f4.f0 p.g.f4.f1 p.g.f4.f2 p.g.f4.f3 p.sv p.ob X.g.f0 X.g.f1.f0 X.g.f1.f1 X.g.f1.f2 X.g.f1.f3 X.g.f2 X.g.f3 X.g.f4.f0 X.g.f4.f1 X.g.f4.f2 X.g.f4.f3 X.sv X.ob) := by
  refine ⟨(p, false), Ev.up ?_, hok⟩
  simp only [spec_ExecToken.j4, Bool.false_eq_true, if_false]
  exact Ev.bind (sCopyPage_ev p h) (Ev.now _)
theorem sfin (X : Pg) (hX : pgN 2000000 X) : Gd (fun k => spec_ExecToken.j4 k true p.g.f0 p.g.f1.f0 p.g.f1.f1 p.g.f1.f2 p.g.f1.f3 p.g.f2 p.g.f3 p.g.f4.f0 p.g.f4.f1 p.g.f4.f2 p.g.f4.f3 p.sv p.ob X.g.f0 X.g.f1.f0 X.g.f1.f1 X.g.f1.f2 X.g.f1.f3 X.g.f2 X.g.f3 X.g.f4.f0 X.g.f4.f1 X.g.f4.f2 X.g.f4.f3 X.sv X.ob) := by
  cases hx : okP X with
  | true =>
    refine ⟨(X, true), Ev.up ?_, hx⟩
    simp only [spec_ExecToken.j4, if_true]
    exact Ev.bind (sPageOkP_ev X hX) (by simp only [hx, if_true]; exact Ev.now _)
  | false =>
    refine ⟨(p, false), Ev.up ?_, hok⟩
    simp only [spec_ExecToken.j4, if_true]
    exact Ev.bind (sPageOkP_ev X hX) (by simp only [hx, Bool.false_eq_true, if_false]; exact Ev.bind (sCopyPage_ev p h) (Ev.now _))
theorem sboth (X : Pg) (hX : pgN 2000000 X) (b : Bool) : Gd (fun k => spec_ExecToken.j4 k b p.g.f0 p.g.f1.f0 p.g.f1.f1 p.g.f1.f2 p.g.f1.f3 p.g.f2 p.g.f3 p.g.f4.f0 p.g.f4.f1 p.g.f4.f2 p.g.f4.f3 p.sv p.ob X.g.f0 X.g.f1.f0 X.g.f1.f1 X.g.f1.f2 X.g.f1.f3 X.g.f2 X.g.f3 X.g.f4.f0 X.g.f4.f1 X.g.f4.f2 X.g.f4.f3 X.sv X.ob) := by
  cases b with
  | true => exact sfin p hok h X hX
  | false => exact sno p hok h X
theorem srect (X : Pg) (hX : pgN 1000000 X) (hq : 0 ≤ X.g.f1.f0 ∧ X.g.f1.f0 ≤ 3) (l : List S80) (hl : l.length = 4) :
    Gd (fun k => spec_ExecToken.l0 k l 0 p.g.f0 p.g.f1.f0 p.g.f1.f1 p.g.f1.f2 p.g.f1.f3 p.g.f2 p.g.f3 p.g.f4.f0 p.g.f4.f1 p.g.f4.f2 p.g.f4.f3 p.sv p.ob X.g.f0 X.g.f1.f0 X.g.f1.f1 X.g.f1.f2 X.g.f1.f3 ([] : List S80) X.g.f3 X.g.f4.f0 X.g.f4.f1 X.g.f4.f2 X.g.f4.f3 X.sv X.ob) := by
  have main : ∀ (m : Nat) (i : Int) (s : List S80), (4 - i).toNat = m → 0 ≤ i → s.length ≤ 100 - m → m ≤ 4 → Gd (fun k => spec_ExecToken.l0 k l i p.g.f0 p.g.f1.f0 p.g.f1.f1 p.g.f1.f2 p.g.f1.f3 p.g.f2 p.g.f3 p.g.f4.f0 p.g.f4.f1 p.g.f4.f2 p.g.f4.f3 p.sv p.ob X.g.f0 X.g.f1.f0 X.g.f1.f1 X.g.f1.f2 X.g.f1.f3 s X.g.f3 X.g.f4.f0 X.g.f4.f1 X.g.f4.f2 X.g.f4.f3 X.sv X.ob) := by
    intro m
    induction m with
    | zero =>
      intro i s hm hi hs _
      refine Gd.up ?_
      simp only [spec_ExecToken.l0, if_neg (show ¬ i < 4 by omega)]
      obtain ⟨h1, h2, h3, h4, h5, h6⟩ := pgN_mono hX (show 1000000 ≤ 2000000 by omega)
      exact sfin p hok h { X with g := { X.g with f2 := s } } ⟨h1, by simp only; omega, h3, h4, h5, h6⟩
    | succ m ih =>
      intro i s hm hi hs hm4
      have hw : wrap64 (i + 1) = i + 1 := wrap_id (by omega) (by omega)
      refine Gd.up ?_
      simp only [spec_ExecToken.l0, if_pos (show i < 4 by omega), if_pos hi, if_pos (show i < (l.length : Int) by omega), hw]
      obtain ⟨z, hz⟩ := sRaw_ev X.g.f1 (rd_T80 l i).f0 (rd_T80 l i).f1 hq.1 hq.2
      refine Gd.bind hz ?_
      simp only [if_pos (show s.length < 8796093022208 by omega)]
      exact ih (i + 1) (s ++ [⟨z.1, z.2⟩]) (by omega) (by omega) (by simp; omega) (by omega)
  exact main 4 0 [] (by omega) (by omega) (by simp) (by omega)
end
def dLit : List (List UInt8) := [[103, 114, 97, 121], [114, 101, 99, 116], [102, 105, 108, 108], [99, 108, 105, 112], [108, 105, 110, 101, 116, 111], [109, 111, 118, 101, 116, 111], [115, 97, 118, 101], [114, 101, 115, 116, 111, 114, 101], [110, 101, 119], [115, 104, 105, 102, 116]]
def dCnt (l : List UInt8) : Int := if l = [103, 114, 97, 121] then 1 else if l = [114, 101, 99, 116] then 4 else if l = [108, 105, 110, 101, 116, 111] then 2 else if l = [109, 111, 118, 101, 116, 111] then 2 else if l = [115, 104, 105, 102, 116] then 2 else 0
theorem dLit_of {a : ByteArray} (h : a ∈ dNames) : a.toList ∈ dLit := by
  simp only [dNames, List.mem_cons, List.not_mem_nil, or_false] at h
  rcases h with rfl | rfl | rfl | rfl | rfl | rfl | rfl | rfl | rfl | rfl <;> (rw [ba_toList]; decide)
theorem sTakes_ev {a : ByteArray} (h : a.toList ∈ dLit) : Ev (fun k => spec_l07Takes.f k a) (dCnt a.toList) := by
  simp only [dLit, List.mem_cons, List.not_mem_nil, or_false] at h
  rcases h with e | e | e | e | e | e | e | e | e | e <;>
    exact ⟨5, fun k hk => by obtain ⟨j, rfl⟩ : ∃ j, k = j + 5 := ⟨k - 5, by omega⟩; simp (decide := true) [spec_l07Takes.f, spec_l07Takes.j0, spec_l07Takes.j1, spec_l07Takes.j2, e, dCnt]⟩
theorem sIsOp_no {a : ByteArray} (h : a.toList ∈ dLit) : spec_IsStackOp.f a = some false := by
  simp only [dLit, List.mem_cons, List.not_mem_nil, or_false] at h
  rcases h with e | e | e | e | e | e | e | e | e | e <;> simp (decide := true) [spec_IsStackOp.f, e]
theorem dCnt_bd {l : List UInt8} : 0 ≤ dCnt l ∧ dCnt l ≤ 4 := by unfold dCnt; repeat' split <;> omega
theorem sExec_gd (p : Pg) (hok : okP p = true) (t : S40) (ht : tkD t) : Gd (fun k => spec_ExecToken.f k p.g.f0 p.g.f1.f0 p.g.f1.f1 p.g.f1.f2 p.g.f1.f3 p.g.f2 p.g.f3 p.g.f4.f0 p.g.f4.f1 p.g.f4.f2 p.g.f4.f3 p.sv p.ob t.f0 t.f1) := by
  obtain ⟨hs, htn⟩ := okP_small hok
  have h1 : pgN 1000000 p := pgN_mono hs (by omega)
  have h2 : pgN 2000000 p := pgN_mono hs (by omega)
  have hq := tn_q htn
  have hstL : p.g.f0.length ≤ 2000000 := by have := hs.1; omega
  simp only [spec_ExecToken.f]
  refine Gd.bind (sPageOkP_ev p h2) ?_
  simp only [hok, if_true]
  refine Gd.bind (sTok_ev ht) ?_
  simp only [Bool.not_true]
  obtain ⟨a, n⟩ := t
  simp only
  refine Gd.up ?_
  simp only [spec_ExecToken.j0, Bool.false_eq_true, if_false]
  refine Gd.bind (sCopyPage_ev p h2) ?_
  simp only [tup]
  rcases ht with ⟨ha, _, _⟩ | ⟨ha, hn⟩
  · simp only at ha
    have e : a.toList = ([] : List UInt8) := by rw [ha, ba_toList]
    refine Gd.bind (a := -1) ⟨5, fun k hk => by obtain ⟨j, rfl⟩ : ∃ j, k = j + 5 := ⟨k - 5, by omega⟩; simp (decide := true) [spec_l07Takes.f, spec_l07Takes.j0, spec_l07Takes.j1, spec_l07Takes.j2, e]⟩ ?_
    simp only [if_pos e]
    refine Gd.bind (sPush_ev p.g.f0 n hstL) ?_
    have hln : (pushN p.g.f0 n).1.length ≤ 13 := by have := hs.1; unfold pushN; split <;> simp <;> omega
    exact sboth p hok h2 (setSt p (pushN p.g.f0 n).1) ⟨by simp only [setSt]; omega, h2.2⟩ _
  · simp only at ha hn
    have hl := dLit_of ha
    have ne : ¬ a.toList = ([] : List UInt8) := fun z => by rw [z] at hl; revert hl; decide
    refine Gd.bind (sTakes_ev hl) ?_
    have hcb := dCnt_bd (l := a.toList)
    simp only [if_neg ne, sIsOp_no hl, Option.bind_some, Bool.false_eq_true, if_false, if_pos (show dCnt a.toList ≥ 0 by omega)]
    refine Gd.bind (sTake_ev p.g.f0 (dCnt a.toList) hstL hcb.1 (by omega)) ?_
    obtain ⟨t1, _, t3⟩ := takeN_facts (l := p.g.f0) hcb.1
    cases hhas : (takeN p.g.f0 (dCnt a.toList)).2.2 with
    | false =>
      simp only [Bool.false_eq_true, if_false]
      exact sno p hok h2 (setSt p (takeN p.g.f0 (dCnt a.toList)).1)
    | true =>
      have hx := t3 hhas
      simp only [if_true]
      generalize hx2 : (takeN p.g.f0 (dCnt a.toList)).2.1 = x at *
      generalize hst2 : (takeN p.g.f0 (dCnt a.toList)).1 = st at *
      have hX2 : pgN 2000000 (setSt p st) := ⟨by simp only [setSt]; have := hs.1; omega, h2.2⟩
      have hX1 : pgN 1000000 (setSt p st) := ⟨by simp only [setSt]; have := hs.1; omega, h1.2⟩
      have lx : (x.length : Int) = dCnt a.toList := hx
      obtain ⟨x1, x2, x3, x4, x5, x6⟩ := id hs
      simp only [dLit, List.mem_cons, List.not_mem_nil, or_false] at hl
      rcases hl with e | e | e | e | e | e | e | e | e | e <;> rw [e] at lx
      · -- gray
        have lx1 : (x.length : Int) = 1 := lx
        simp (decide := true) only [e, if_false, if_true, spec_Identity.f, Option.bind_some]
        refine Gd.up ?_
        rw [show (([103, 114, 97, 121] : List UInt8) == [99, 108, 105, 112]) = false from by decide]
        simp (decide := true) only [spec_ExecToken.j1, e, if_false, if_true, Bool.false_eq_true, if_pos (show (0 : Int) < x.length by omega), spec_Identity.f, Option.bind_some]
        exact sfin p hok h2 { setSt p st with g := { (setSt p st).g with f3 := rd x 0 } } hX2
      · -- rect
        have lx1 : (x.length : Int) = 4 := lx
        simp (decide := true) only [e, if_false, if_true]
        refine Gd.up ?_
        rw [show (([114, 101, 99, 116] : List UInt8) == [114, 101, 99, 116]) = true from by decide]
        simp (decide := true) only [spec_ExecToken.j1, e, if_false, if_true, if_pos (show (2 : Int) < x.length by omega), if_pos (show (3 : Int) < x.length by omega), l01In_eq, Option.bind_some]
        have bad : Gd (fun k => spec_ExecToken.j2 k x true p.g.f0 p.g.f1.f0 p.g.f1.f1 p.g.f1.f2 p.g.f1.f3 p.g.f2 p.g.f3 p.g.f4.f0 p.g.f4.f1 p.g.f4.f2 p.g.f4.f3 p.sv p.ob st p.g.f1.f0 p.g.f1.f1 p.g.f1.f2 p.g.f1.f3 p.g.f2 p.g.f3 p.g.f4.f0 p.g.f4.f1 p.g.f4.f2 p.g.f4.f3 p.sv p.ob) := by
          refine Gd.up ?_
          simp only [spec_ExecToken.j2, if_true]
          exact sno p hok h2 (setSt p st)
        cases b2 : inB (rd x 2) 0 200 with
        | false => simp only [Bool.false_eq_true, if_false]; exact bad
        | true =>
          simp only [if_true]
          cases b3 : inB (rd x 3) 0 200 with
          | false => simp only [Bool.not_false]; exact bad
          | true =>
            simp only [Bool.not_true]
            refine Gd.up ?_
            simp only [spec_ExecToken.j2, Bool.false_eq_true, if_false, if_pos (show (0 : Int) < x.length by omega), if_pos (show (1 : Int) < x.length by omega), if_pos (show (2 : Int) < x.length by omega), if_pos (show (3 : Int) < x.length by omega)]
            exact srect p hok h2 (setSt p st) hX1 hq _ rfl
      · -- fill
        simp (decide := true) only [e, if_false, if_true]
        refine Gd.up ?_
        rw [show (([102, 105, 108, 108] : List UInt8) == [102, 105, 108, 108]) = true from by decide]
        simp (decide := true) only [spec_ExecToken.j1, e, if_false, if_true]
        by_cases z : (p.g.f2.length : Int) < 3
        · simp only [if_pos z]; exact sno p hok h2 (setSt p st)
        · simp only [if_neg z, if_pos (show p.ob.length < 2199023255552 by omega)]
          refine sfin p hok h2 { setSt p st with g := { (setSt p st).g with f2 := [] }, ob := p.ob ++ [⟨p.g.f2, p.g.f3, p.g.f4⟩] } ⟨hX2.1, by simp, hX2.2.2.1, hX2.2.2.2.1, by simp; omega, fun y hy => ?_⟩
          rcases List.mem_append.1 hy with hy | hy
          · exact hX2.2.2.2.2.2 y hy
          · rw [List.mem_singleton.1 hy]; exact hX2.2.1
      · -- clip
        simp (decide := true) only [e, if_false, if_true]
        refine Gd.up ?_
        rw [show (([99, 108, 105, 112] : List UInt8) == [99, 108, 105, 112]) = true from by decide]
        simp (decide := true) only [spec_ExecToken.j1, e, if_false, if_true]
        by_cases z : (p.g.f2.length : Int) = 0
        · simp only [if_pos z]; exact sno p hok h2 (setSt p st)
        · simp only [if_neg z]
          obtain ⟨bx, hbx⟩ := sBoxOf_ev2 p.g.f2 (by omega)
          obtain ⟨mb, hmb⟩ := sMeet_ev p.g.f4.f0 p.g.f4.f1 p.g.f4.f2 p.g.f4.f3 bx.1 bx.2.1 bx.2.2.1 bx.2.2.2
          refine Gd.bind hbx ?_
          simp only [hmb, Option.bind_some]
          exact sfin p hok h2 { setSt p st with g := { (setSt p st).g with f2 := [], f4 := ⟨mb.1, mb.2.1, mb.2.2.1, mb.2.2.2⟩ } } ⟨hX2.1, by simp, hX2.2.2⟩
      · -- lineto
        have lx1 : (x.length : Int) = 2 := lx
        simp (decide := true) only [e, if_false, if_true]
        refine Gd.up ?_
        rw [show (([108, 105, 110, 101, 116, 111] : List UInt8) == [108, 105, 110, 101, 116, 111]) = true from by decide]
        simp (decide := true) only [spec_ExecToken.j1, e, if_false, if_true, if_pos (show (0 : Int) < x.length by omega), if_pos (show (1 : Int) < x.length by omega)]
        by_cases z : (p.g.f2.length : Int) = 0
        · simp only [if_pos z]; exact sno p hok h2 (setSt p st)
        · simp only [if_neg z]
          obtain ⟨w, hw⟩ := sRaw_ev p.g.f1 (rd x 0) (rd x 1) hq.1 hq.2
          refine Gd.bind hw ?_
          simp only [if_pos (show p.g.f2.length < 8796093022208 by omega)]
          exact sfin p hok h2 { setSt p st with g := { (setSt p st).g with f2 := p.g.f2 ++ [⟨w.1, w.2⟩] } } ⟨hX2.1, by simp; omega, hX2.2.2⟩
      · -- moveto
        have lx1 : (x.length : Int) = 2 := lx
        simp (decide := true) only [e, if_false, if_true]
        refine Gd.up ?_
        rw [show (([109, 111, 118, 101, 116, 111] : List UInt8) == [109, 111, 118, 101, 116, 111]) = true from by decide]
        simp (decide := true) only [spec_ExecToken.j1, e, if_false, if_true, if_pos (show (0 : Int) < x.length by omega), if_pos (show (1 : Int) < x.length by omega)]
        obtain ⟨w, hw⟩ := sRaw_ev p.g.f1 (rd x 0) (rd x 1) hq.1 hq.2
        refine Gd.bind hw ?_
        exact sfin p hok h2 { setSt p st with g := { (setSt p st).g with f2 := [⟨w.1, w.2⟩] } } ⟨hX2.1, by simp, hX2.2.2⟩
      · -- save
        simp (decide := true) only [e, if_false, if_true]
        refine Gd.up ?_
        rw [show (([115, 97, 118, 101] : List UInt8) == [99, 108, 105, 112]) = false from by decide]
        simp (decide := true) only [spec_ExecToken.j1, e, if_false, if_true, Bool.false_eq_true, spec_Identity.f, Option.bind_some]
        rw [sGr_eq st _ _ _ _ p.g.f2 _ _ _ _ _ hX2.1 hX2.2.1]
        simp only [Option.bind_some, if_pos (show p.sv.length < 1172812402961 by omega)]
        refine sfin p hok h2 { setSt p st with sv := p.sv ++ [(setSt p st).g] } ⟨hX2.1, hX2.2.1, by simp; omega, fun y hy => ?_, hX2.2.2.2.2⟩
        rcases List.mem_append.1 hy with hy | hy
        · exact hX2.2.2.2.1 y hy
        · rw [List.mem_singleton.1 hy]; exact ⟨hX2.1, hX2.2.1⟩
      · -- restore
        simp (decide := true) only [e, if_false, if_true]
        refine Gd.up ?_
        rw [show (([114, 101, 115, 116, 111, 114, 101] : List UInt8) == [99, 108, 105, 112]) = false from by decide]
        simp (decide := true) only [spec_ExecToken.j1, e, if_false, if_true, Bool.false_eq_true, spec_Identity.f, Option.bind_some]
        by_cases z : (p.sv.length : Int) = 0
        · simp only [if_pos z]; exact sno p hok h2 (setSt p st)
        · have hw : wrap64 ((p.sv.length : Int) - 1) = (p.sv.length : Int) - 1 := wrap_id (by omega) (by omega)
          simp only [if_neg z, hw, if_pos (show 0 ≤ (p.sv.length : Int) - 1 by omega), if_pos (show (p.sv.length : Int) - 1 < (p.sv.length : Int) by omega), if_pos (show (p.sv.length : Int) - 1 ≤ (p.sv.length : Int) by omega)]
          have hmem : rd_T31 p.sv ((p.sv.length : Int) - 1) ∈ p.sv := by
            unfold rd_T31
            rw [List.getD_eq_getElem?_getD, List.getElem?_eq_getElem (by omega)]
            exact List.getElem_mem _
          exact sfin p hok h2 { setSt p st with g := { rd_T31 p.sv ((p.sv.length : Int) - 1) with f0 := st }, sv := p.sv.take ((p.sv.length : Int) - 1).toNat } ⟨hX2.1, (hX2.2.2.2.1 _ hmem).2, by rw [List.length_take]; omega, fun y hy => hX2.2.2.2.1 y (List.mem_of_mem_take hy), hX2.2.2.2.2⟩
      · -- new
        simp (decide := true) only [e, if_false, if_true]
        refine Gd.up ?_
        rw [show (([110, 101, 119] : List UInt8) == [110, 101, 119]) = true from by decide]
        simp (decide := true) only [spec_ExecToken.j1, e, if_false, if_true]
        exact sfin p hok h2 { setSt p st with g := { (setSt p st).g with f2 := [] } } ⟨hX2.1, by simp, hX2.2.2⟩
      · -- shift
        have lx1 : (x.length : Int) = 2 := lx
        simp (decide := true) only [e, if_false, if_true]
        refine Gd.up ?_
        rw [show (([115, 104, 105, 102, 116] : List UInt8) == [99, 108, 105, 112]) = false from by decide]
        simp (decide := true) only [spec_ExecToken.j1, e, if_false, if_true, Bool.false_eq_true, spec_Identity.f, Option.bind_some, if_pos (show (0 : Int) < x.length by omega), if_pos (show (1 : Int) < x.length by omega)]
        obtain ⟨w, hw⟩ := sJoin_ev ⟨0, 1, rd x 0, rd x 1⟩ p.g.f1
        refine Gd.bind hw ?_
        exact sboth p hok h2 { setSt p st with g := { (setSt p st).g with f1 := ⟨w.1, w.2.1, w.2.2.1, w.2.2.2.1⟩ } } hX2 _
def GdI (F : Nat → Option (List Int × Int × Int × Int × Int × (List S80) × Int × Int × Int × Int × Int × (List S31) × (List S60) × Int)) : Prop := ∃ (z : Pg) (i : Int), Ev F (z.g.f0, z.g.f1.f0, z.g.f1.f1, z.g.f1.f2, z.g.f1.f3, z.g.f2, z.g.f3, z.g.f4.f0, z.g.f4.f1, z.g.f4.f2, z.g.f4.f3, z.sv, z.ob, i) ∧ okP z = true
def page0 : Pg := ⟨⟨[], ⟨0, 1, 0, 0⟩, [], 0, ⟨0, 0, 32, 32⟩⟩, [], []⟩
theorem page0_ok : okP page0 = true := by decide
theorem sRunPage_gd (l : List S40) (hl : l.length ≤ 55) (hd : ∀ z ∈ l, tkD z) : GdI (fun k => spec_RunPage.f k l) := by
  have main : ∀ (rest pre : List S40) (p : Pg), l = pre ++ rest → okP p = true → GdI (fun k => spec_RunPage.l0 k l (pre.length : Int) p.g.f0 p.g.f1.f0 p.g.f1.f1 p.g.f1.f2 p.g.f1.f3 p.g.f2 p.g.f3 p.g.f4.f0 p.g.f4.f1 p.g.f4.f2 p.g.f4.f3 p.sv p.ob) := by
    intro rest
    induction rest with
    | nil =>
      intro pre p e hp
      have e' : pre.length = l.length := by rw [e]; simp
      exact ⟨p, _, Ev.up (by simp only [spec_RunPage.l0, e', end_lt, if_false]; exact Ev.now _), hp⟩
    | cons t r ih =>
      intro pre p e hp
      have hlt : (pre.length : Int) < (l.length : Int) := by rw [e, mid_len]; omega
      have hw : wrap64 ((pre.length : Int) + 1) = ((pre ++ [t]).length : Int) := mid_wrap (pre := pre) (rest := r) (x := t) (by rw [← e, maxLen_eq]; omega)
      have hrd : rd_T40 l (pre.length : Int) = t := by rw [e]; simp [rd_T40, List.getD_eq_getElem?_getD]
      obtain ⟨⟨q, b⟩, hz, hq⟩ := sExec_gd p hp t (hd t (by rw [e]; simp))
      cases b with
      | true =>
        obtain ⟨z, i, h3, h4⟩ := ih (pre ++ [t]) q (by simp [e]) hq
        exact ⟨z, i, Ev.up (by simp only [spec_RunPage.l0, if_pos hlt, mid_nn, if_true, hrd, hw]; exact Ev.bind hz (by simp only [tupB, if_true]; exact h3)), h4⟩
      | false => exact ⟨p, _, Ev.up (by simp only [spec_RunPage.l0, if_pos hlt, mid_nn, if_true, hrd, hw]; exact Ev.bind hz (by simp only [tupB, Bool.false_eq_true, if_false]; exact Ev.now _)), hp⟩
  obtain ⟨z, i, h3, h4⟩ := main l [] page0 rfl page0_ok
  refine ⟨z, i, ?_, h4⟩
  simp only [spec_RunPage.f]
  refine Ev.bind (sFlatten_ev l hl hd) ?_
  simp only [if_true]
  exact h3
theorem drawPage_ok (b : List Int) (hb : (b.length : Int) ≤ 1048576) : ∃ p : Pg, Ev (fun k => spec_DrawPage.f k b) (tup p) ∧ okP p = true := by
  obtain ⟨h', e1⟩ := new_ok b hb
  obtain ⟨l, i', g', c1, cd, c4⟩ := tokensD_ok b hb 5 [] 0 0 h' (by omega) (by omega) (by simp) dZ (by omega) (by omega)
  obtain ⟨z, i, h3, h4⟩ := sRunPage_gd l c1 cd
  refine ⟨z, ?_, h4⟩
  simp only [spec_DrawPage.f, spec_l07Page.f, spec_l07Tokens.f]
  exact Ev.bind e1 (Ev.bind (a := (z.g.f0, z.g.f1.f0, z.g.f1.f1, z.g.f1.f2, z.g.f1.f3, z.g.f2, z.g.f3, z.g.f4.f0, z.g.f4.f1, z.g.f4.f2, z.g.f4.f3, z.sv, z.ob, i', g')) (Ev.bind c4 (Ev.bind h3 (Ev.now _))) (Ev.now _))
/-! impl, at the four tokens that the law runs -/
theorem iPageOkP_ev (p : Pg) (h : pgN 2000000 p) : Ev (fun k => impl_PageOk.f k p.g.f0 p.g.f1.f0 p.g.f1.f1 p.g.f1.f2 p.g.f1.f3 p.g.f2 p.g.f3 p.g.f4.f0 p.g.f4.f1 p.g.f4.f2 p.g.f4.f3 p.sv p.ob) (okP p) := by
  obtain ⟨h1, h2, h3, h4, h5, h6⟩ := h
  exact iPageOk_ev p.g.f0 p.g.f1.f0 p.g.f1.f1 p.g.f1.f2 p.g.f1.f3 p.g.f2 p.g.f3 p.g.f4.f0 p.g.f4.f1 p.g.f4.f2 p.g.f4.f3 p.sv p.ob (by rw [maxLen_eq]; omega) (by rw [maxLen_eq]; omega) (by rw [maxLen_eq]; omega) (fun x hx => by have := h4 x hx; rw [maxLen_eq]; omega) (by rw [maxLen_eq]; omega) (fun x hx => by have := h6 x hx; rw [maxLen_eq]; omega)
section
variable (p : Pg) (h : pgN 2000000 p)
include h
theorem ino (X : Pg) : Ev (fun k => impl_ExecToken.j1 k false p.g.f0 p.g.f1.f0 p.g.f1.f1 p.g.f1.f2 p.g.f1.f3 p.g.f2 p.g.f3 p.g.f4.f0 p.g.f4.f1 p.g.f4.f2 p.g.f4.f3 p.sv p.ob X.g.f0 X.g.f1.f0 X.g.f1.f1 X.g.f1.f2 X.g.f1.f3 X.g.f2 X.g.f3 X.g.f4.f0 X.g.f4.f1 X.g.f4.f2 X.g.f4.f3 X.sv X.ob) (tupB (p, false)) := by
  refine Ev.up ?_
  simp only [impl_ExecToken.j1, Bool.false_eq_true, if_false]
  exact Ev.bind (icopyPage_ev p h) (Ev.now _)
theorem ifin (X : Pg) (hX : pgN 2000000 X) : Ev (fun k => impl_ExecToken.j1 k true p.g.f0 p.g.f1.f0 p.g.f1.f1 p.g.f1.f2 p.g.f1.f3 p.g.f2 p.g.f3 p.g.f4.f0 p.g.f4.f1 p.g.f4.f2 p.g.f4.f3 p.sv p.ob X.g.f0 X.g.f1.f0 X.g.f1.f1 X.g.f1.f2 X.g.f1.f3 X.g.f2 X.g.f3 X.g.f4.f0 X.g.f4.f1 X.g.f4.f2 X.g.f4.f3 X.sv X.ob) (tupB (finV p (some X))) := by
  refine Ev.up ?_
  simp only [impl_ExecToken.j1, if_true]
  refine Ev.bind (iPageOkP_ev X hX) ?_
  have e : finV p (some X) = if okP X = true then (X, true) else (p, false) := rfl
  rw [e]
  cases okP X with
  | true => simp only [if_true]; exact Ev.now _
  | false => simp only [Bool.false_eq_true, if_false]; exact Ev.bind (icopyPage_ev p h) (Ev.now _)
end
theorem takenV_range2 (a : ByteArray) (h : a.toList = ([103, 114, 97, 121] : List UInt8) ∨ a.toList = ([115, 97, 118, 101] : List UInt8) ∨ a.toList = ([114, 101, 115, 116, 111, 114, 101] : List UInt8)) : (takenV a).2 = true ∧ isOp a = false ∧ (takenV a).1 = if a.toList = ([103, 114, 97, 121] : List UInt8) then 1 else 0 := by
  rcases h with e | e | e <;> (unfold takenV isOp; rw [e]; decide)
theorem iExecC_ev (p : Pg) (a : ByteArray) (n : Int) (h : pgN 1000000 p) (ha : a.toList = ([] : List UInt8) ∨ a.toList = ([103, 114, 97, 121] : List UInt8) ∨ a.toList = ([115, 97, 118, 101] : List UInt8) ∨ a.toList = ([114, 101, 115, 116, 111, 114, 101] : List UInt8)) :
    Ev (fun k => impl_ExecToken.f k p.g.f0 p.g.f1.f0 p.g.f1.f1 p.g.f1.f2 p.g.f1.f3 p.g.f2 p.g.f3 p.g.f4.f0 p.g.f4.f1 p.g.f4.f2 p.g.f4.f3 p.sv p.ob a n) (tupB (exec p a n)) := by
  have h2 := pgN_mono h (show 1000000 ≤ 2000000 by omega)
  have no : Ev (fun k => impl_ExecToken.j0 k true p.g.f0 p.g.f1.f0 p.g.f1.f1 p.g.f1.f2 p.g.f1.f3 p.g.f2 p.g.f3 p.g.f4.f0 p.g.f4.f1 p.g.f4.f2 p.g.f4.f3 p.sv p.ob a n) (tupB (p, false)) := by
    refine Ev.up ?_
    simp only [impl_ExecToken.j0, if_true]
    exact Ev.bind (icopyPage_ev p h2) (Ev.now _)
  simp only [impl_ExecToken.f]
  refine Ev.bind (iPageOkP_ev p h2) ?_
  unfold exec
  cases hok : okP p with
  | false => simp only [Bool.false_eq_true, if_false, false_and]; exact no
  | true =>
    simp only [if_true, true_and]
    refine Ev.bind (iTokenOk_ev a n) ?_
    cases htk : tokOk a n with
    | false => simp only [Bool.not_false, Bool.false_eq_true, if_false]; exact no
    | true =>
      simp only [Bool.not_true, if_true]
      obtain ⟨hs, htn⟩ := okP_small hok
      have hsN : pgN 100 p := pgN_mono hs (by omega)
      have hstL : p.g.f0.length ≤ 2000000 := by have := hs.1; omega
      refine Ev.up ?_
      simp only [impl_ExecToken.j0, Bool.false_eq_true, if_false]
      refine Ev.bind (icopyPage_ev p h2) (Ev.bind (iTaken_ev a) ?_)
      simp only [tup]
      rcases ha with e0 | ha
      · simp only [if_pos e0]
        refine Ev.bind (iPush_ev p.g.f0 n hstL) ?_
        have hst : stepV p a n = if (pushN p.g.f0 n).2 = true then some (setSt p (pushN p.g.f0 n).1) else none := by unfold stepV; rw [if_pos e0]
        rw [hst]
        have hln : (pushN p.g.f0 n).1.length ≤ 13 := by have := hs.1; unfold pushN; split <;> simp <;> omega
        generalize pushN p.g.f0 n = Z at hln ⊢
        obtain ⟨l, b⟩ := Z
        cases b with
        | true => simp only [if_true]; exact ifin p h2 (setSt p l) ⟨by simp only [setSt]; simp only at hln; omega, h2.2⟩
        | false => simp only [Bool.false_eq_true, if_false]; exact ino p h2 (setSt p l)
      · have e0 : ¬ a.toList = ([] : List UInt8) := fun z => by rw [z] at ha; revert ha; decide
        obtain ⟨htk2, ho, hcc⟩ := takenV_range2 a ha
        simp only [if_neg e0, iIsStackOp_eq, Option.bind_some, ho, htk2, Bool.false_eq_true, if_false, if_true]
        have htc : 0 ≤ (takenV a).1 ∧ (takenV a).1 ≤ 1 := by rw [hcc]; split <;> omega
        refine Ev.bind (iTake_ev p.g.f0 (takenV a).1 hstL htc.1 (by omega)) ?_
        obtain ⟨t1, _, t3⟩ := takeN_facts (l := p.g.f0) htc.1
        cases hhas : (takeN p.g.f0 (takenV a).1).2.2 with
        | false =>
          have hst : stepV p a n = none := by unfold stepV; rw [if_neg e0, ho, htk2, hhas]; simp
          simp only [Bool.false_eq_true, if_false, hst, finV]
          exact ino p h2 (setSt p (takeN p.g.f0 (takenV a).1).1)
        | true =>
          have hst : stepV p a n = paint (setSt p (takeN p.g.f0 (takenV a).1).1) a (takeN p.g.f0 (takenV a).1).2.1 := by unfold stepV; rw [if_neg e0, ho, htk2, hhas]; simp
          have hx := t3 hhas
          rw [hst]
          simp only [if_true]
          have hX : pgN 100 (setSt p (takeN p.g.f0 (takenV a).1).1) := ⟨by have := hs.1; simp only [setSt]; omega, hsN.2⟩
          rw [hcc] at hX hx ⊢
          generalize hc : (if a.toList = ([103, 114, 97, 121] : List UInt8) then (1 : Int) else 0) = c at *
          generalize (takeN p.g.f0 c).2.1 = x at *
          generalize (takeN p.g.f0 c).1 = st at *
          have hX2 := pgN_mono hX (show 100 ≤ 2000000 by omega)
          clear t3 t1
          obtain ⟨x1, x2, x3, x4, x5, x6⟩ := id hsN
          rcases ha with e | e | e
          · rw [if_pos e] at hc
            subst hc
            simp (decide := true) only [paint, setSt, e, if_false, if_true, if_pos (show (0 : Int) < x.length by omega)]
            exact ifin p h2 { setSt p st with g := { (setSt p st).g with f3 := rd x 0 } } hX2
          · simp (decide := true) only [paint, setSt, e, if_false, if_true]
            rw [icopyG_eq st _ _ _ _ p.g.f2 _ _ _ _ _ hX2.1 hX2.2.1]
            simp only [Option.bind_some, if_pos (show p.sv.length < 1172812402961 by omega)]
            refine ifin p h2 { setSt p st with sv := p.sv ++ [(setSt p st).g] } ⟨hX2.1, hX2.2.1, by simp; omega, fun y hy => ?_, hX2.2.2.2.2⟩
            rcases List.mem_append.1 hy with hy | hy
            · exact hX2.2.2.2.1 y hy
            · rw [List.mem_singleton.1 hy]; exact ⟨hX2.1, hX2.2.1⟩
          · simp (decide := true) only [paint, setSt, e, if_false, if_true]
            by_cases z : (p.sv.length : Int) = 0
            · simp only [if_pos z]; exact ino p h2 (setSt p st)
            · have hw : wrap64 ((p.sv.length : Int) - 1) = (p.sv.length : Int) - 1 := wrap_id (by omega) (by omega)
              simp only [if_neg z, hw, if_pos (show 0 ≤ (p.sv.length : Int) - 1 by omega), if_pos (show (p.sv.length : Int) - 1 < (p.sv.length : Int) by omega), if_pos (show (p.sv.length : Int) - 1 ≤ (p.sv.length : Int) by omega)]
              have hmem : rd_T31 p.sv ((p.sv.length : Int) - 1) ∈ p.sv := by
                unfold rd_T31
                rw [List.getD_eq_getElem?_getD, List.getElem?_eq_getElem (by omega)]
                exact List.getElem_mem _
              exact ifin p h2 { setSt p st with g := { rd_T31 p.sv ((p.sv.length : Int) - 1) with f0 := st }, sv := p.sv.take ((p.sv.length : Int) - 1).toNat } ⟨hX2.1, (hX2.2.2.2.1 _ hmem).2, by rw [List.length_take]; omega, fun y hy => hX2.2.2.2.1 y (List.mem_of_mem_take hy), hX2.2.2.2.2⟩
/-! the four tokens by value -/
def nS : ByteArray := ⟨#[115, 97, 118, 101]⟩
def nE : ByteArray := ⟨#[]⟩
def nGr : ByteArray := ⟨#[103, 114, 97, 121]⟩
def nR : ByteArray := ⟨#[114, 101, 115, 116, 111, 114, 101]⟩
theorem nS_l : nS.toList = ([115, 97, 118, 101] : List UInt8) := by rw [ba_toList]; rfl
theorem nE_l : nE.toList = ([] : List UInt8) := by rw [ba_toList]; rfl
theorem nGr_l : nGr.toList = ([103, 114, 97, 121] : List UInt8) := by rw [ba_toList]; rfl
theorem nR_l : nR.toList = ([114, 101, 115, 116, 111, 114, 101] : List UInt8) := by rw [ba_toList]; rfl
theorem okP_iff {p : Pg} : okP p = true ↔ grO p.g = true ∧ (p.sv.length : Int) ≤ 4 ∧ (p.ob.length : Int) ≤ 12 ∧ (p.sv.all grO) = true ∧ objsOk p.ob = true := by
  unfold okP pgOk grO
  simp only [Bool.and_eq_true, decide_eq_true_eq]
theorem okP_stk {p : Pg} (h : okP p = true) : stkOk p.g.f0 = true := by
  have h1 := (okP_iff.1 h).1
  unfold grO grOk at h1
  simp only [Bool.and_eq_true] at h1
  exact h1.1
theorem take0 {l : List Int} (h : stkOk l = true) : takeN l 0 = (l, [], true) := by
  unfold takeN
  have e : inB 0 0 (l.length : Int) = true := inB_iff.2 ⟨by omega, by omega⟩
  rw [if_pos ⟨h, e⟩]
  have e2 : ((l.length : Int) - 0).toNat = l.length := by omega
  rw [e2, List.take_length, List.drop_length]
theorem take1 {l : List Int} {n : Int} (h : stkOk (l ++ [n]) = true) : takeN (l ++ [n]) 1 = (l, [n], true) := by
  unfold takeN
  have e : inB 1 0 ((l ++ [n]).length : Int) = true := inB_iff.2 ⟨by omega, by simp; omega⟩
  rw [if_pos ⟨h, e⟩]
  have e2 : (((l ++ [n]).length : Int) - 1).toNat = l.length := by simp
  rw [e2, List.take_left, List.drop_left]
theorem tk_eq {a : ByteArray} (h : ¬ a.toList = ([] : List UInt8)) (h2 : nameOk a = true) : tokOk a 0 = true := by
  unfold tokOk
  rw [if_neg h, h2]; rfl
theorem exec_S {p : Pg} (hp : okP p = true) : exec p nS 0 = if (p.sv.length : Int) < 4 then ({ p with sv := p.sv ++ [p.g] }, true) else (p, false) := by
  have hs := okP_stk hp
  have ht : tokOk nS 0 = true := tk_eq (by rw [nS_l]; decide) (by decide)
  have ho := takenV_range2 nS (.inr (.inl nS_l))
  have hc : (takenV nS).1 = 0 := by rw [ho.2.2, nS_l]; decide
  have hst : stepV p nS 0 = some { p with sv := p.sv ++ [p.g] } := by
    unfold stepV
    rw [if_neg (by rw [nS_l]; decide), ho.2.1, ho.1, hc, take0 hs]
    simp only [Bool.false_eq_true, if_false, if_true]
    unfold paint
    simp (decide := true) only [nS_l, if_false, if_true, setSt]
  unfold exec
  rw [if_pos ⟨hp, ht⟩, hst]
  obtain ⟨h1, h2, h3, h4, h5⟩ := okP_iff.1 hp
  unfold finV
  simp only
  by_cases c : (p.sv.length : Int) < 4
  · rw [if_pos c, if_pos]
    exact okP_iff.2 ⟨h1, by simp; omega, h3, by rw [List.all_append, h4]; simp [h1], h5⟩
  · rw [if_neg c, if_neg]
    intro z
    have := (okP_iff.1 z).2.1
    simp at this; omega
theorem exec_E {p : Pg} (hp : okP p = true) (h : (exec p nE 77).2 = true) : (exec p nE 77).1 = setSt p (p.g.f0 ++ [77]) ∧ stkOk (p.g.f0 ++ [77]) = true := by
  have ht : tokOk nE 77 = true := by unfold tokOk; rw [if_pos nE_l]; decide
  unfold exec at h ⊢
  rw [if_pos ⟨hp, ht⟩] at h ⊢
  unfold stepV at h ⊢
  rw [if_pos nE_l] at h ⊢
  unfold pushN at h ⊢
  by_cases c : stkOk p.g.f0 = true ∧ stkOk (p.g.f0 ++ [77]) = true
  · rw [if_pos c] at h ⊢
    simp only [if_true] at h ⊢
    unfold finV at h ⊢
    simp only at h ⊢
    by_cases d : okP (setSt p (p.g.f0 ++ [77])) = true
    · rw [if_pos d]; exact ⟨rfl, c.2⟩
    · rw [if_neg d] at h; simp at h
  · rw [if_neg c] at h
    simp [finV] at h
theorem exec_G {p : Pg} {l : List Int} (hl : p.g.f0 = l ++ [77]) (h : (exec p nGr 0).2 = true) : (exec p nGr 0).1 = { p with g := { p.g with f0 := l, f3 := 77 } } := by
  have ht : tokOk nGr 0 = true := tk_eq (by rw [nGr_l]; decide) (by decide)
  have ho := takenV_range2 nGr (.inl nGr_l)
  have hc : (takenV nGr).1 = 1 := by rw [ho.2.2, nGr_l]; decide
  unfold exec at h ⊢
  by_cases hp : okP p = true
  · have hs := okP_stk hp
    have hst : stepV p nGr 0 = some { p with g := { p.g with f0 := l, f3 := 77 } } := by
      unfold stepV
      rw [if_neg (by rw [nGr_l]; decide), ho.2.1, ho.1, hc]
      rw [hl] at hs ⊢
      rw [take1 hs]
      simp only [Bool.false_eq_true, if_false, if_true]
      unfold paint
      simp (decide := true) only [nGr_l, if_false, if_true, setSt]
      rfl
    rw [if_pos ⟨hp, ht⟩, hst] at h ⊢
    unfold finV at h ⊢
    simp only at h ⊢
    by_cases d : okP { p with g := { p.g with f0 := l, f3 := 77 } } = true
    · rw [if_pos d]
    · rw [if_neg d] at h; simp at h
  · rw [if_neg (fun z => hp z.1)] at h; simp at h
theorem exec_R {p q : Pg} (hp : okP p = true) (hq : okP q = true) (hf : q.g.f0 = p.g.f0) (hsv : q.sv = p.sv ++ [p.g]) (hob : q.ob = p.ob) : exec q nR 0 = (p, true) := by
  have ht : tokOk nR 0 = true := tk_eq (by rw [nR_l]; decide) (by decide)
  have ho := takenV_range2 nR (.inr (.inr nR_l))
  have hc : (takenV nR).1 = 0 := by rw [ho.2.2, nR_l]; decide
  have hst : stepV q nR 0 = some p := by
    unfold stepV
    rw [if_neg (by rw [nR_l]; decide), ho.2.1, ho.1, hc, take0 (okP_stk hq)]
    simp only [Bool.false_eq_true, if_false, if_true]
    unfold paint
    have hz : ¬ ((p.sv ++ [p.g]).length : Int) = 0 := by simp; omega
    have h1 : (((p.sv ++ [p.g]).length : Int) - 1).toNat = p.sv.length := by simp
    have h2 : rd_T31 (p.sv ++ [p.g]) (((p.sv ++ [p.g]).length : Int) - 1) = p.g := by
      unfold rd_T31
      rw [h1]; simp
    simp (decide := true) only [nR_l, if_false, if_true, setSt, hsv, if_neg hz, h1, h2, List.take_left, hf, hob]
  unfold exec
  rw [if_pos ⟨hq, ht⟩, hst]
  unfold finV
  simp only [hp, if_true]
theorem FnPages (l : List Int) (h : l.length ≤ maxLen ∧ ∀ y ∈ l, ((Lit.int .u8 y).wf = true)) : ∃ k, laws_FnPages.f k l = some true := by
  refine Ev.rounds ?_
  simp only [laws_FnPages.f, laws_big.f, Option.bind_some]
  by_cases hb : (l.length : Int) > 1048576
  · simp only [decide_eq_true hb, if_true]; exact Ev.now _
  simp only [decide_eq_false hb, Bool.false_eq_true, if_false]
  obtain ⟨p, e1, hp⟩ := drawPage_ok l (by omega)
  have N1 {z : Pg} (hz : okP z = true) : pgN 1000000 z := pgN_mono (okP_small hz).1 (by omega)
  have N2 {z : Pg} (hz : okP z = true) : pgN 2000000 z := pgN_mono (okP_small hz).1 (by omega)
  have keep {z : Pg} (hz : okP z = true) (a : ByteArray) (n : Int) : okP (exec z a n).1 = true := by
    cases hx : (exec z a n).2 with
    | true => exact exec_ok hx
    | false =>
      have : (exec z a n).1 = z := by
        unfold exec at hx ⊢
        split
        · rename_i c; rw [if_pos c] at hx
          unfold finV at hx ⊢
          split
          · split
            · rename_i q hq d; simp [hq, d] at hx
            · rfl
          · rfl
        · rfl
      rw [this]; exact hz
  have hq := keep hp nS 0
  have hr := keep hq nE 77
  have ht := keep hr nGr 0
  have hu := keep ht nR 0
  refine Ev.bind e1 ?_
  simp only [tup]
  refine Ev.bind (iExecC_ev p nS 0 (N1 hp) (.inr (.inr (.inl nS_l)))) ?_
  refine Ev.bind (iExecC_ev (exec p nS 0).1 nE 77 (N1 hq) (.inl nE_l)) ?_
  refine Ev.bind (iExecC_ev (exec (exec p nS 0).1 nE 77).1 nGr 0 (N1 hr) (.inr (.inl nGr_l))) ?_
  refine Ev.bind (iExecC_ev (exec (exec (exec p nS 0).1 nE 77).1 nGr 0).1 nR 0 (N1 ht) (.inr (.inr (.inr nR_l)))) ?_
  refine Ev.bind (iPageOkP_ev p (N2 hp)) ?_
  simp only [hp, if_true]
  refine Ev.bind (iPageOkP_ev (exec p nS 0).1 (N2 hq)) ?_
  simp only [hq, if_true, tupB]
  refine Ev.up ?_
  have hS := exec_S hp
  have hg3 : ((exec p nS 0).2 != decide ((p.sv.length : Int) < 4)) = false := by
    rw [hS]; split
    · rename_i c; simp [c]
    · rename_i c; simp [c]
  simp only [laws_FnPages.j0, hg3, Bool.false_eq_true, if_false]
  have yes (b : Bool) (A1 : List Int) (A2 A3 A4 A5 : Int) (A6 : List S80) (A7 A8 A9 A10 A11 : Int) (A12 : List S31) (A13 : List S60) (B1 : List Int) (B2 B3 B4 B5 : Int) (B6 : List S80) (B7 B8 B9 B10 B11 : Int) (B12 : List S31) (B13 : List S60) (C1 : List Int) (C2 C3 C4 C5 : Int) (C6 : List S80) (C7 C8 C9 C10 C11 : Int) (C12 : List S31) (C13 : List S60) : Ev (fun k => laws_FnPages.j1 k b true A1 A2 A3 A4 A5 A6 A7 A8 A9 A10 A11 A12 A13 B1 B2 B3 B4 B5 B6 B7 B8 B9 B10 B11 B12 B13 C1 C2 C3 C4 C5 C6 C7 C8 C9 C10 C11 C12 C13) true := by
    refine Ev.up ?_
    simp only [laws_FnPages.j1, if_true]; exact Ev.now _
  cases k1 : (exec p nS 0).2 with
  | false => simp only [Bool.false_eq_true, if_false]; exact yes _ _ _ _ _ _ _ _ _ _ _ _ _ _ _ _ _ _ _ _ _ _ _ _ _ _ _ _ _ _ _ _ _ _ _ _ _ _ _ _
  | true =>
    simp only [if_true]
    cases k2 : (exec (exec p nS 0).1 nE 77).2 with
    | false => simp only [Bool.false_eq_true, if_false]; exact yes _ _ _ _ _ _ _ _ _ _ _ _ _ _ _ _ _ _ _ _ _ _ _ _ _ _ _ _ _ _ _ _ _ _ _ _ _ _ _ _
    | true =>
      simp only [if_true]
      cases k3 : (exec (exec (exec p nS 0).1 nE 77).1 nGr 0).2 with
      | false => simp only [Bool.not_false]; exact yes _ _ _ _ _ _ _ _ _ _ _ _ _ _ _ _ _ _ _ _ _ _ _ _ _ _ _ _ _ _ _ _ _ _ _ _ _ _ _ _
      | true =>
        simp only [Bool.not_true]
        have c4 : (p.sv.length : Int) < 4 := by
          by_cases c : (p.sv.length : Int) < 4
          · exact c
          · rw [hS, if_neg c] at k1; simp at k1
        rw [if_pos c4] at hS
        have q1 : (exec p nS 0).1 = { p with sv := p.sv ++ [p.g] } := by rw [hS]
        generalize (exec p nS 0).1 = q at *
        have r1 := exec_E hq k2
        generalize (exec q nE 77).1 = r at *
        have t1 := exec_G (p := r) (l := q.g.f0) (by rw [r1.1]) k3
        generalize (exec r nGr 0).1 = t at *
        have u1 := exec_R hp ht (by rw [t1, q1]) (by rw [t1, r1.1, q1]) (by rw [t1, r1.1, q1])
        have tg : t.g.f3 = 77 := by rw [t1]
        rw [u1]
        refine Ev.up ?_
        simp only [laws_FnPages.j1, Bool.false_eq_true, if_false, if_true, if_pos tg, beq_self_eq_true, Bool.and_self]
        rw [show impl_NewPage.f = some (tup page0) from rfl]
        simp only [Option.bind_some, tup]
        refine Ev.bind (iPageOkP_ev page0 (N2 page0_ok)) ?_
        simp only [page0_ok, if_true]
        have hN := N2 hp
        refine Ev.bind (iGraphicsOk_ev p.g.f0 p.g.f1.f0 p.g.f1.f1 p.g.f1.f2 p.g.f1.f3 p.g.f2 p.g.f3 p.g.f4.f0 p.g.f4.f1 p.g.f4.f2 p.g.f4.f3 (by have := hN.1; rw [maxLen_eq]; omega) (by have := hN.2.1; rw [maxLen_eq]; omega)) ?_
        exact Ev.val (okP_iff.1 hp).1
end Go.Proofs.Ytjodcfjaedhpeaa.Pure
