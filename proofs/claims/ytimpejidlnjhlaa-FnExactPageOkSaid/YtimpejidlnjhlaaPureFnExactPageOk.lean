/- The plain law of FnExactPageOk: over numbers and lists, what the printed functions answer, and that the law answers true. -/
import Derived.Test.YtimpejidlnjhlaaQFnExactPageOkx9
import Derived.Test.YtimpejidlnjhlaaPlain
set_option linter.unusedSimpArgs false
set_option linter.unusedVariables false
namespace Go.Proofs.Ytimpejidlnjhlaa.Pure
open Go.RowKit Go.Proofs.Ytimpejidlnjhlaa.QFnExactPageOk Go.Proofs.YtimpejidlnjhlaaW.PrintWords Go.Proofs.YtimpejidlnjhlaaW.PrintLast Go.Proofs.Ytimpejidlnjhlaa.Plain

theorem szIntS_eq (l : List Int) (a : Int) (h : l.length ≤ maxLen) (h0 : 0 ≤ a) (h1 : a ≤ 1048576) : laws_szIntS.f l a = some (szN l.length a) := by
  rw [maxLen_eq] at h
  unfold laws_szIntS.f szN
  rw [wrap_id (by omega) (by omega)]
  split <;> rfl
theorem szPointS_eq (l : List S180) (a : Int) (h : l.length ≤ maxLen) (h0 : 0 ≤ a) (h1 : a ≤ 1048576) : laws_szPointS.f l a = some (szN l.length a) := by
  rw [maxLen_eq] at h
  unfold laws_szPointS.f szN
  rw [wrap_id (by omega) (by omega)]
  split <;> rfl
theorem szObject_eq (l : List S180) (b c d e f : Int) (a : Int) (h : l.length ≤ maxLen) (h0 : 0 ≤ a) (h1 : a ≤ 1048576) : laws_szObject.f l b c d e f a = some (szN l.length a) := by
  unfold laws_szObject.f
  rw [szPointS_eq l a h h0 h1]
  rcases szN_tells l.length a h0 with hn | ⟨h2, h3, h4⟩
  · rw [hn]; rfl
  · have c2 : ¬ szN l.length a < 0 := by omega
    simp [c2]

theorem toIntS_ev (l : List Int) (h : (l.length : Int) ≤ 1048576) : Ev (fun k => laws_toIntS.f k l) l := by
  have hm : l.length ≤ maxLen := by rw [maxLen_eq]; omega
  simp only [laws_toIntS.f]
  refine Ev.ite (fun _ => Ev.ite (fun _ => ?_) (fun c => absurd (by omega) c)) (fun c => absurd (by omega) c)
  have := ev_fill l id (F := fun k s i => laws_toIntS.l0 k l s i) (fun s => by
    simp only [laws_toIntS.l0, end_lt, if_false]
    exact Ev.now _) (fun pre x rest s r e hs h => by
    subst e
    simp only [laws_toIntS.l0, hs, mid_lt, mid_nn, mid_wrap hm, if_true, rd, Int.toNat_natCast, mid_get]
    exact h) (List.replicate ((l.length : Int) : Int).toNat 0) (by simp)
  simpa using this
def tPoint (r : S180) : S166 := ⟨r.f0, r.f1⟩
theorem toPointS_ev (l : List S180) (h : (l.length : Int) ≤ 1048576) : Ev (fun k => laws_toPointS.f k l) (l.map tPoint) := by
  have hm : l.length ≤ maxLen := by rw [maxLen_eq]; omega
  simp only [laws_toPointS.f]
  refine Ev.ite (fun _ => Ev.ite (fun _ => ?_) (fun c => absurd (by omega) c)) (fun c => absurd (by omega) c)
  exact ev_fill l tPoint (F := fun k s i => laws_toPointS.l0 k l s i) (fun s => by
    simp only [laws_toPointS.l0, end_lt, if_false]
    exact Ev.now _) (fun pre x rest s r e hs h => by
    subst e
    simp only [laws_toPointS.l0, hs, mid_lt, mid_nn, mid_wrap hm, if_true, rd_T180, Int.toNat_natCast, mid_get, laws_toPoint.f, Option.bind_some]
    exact h) _ (by simp)
theorem eqIntS_ev (l : List Int) (hm : l.length ≤ maxLen) : Ev (fun k => laws_eqIntS.f k l l) true := by
  simp only [laws_eqIntS.f, if_true]
  refine ev_loop0 l (F := fun k i => laws_eqIntS.l0 k l l i) (fun _ _ => true) ?_ (fun pre x rest e h => ?_)
  · simp only [laws_eqIntS.l0, end_lt, if_false]; exact Ev.now _
  · subst e
    simp only [laws_eqIntS.l0, mid_lt, mid_nn, mid_wrap hm, if_true]
    exact h
theorem eqPointS_ev (l : List S166) (hm : l.length ≤ maxLen) : Ev (fun k => laws_eqPointS.f k l l) true := by
  simp only [laws_eqPointS.f, if_true]
  refine ev_loop0 l (F := fun k i => laws_eqPointS.l0 k l l i) (fun _ _ => true) ?_ (fun pre x rest e h => ?_)
  · simp only [laws_eqPointS.l0, end_lt, if_false]; exact Ev.now _
  · subst e
    simp only [laws_eqPointS.l0, mid_lt, mid_nn, mid_wrap hm, if_true, laws_eqPoint.f, Option.bind_some]
    exact h
theorem eqObject_ev (l : List S166) (b c d e f : Int) (hm : l.length ≤ maxLen) : Ev (fun k => laws_eqObject.f k l b c d e f l b c d e f) true := by
  simp only [laws_eqObject.f, laws_eqBox.f, if_true, Option.bind_some]
  exact Ev.bind (eqPointS_ev l hm) (Ev.now _)

end Go.Proofs.Ytimpejidlnjhlaa.Pure
namespace Go.Proofs.Ytimpejidlnjhlaa.Pure
open Go.RowKit Go.Proofs.Ytimpejidlnjhlaa.QFnExactPageOk Go.Proofs.YtimpejidlnjhlaaW.PrintWords Go.Proofs.YtimpejidlnjhlaaW.PrintLast Go.Proofs.Ytimpejidlnjhlaa.Plain

def szOS (l : List S91) (a : Int) : Int := if szN l.length a < 0 then -1 else szL (fun x a => szN x.f0.length a) l (szN l.length a)
theorem szOS_tells (l : List S91) (a : Int) (h0 : 0 ≤ a) (h1 : a ≤ 1048576) : szOS l a = -1 ∨ (0 ≤ szOS l a ∧ szOS l a ≤ a ∧ (l.length : Int) ≤ a ∧ ∀ x ∈ l, (x.f0.length : Int) ≤ 1048576) := by
  unfold szOS
  rcases szN_tells l.length a h0 with h | ⟨h2, h3, h4⟩
  · rw [h]; exact .inl rfl
  · rw [if_neg (by omega)]
    rcases szL_tells (f := fun (x : S91) a => szN x.f0.length a) (P := fun x => (x.f0.length : Int) ≤ 1048576) (fun x a h0 h1 => by rcases szN_tells x.f0.length a h0 with h | ⟨h5, h6, h7⟩; exact .inl h; exact .inr ⟨h5, h6, by omega⟩) l _ h2 (by omega) with h | ⟨h5, h6, h7⟩
    · exact .inl h
    · exact .inr ⟨h5, by omega, h4, h7⟩
theorem szObjectS_ev (l : List S91) (a : Int) (h : l.length ≤ maxLen) (hx : ∀ x ∈ l, x.f0.length ≤ maxLen) (h0 : 0 ≤ a) (h1 : a ≤ 1048576) : Ev (fun k => laws_szObjectS.f k l a) (szOS l a) := by
  have h' := h
  rw [maxLen_eq] at h'
  simp only [laws_szObjectS.f]
  rw [wrap_id (by omega) (by omega)]
  have hn : szN l.length a = if a - (l.length : Int) < 0 then -1 else a - (l.length : Int) := rfl
  unfold szOS
  rw [hn]
  by_cases c : a - (l.length : Int) < 0
  · simp only [if_pos c]; exact Ev.val rfl
  · simp only [if_neg c]
    refine ev_loop l (F := fun k s i => laws_szObjectS.l0 k l s i) (fun _ _ s => 0 ≤ s ∧ s ≤ 1048576) (fun _ r s => szL (fun x a => szN x.f0.length a) r s) ?_ ?_ (a - (l.length : Int)) ⟨by omega, by omega⟩
    · intro s _
      simp only [laws_szObjectS.l0, end_lt, if_false, szL]
      exact Ev.now _
    · rintro pre x rest s e ⟨hs0, hs1⟩ ih
      have hxx := hx x (by rw [e]; simp)
      subst e
      simp only [laws_szObjectS.l0, mid_lt, mid_nn, mid_wrap h, if_true, rd_T91, Int.toNat_natCast, mid_get, szObject_eq x.f0 _ _ _ _ _ s hxx hs0 hs1, Option.bind_some, szL]
      rcases szN_tells x.f0.length s hs0 with hn | ⟨h2, h3, h4⟩
      · rw [hn]; exact Ev.now _
      · have c2 : ¬ szN x.f0.length s < 0 := by omega
        simp only [if_neg c2]
        exact ih _ ⟨h2, by omega⟩
theorem toObject_ev (l : List S180) (g a b c d : Int) (hl : (l.length : Int) ≤ 1048576) : Ev (fun k => laws_toObject.f k l g a b c d) (l.map tPoint, g, a, b, c, d) := by
  simp only [laws_toObject.f, laws_toBox.f, Option.bind_some]
  exact Ev.bind (toPointS_ev l hl) (Ev.now _)
def tBox (b : S89) : S39 := ⟨b.f0, b.f1, b.f2, b.f3⟩
def tObj (o : S91) : S41 := ⟨o.f0.map tPoint, o.f1, tBox o.f2⟩
theorem toObjectS_ev (l : List S91) (h : (l.length : Int) ≤ 1048576) (hx : ∀ x ∈ l, (x.f0.length : Int) ≤ 1048576) : Ev (fun k => laws_toObjectS.f k l) (l.map tObj) := by
  have hm : l.length ≤ maxLen := by rw [maxLen_eq]; omega
  simp only [laws_toObjectS.f]
  refine Ev.ite (fun _ => Ev.ite (fun _ => ?_) (fun c => absurd (by omega) c)) (fun c => absurd (by omega) c)
  exact ev_fill l tObj (F := fun k s i => laws_toObjectS.l0 k l s i) (fun s => by
    simp only [laws_toObjectS.l0, end_lt, if_false]
    exact Ev.now _) (fun pre x rest s r e hs h => by
    have hxx := hx x (by rw [e]; simp)
    subst e
    simp only [laws_toObjectS.l0, hs, mid_lt, mid_nn, mid_wrap hm, if_true, rd_T91, Int.toNat_natCast, mid_get]
    exact Ev.bind (toObject_ev x.f0 _ _ _ _ _ hxx) h) _ (by simp)
theorem map_tObj_len {l : List S91} (hx : ∀ x ∈ l, (x.f0.length : Int) ≤ 1048576) : ∀ x ∈ l.map tObj, x.f0.length ≤ maxLen := by
  intro x hx'
  obtain ⟨y, hy, rfl⟩ := List.mem_map.1 hx'
  have := hx y hy
  simp only [tObj, List.length_map, maxLen_eq]
  omega
theorem eqObjectS_ev (l : List S41) (hm : l.length ≤ maxLen) (hx : ∀ x ∈ l, x.f0.length ≤ maxLen) : Ev (fun k => laws_eqObjectS.f k l l) true := by
  simp only [laws_eqObjectS.f, if_true]
  refine ev_loop0 l (F := fun k i => laws_eqObjectS.l0 k l l i) (fun _ _ => true) ?_ (fun pre x rest e h => ?_)
  · simp only [laws_eqObjectS.l0, end_lt, if_false]; exact Ev.now _
  · have hxx := hx x (by rw [e]; simp)
    subst e
    simp only [laws_eqObjectS.l0, mid_lt, mid_nn, mid_wrap hm, if_true, rd_T41, Int.toNat_natCast, mid_get]
    exact Ev.bind (eqObject_ev x.f0 _ _ _ _ _ hxx) h
end Go.Proofs.Ytimpejidlnjhlaa.Pure
namespace Go.Proofs.Ytimpejidlnjhlaa.Pure
open Go.RowKit Go.Proofs.Ytimpejidlnjhlaa.QFnExactPageOk Go.Proofs.YtimpejidlnjhlaaW.PrintWords Go.Proofs.YtimpejidlnjhlaaW.PrintLast Go.Proofs.Ytimpejidlnjhlaa.Plain

theorem within_eq (a b c : Int) : impl_within.f a b c = some (inB a b c) := by unfold impl_within.f inB; by_cases h : b ≤ a <;> simp [h]
theorem l01In_eq (a b c : Int) : spec_l01In.f a b c = some (inB a b c) := by unfold spec_l01In.f inB; by_cases h : b ≤ a <;> simp [h]
def coord (a : Int) : Bool := inB a (-200) 200
def boxOk (a b c d : Int) : Bool := coord a && (coord b && (coord c && (coord d && (decide (a ≤ c) && decide (b ≤ d)))))
theorem coordOk_eq (a : Int) : impl_coordOk.f a = some (coord a) := by unfold impl_coordOk.f; rw [within_eq]; rfl
theorem l02In_eq (a : Int) : spec_l02In.f a = some (coord a) := by unfold spec_l02In.f; rw [l01In_eq]; rfl
theorem iPointOk_eq (a b : Int) : impl_PointOk.f a b = some (coord a && coord b) := by unfold impl_PointOk.f; simp only [coordOk_eq, Option.bind_some, and_some]
theorem sPointOk_eq (a b : Int) : spec_PointOk.f a b = some (coord a && coord b) := by unfold spec_PointOk.f; simp only [l02In_eq, Option.bind_some, and_some]
theorem iBoxOk_eq (a b c d : Int) : impl_BoxOk.f a b c d = some (boxOk a b c d) := by unfold impl_BoxOk.f boxOk; simp only [coordOk_eq, Option.bind_some, and_some_p (a ≤ c), and_some]
theorem sBoxOk_eq (a b c d : Int) : spec_BoxOk.f a b c d = some (boxOk a b c d) := by unfold spec_BoxOk.f boxOk; simp only [l02In_eq, Option.bind_some, and_some_p (a ≤ c), and_some]
def ptsOk (l : List S166) : Bool := l.all fun p => coord p.f0 && coord p.f1
theorem pointsOk_ev (l : List S166) (hm : l.length ≤ maxLen) : Ev (fun k => impl_pointsOk.f k l) (ptsOk l) := by
  simp only [impl_pointsOk.f]
  refine ev_loop0 l (F := fun k i => impl_pointsOk.l0 k l l.length i) (fun _ r => ptsOk r) ?_ (fun pre x rest e h => ?_)
  · simp only [impl_pointsOk.l0, end_lt, if_false]; exact Ev.now _
  · subst e
    simp only [impl_pointsOk.l0, mid_lt, mid_nn, mid_wrap hm, if_true, rd_T166, Int.toNat_natCast, mid_get, iPointOk_eq, Option.bind_some]
    exact Ev.andB (fun _ => h)
theorem l07Points_ev (l : List S166) (hm : l.length ≤ maxLen) : Ev (fun k => spec_l07Points.f k l) (ptsOk l && decide ((l.length : Int) ≤ 8)) := by
  simp only [spec_l07Points.f]
  refine ev_loop0 l (F := fun k i => spec_l07Points.l0 k l i) (fun _ r => ptsOk r && decide ((l.length : Int) ≤ 8)) ?_ (fun pre x rest e h => ?_)
  · simp only [spec_l07Points.l0, end_lt, if_false]; exact Ev.now _
  · have : ptsOk (x :: rest) = ((coord x.f0 && coord x.f1) && ptsOk rest) := rfl
    rw [this, Bool.and_assoc]
    subst e
    simp only [spec_l07Points.l0, mid_lt, mid_nn, mid_wrap hm, if_true, rd_T166, Int.toNat_natCast, mid_get, sPointOk_eq, Option.bind_some]
    exact Ev.andB (fun _ => h)
def objOk (l : List S166) (g a b c d : Int) : Bool := decide (3 ≤ (l.length : Int)) && (decide ((l.length : Int) ≤ 8) && (ptsOk l && (inB g 0 255 && boxOk a b c d)))
theorem iObjectOk_ev (l : List S166) (g a b c d : Int) (hm : l.length ≤ maxLen) : Ev (fun k => impl_ObjectOk.f k l g a b c d) (objOk l g a b c d) := by
  simp only [impl_ObjectOk.f, within_eq, iBoxOk_eq, Option.bind_some, and_some]
  unfold objOk
  rw [← Bool.and_assoc]
  exact Ev.andB (fun _ => Ev.bind (pointsOk_ev l hm) (Ev.now _))
theorem l07Object_ev (l : List S166) (g a b c d : Int) (hm : l.length ≤ maxLen) : Ev (fun k => spec_l07Object.f k l g a b c d) (objOk l g a b c d) := by
  simp only [spec_l07Object.f, l01In_eq, sBoxOk_eq, Option.bind_some, and_some]
  unfold objOk
  refine Ev.andP (fun _ => ?_)
  have : (decide ((l.length : Int) ≤ 8) && (ptsOk l && (inB g 0 255 && boxOk a b c d))) = ((ptsOk l && decide ((l.length : Int) ≤ 8)) && (inB g 0 255 && boxOk a b c d)) := by
    cases decide ((l.length : Int) ≤ 8) <;> cases ptsOk l <;> rfl
  rw [this]
  exact Ev.bind (l07Points_ev l hm) (Ev.now _)
def rowOk (l : List Int) : Bool := decide ((l.length : Int) = 32) && l.all fun v => inB v 0 255
def rowsOk (l : List (List Int)) : Bool := decide ((l.length : Int) ≤ 32) && l.all rowOk
end Go.Proofs.Ytimpejidlnjhlaa.Pure
namespace Go.Proofs.Ytimpejidlnjhlaa.Pure
open Go.RowKit Go.Proofs.Ytimpejidlnjhlaa.QFnExactPageOk Go.Proofs.YtimpejidlnjhlaaW.PrintWords Go.Proofs.YtimpejidlnjhlaaW.PrintLast Go.Proofs.Ytimpejidlnjhlaa.Plain

def objsOk (l : List S41) : Bool := l.all fun o => objOk o.f0 o.f1 o.f2.f0 o.f2.f1 o.f2.f2 o.f2.f3
end Go.Proofs.Ytimpejidlnjhlaa.Pure
namespace Go.Proofs.Ytimpejidlnjhlaa.Pure
open Go.RowKit Go.Proofs.Ytimpejidlnjhlaa.QFnExactPageOk Go.Proofs.YtimpejidlnjhlaaW.PrintWords Go.Proofs.YtimpejidlnjhlaaW.PrintLast Go.Proofs.Ytimpejidlnjhlaa.Plain

def szG (n m : Nat) (a : Int) : Int := if szN n a < 0 then -1 else szN m (szN n a)
theorem szG_tells (n m : Nat) (a : Int) (h0 : 0 ≤ a) : szG n m a = -1 ∨ (0 ≤ szG n m a ∧ szG n m a ≤ a ∧ (n : Int) ≤ a ∧ (m : Int) ≤ a) := by
  unfold szG
  rcases szN_tells n a h0 with h | ⟨h1, h2, h3⟩
  · rw [h]; exact .inl rfl
  · rw [if_neg (by omega)]
    rcases szN_tells m (szN n a) h1 with h | ⟨h4, h5, h6⟩
    · exact .inl h
    · exact .inr ⟨h4, by omega, h3, by omega⟩
theorem szGraphics_eq (st : List Int) (p q r s : Int) (l : List S180) (g t u v x a : Int) (hs : st.length ≤ maxLen) (hl : l.length ≤ maxLen) (h0 : 0 ≤ a) (h1 : a ≤ 1048576) : laws_szGraphics.f st p q r s l g t u v x a = some (szG st.length l.length a) := by
  unfold laws_szGraphics.f szG
  rw [szIntS_eq st a hs h0 h1]
  simp only [Option.bind_some]
  rcases szN_tells st.length a h0 with h | ⟨h2, h3, h4⟩
  · rw [h]; rfl
  · rw [if_neg (show ¬ szN st.length a < 0 by omega), if_neg (show ¬ szN st.length a < 0 by omega), szPointS_eq l _ hl h2 (by omega)]
    simp only [Option.bind_some]
    rcases szN_tells l.length (szN st.length a) h2 with h | ⟨h5, h6, h7⟩
    · rw [h]; rfl
    · rw [if_neg (by omega)]
def grLen (n : Int) (x : S99) : Prop := (x.f0.length : Int) ≤ n ∧ (x.f2.length : Int) ≤ n
def szGS (l : List S99) (a : Int) : Int := if szN l.length a < 0 then -1 else szL (fun x a => szG x.f0.length x.f2.length a) l (szN l.length a)
theorem szGS_tells (l : List S99) (a : Int) (h0 : 0 ≤ a) (h1 : a ≤ 1048576) : szGS l a = -1 ∨ (0 ≤ szGS l a ∧ szGS l a ≤ a ∧ (l.length : Int) ≤ a ∧ ∀ x ∈ l, grLen 1048576 x) := by
  unfold szGS
  rcases szN_tells l.length a h0 with h | ⟨h2, h3, h4⟩
  · rw [h]; exact .inl rfl
  · rw [if_neg (by omega)]
    rcases szL_tells (f := fun (x : S99) a => szG x.f0.length x.f2.length a) (P := grLen 1048576) (fun x a h0 h1 => by rcases szG_tells x.f0.length x.f2.length a h0 with h | ⟨h5, h6, h7, h8⟩; exact .inl h; exact .inr ⟨h5, h6, by omega, by omega⟩) l _ h2 (by omega) with h | ⟨h5, h6, h7⟩
    · exact .inl h
    · exact .inr ⟨h5, by omega, h4, h7⟩
theorem szGraphicsS_ev (l : List S99) (a : Int) (h : l.length ≤ maxLen) (hx : ∀ x ∈ l, x.f0.length ≤ maxLen ∧ x.f2.length ≤ maxLen) (h0 : 0 ≤ a) (h1 : a ≤ 1048576) : Ev (fun k => laws_szGraphicsS.f k l a) (szGS l a) := by
  have h' := h
  rw [maxLen_eq] at h'
  simp only [laws_szGraphicsS.f]
  rw [wrap_id (by omega) (by omega)]
  have hn : szN l.length a = if a - (l.length : Int) < 0 then -1 else a - (l.length : Int) := rfl
  unfold szGS
  rw [hn]
  by_cases c : a - (l.length : Int) < 0
  · simp only [if_pos c]; exact Ev.val rfl
  · simp only [if_neg c]
    refine ev_loop l (F := fun k s i => laws_szGraphicsS.l0 k l s i) (fun _ _ s => 0 ≤ s ∧ s ≤ 1048576) (fun _ r s => szL (fun x a => szG x.f0.length x.f2.length a) r s) ?_ ?_ (a - (l.length : Int)) ⟨by omega, by omega⟩
    · intro s _
      simp only [laws_szGraphicsS.l0, end_lt, if_false, szL]
      exact Ev.now _
    · rintro pre x rest s e ⟨hs0, hs1⟩ ih
      have hxx := hx x (by rw [e]; simp)
      subst e
      simp only [laws_szGraphicsS.l0, mid_lt, mid_nn, mid_wrap h, if_true, rd_T99, Int.toNat_natCast, mid_get, szGraphics_eq x.f0 _ _ _ _ x.f2 _ _ _ _ _ s hxx.1 hxx.2 hs0 hs1, Option.bind_some, szL]
      rcases szG_tells x.f0.length x.f2.length s hs0 with hn | ⟨h2, h3, h4, h5⟩
      · rw [hn]; exact Ev.now _
      · have c2 : ¬ szG x.f0.length x.f2.length s < 0 := by omega
        simp only [if_neg c2]
        exact ih _ ⟨h2, by omega⟩
def szPg (n m : Nat) (G : List S99) (O : List S91) (a : Int) : Int := if szG n m a < 0 then -1 else if szGS G (szG n m a) < 0 then -1 else szOS O (szGS G (szG n m a))
theorem szPg_tells (n m : Nat) (G : List S99) (O : List S91) (a : Int) (h0 : 0 ≤ a) (h1 : a ≤ 1048576) : szPg n m G O a = -1 ∨ (0 ≤ szPg n m G O a ∧ (n : Int) ≤ 1048576 ∧ (m : Int) ≤ 1048576 ∧ ((G.length : Int) ≤ 1048576 ∧ ∀ x ∈ G, grLen 1048576 x) ∧ ((O.length : Int) ≤ 1048576 ∧ ∀ x ∈ O, (x.f0.length : Int) ≤ 1048576)) := by
  unfold szPg
  rcases szG_tells n m a h0 with h | ⟨h2, h3, h4, h5⟩
  · rw [h]; exact .inl rfl
  · rw [if_neg (by omega)]
    rcases szGS_tells G (szG n m a) h2 (by omega) with h | ⟨g2, g3, g4, g5⟩
    · rw [h]; exact .inl rfl
    · rw [if_neg (by omega)]
      rcases szOS_tells O (szGS G (szG n m a)) g2 (by omega) with h | ⟨k2, k3, k4, k5⟩
      · exact .inl h
      · exact .inr ⟨k2, by omega, by omega, ⟨by omega, g5⟩, by omega, k5⟩
theorem szPage_ev (st : List Int) (p q r s : Int) (l : List S180) (g t u v x : Int) (G : List S99) (O : List S91) (a : Int) (hs : st.length ≤ maxLen) (hl : l.length ≤ maxLen) (hG : G.length ≤ maxLen) (hGx : ∀ x ∈ G, x.f0.length ≤ maxLen ∧ x.f2.length ≤ maxLen) (hO : O.length ≤ maxLen) (hOx : ∀ x ∈ O, x.f0.length ≤ maxLen) (h0 : 0 ≤ a) (h1 : a ≤ 1048576) :
    Ev (fun k => laws_szPage.f k st p q r s l g t u v x G O a) (szPg st.length l.length G O a) := by
  simp only [laws_szPage.f, szGraphics_eq st p q r s l g t u v x a hs hl h0 h1, Option.bind_some]
  unfold szPg
  rcases szG_tells st.length l.length a h0 with h | ⟨h2, h3, h4, h5⟩
  · rw [h]; exact Ev.now _
  · simp only [if_neg (show ¬ szG st.length l.length a < 0 by omega)]
    refine Ev.bind (szGraphicsS_ev G _ hG hGx h2 (by omega)) ?_
    rcases szGS_tells G (szG st.length l.length a) h2 (by omega) with h | ⟨g2, g3, g4, g5⟩
    · rw [h]; exact Ev.now _
    · simp only [if_neg (show ¬ szGS G (szG st.length l.length a) < 0 by omega)]
      refine Ev.bind (szObjectS_ev O _ hO hOx g2 (by omega)) ?_
      rcases szOS_tells O (szGS G (szG st.length l.length a)) g2 (by omega) with h | ⟨k2, _⟩
      · rw [h]; exact Ev.now _
      · simp only [if_neg (show ¬ szOS O (szGS G (szG st.length l.length a)) < 0 by omega)]
        exact Ev.now _
theorem toGraphics_ev (st : List Int) (p q r s : Int) (l : List S180) (g t u v x : Int) (hs : (st.length : Int) ≤ 1048576) (hl : (l.length : Int) ≤ 1048576) : Ev (fun k => laws_toGraphics.f k st p q r s l g t u v x) (st, p, q, r, s, l.map tPoint, g, t, u, v, x) := by
  simp only [laws_toGraphics.f, laws_toTurn.f, laws_toBox.f, Option.bind_some]
  exact Ev.bind (toIntS_ev st hs) (Ev.bind (toPointS_ev l hl) (Ev.now _))
def tGr (x : S99) : S107 := ⟨x.f0, ⟨x.f1.f0, x.f1.f1, x.f1.f2, x.f1.f3⟩, x.f2.map tPoint, x.f3, ⟨x.f4.f0, x.f4.f1, x.f4.f2, x.f4.f3⟩⟩
theorem toGraphicsS_ev (l : List S99) (h : (l.length : Int) ≤ 1048576) (hx : ∀ x ∈ l, grLen 1048576 x) : Ev (fun k => laws_toGraphicsS.f k l) (l.map tGr) := by
  have hm : l.length ≤ maxLen := by rw [maxLen_eq]; omega
  simp only [laws_toGraphicsS.f]
  refine Ev.ite (fun _ => Ev.ite (fun _ => ?_) (fun c => absurd (by omega) c)) (fun c => absurd (by omega) c)
  exact ev_fill l tGr (F := fun k s i => laws_toGraphicsS.l0 k l s i) (fun s => by
    simp only [laws_toGraphicsS.l0, end_lt, if_false]
    exact Ev.now _) (fun pre x rest s r e hs h => by
    have hxx := hx x (by rw [e]; simp)
    subst e
    simp only [laws_toGraphicsS.l0, hs, mid_lt, mid_nn, mid_wrap hm, if_true, rd_T99, Int.toNat_natCast, mid_get]
    exact Ev.bind (toGraphics_ev x.f0 _ _ _ _ x.f2 _ _ _ _ _ hxx.1 hxx.2) h) _ (by simp)
theorem toPage_ev (st : List Int) (p q r s : Int) (l : List S180) (g t u v x : Int) (G : List S99) (O : List S91) (hs : (st.length : Int) ≤ 1048576) (hl : (l.length : Int) ≤ 1048576) (hG : (G.length : Int) ≤ 1048576) (hGx : ∀ x ∈ G, grLen 1048576 x) (hO : (O.length : Int) ≤ 1048576) (hOx : ∀ x ∈ O, (x.f0.length : Int) ≤ 1048576) :
    Ev (fun k => laws_toPage.f k st p q r s l g t u v x G O) (st, p, q, r, s, l.map tPoint, g, t, u, v, x, G.map tGr, O.map tObj) := by
  simp only [laws_toPage.f]
  exact Ev.bind (toGraphics_ev st p q r s l g t u v x hs hl) (Ev.bind (toGraphicsS_ev G hG hGx) (Ev.bind (toObjectS_ev O hO hOx) (Ev.now _)))
theorem eqGraphics_ev (st : List Int) (p q r s : Int) (l : List S166) (g t u v x : Int) (hs : st.length ≤ maxLen) (hl : l.length ≤ maxLen) : Ev (fun k => laws_eqGraphics.f k st p q r s l g t u v x st p q r s l g t u v x) true := by
  simp only [laws_eqGraphics.f, laws_eqTurn.f, laws_eqBox.f, Option.bind_some, if_true]
  refine Ev.bind (eqIntS_ev st hs) ?_
  simp only [if_true]
  refine Ev.bind (eqPointS_ev l hl) ?_
  simp only [if_true]
  exact Ev.now _
theorem eqGraphicsS_ev (l : List S107) (hm : l.length ≤ maxLen) (hx : ∀ x ∈ l, x.f0.length ≤ maxLen ∧ x.f2.length ≤ maxLen) : Ev (fun k => laws_eqGraphicsS.f k l l) true := by
  simp only [laws_eqGraphicsS.f, if_true]
  refine ev_loop0 l (F := fun k i => laws_eqGraphicsS.l0 k l l i) (fun _ _ => true) ?_ (fun pre x rest e h => ?_)
  · simp only [laws_eqGraphicsS.l0, end_lt, if_false]; exact Ev.now _
  · have hxx := hx x (by rw [e]; simp)
    subst e
    simp only [laws_eqGraphicsS.l0, mid_lt, mid_nn, mid_wrap hm, if_true, rd_T107, Int.toNat_natCast, mid_get]
    exact Ev.bind (eqGraphics_ev x.f0 _ _ _ _ x.f2 _ _ _ _ _ hxx.1 hxx.2) h
theorem eqPage_ev (st : List Int) (p q r s : Int) (l : List S166) (g t u v x : Int) (G : List S107) (O : List S41) (hs : st.length ≤ maxLen) (hl : l.length ≤ maxLen) (hG : G.length ≤ maxLen) (hGx : ∀ x ∈ G, x.f0.length ≤ maxLen ∧ x.f2.length ≤ maxLen) (hO : O.length ≤ maxLen) (hOx : ∀ x ∈ O, x.f0.length ≤ maxLen) :
    Ev (fun k => laws_eqPage.f k st p q r s l g t u v x G O st p q r s l g t u v x G O) true := by
  simp only [laws_eqPage.f]
  refine Ev.bind (eqGraphics_ev st p q r s l g t u v x hs hl) ?_
  simp only [if_true]
  refine Ev.bind (eqGraphicsS_ev G hG hGx) ?_
  simp only [if_true]
  refine Ev.bind (eqObjectS_ev O hO hOx) ?_
  simp only [if_true]
  exact Ev.now _
def stkOk (l : List Int) : Bool := (l.all fun v => inB v (-9999) 9999) && decide ((l.length : Int) ≤ 12)
theorem iStackOk_ev (l : List Int) (hm : l.length ≤ maxLen) : Ev (fun k => impl_StackOk.f k l) (stkOk l) := by
  simp only [impl_StackOk.f]
  unfold stkOk
  by_cases c : (l.length : Int) > 12
  · simp only [if_pos c, decide_eq_false (show ¬ (l.length : Int) ≤ 12 by omega), Bool.and_false]; exact Ev.now _
  · simp only [if_neg c, decide_eq_true (show (l.length : Int) ≤ 12 by omega), Bool.and_true]
    refine ev_loop0 l (F := fun k i => impl_StackOk.l0 k l l.length i) (fun _ r => r.all fun v => inB v (-9999) 9999) ?_ (fun pre x rest e h => ?_)
    · simp only [impl_StackOk.l0, end_lt, if_false]; exact Ev.now _
    · clear c
      subst e
      simp only [impl_StackOk.l0, mid_lt, mid_nn, mid_wrap hm, if_true, rd, Int.toNat_natCast, mid_get, within_eq, Option.bind_some, List.all_cons]
      exact Ev.andB (fun _ => h)
theorem sStackOk_ev (l : List Int) (hm : l.length ≤ maxLen) : Ev (fun k => spec_StackOk.f k l) (stkOk l) := by
  simp only [spec_StackOk.f]
  unfold stkOk
  refine ev_loop0 l (F := fun k i => spec_StackOk.l0 k l i) (fun _ r => (r.all fun v => inB v (-9999) 9999) && decide ((l.length : Int) ≤ 12)) ?_ (fun pre x rest e h => ?_)
  · simp only [spec_StackOk.l0, end_lt, if_false, List.all_nil, Bool.true_and]; exact Ev.now _
  · have e1 : (((x :: rest).all fun v => inB v (-9999) 9999) && decide ((l.length : Int) ≤ 12)) = (inB x (-9999) 9999 && ((rest.all fun v => inB v (-9999) 9999) && decide ((l.length : Int) ≤ 12))) := by rw [List.all_cons, Bool.and_assoc]
    rw [e1]
    subst e
    simp only [spec_StackOk.l0, mid_lt, mid_nn, mid_wrap hm, if_true, rd, Int.toNat_natCast, mid_get, l01In_eq, Option.bind_some]
    exact Ev.andB (fun _ => h)
def turnOk (a b c d : Int) : Bool := inB a 0 3 && (inB b 1 4 && (coord c && coord d))
theorem iTurnOk_eq (a b c d : Int) : impl_TurnOk.f a b c d = some (turnOk a b c d) := by
  unfold impl_TurnOk.f turnOk
  simp only [within_eq, coordOk_eq, Option.bind_some, and_some]
theorem sTurnOk_eq (a b c d : Int) : spec_TurnOk.f a b c d = some (turnOk a b c d) := by
  unfold spec_TurnOk.f turnOk
  simp only [l01In_eq, l02In_eq, Option.bind_some, and_some]
def grOk (st : List Int) (p q r s : Int) (l : List S166) (g t u v x : Int) : Bool := stkOk st && (turnOk p q r s && (boxOk t u v x && ((ptsOk l && decide ((l.length : Int) ≤ 8)) && inB g 0 255)))
theorem iGraphicsOk_ev (st : List Int) (p q r s : Int) (l : List S166) (g t u v x : Int) (hs : st.length ≤ maxLen) (hl : l.length ≤ maxLen) : Ev (fun k => impl_GraphicsOk.f k st p q r s l g t u v x) (grOk st p q r s l g t u v x) := by
  simp only [impl_GraphicsOk.f, iTurnOk_eq, iBoxOk_eq, within_eq, Option.bind_some]
  unfold grOk
  refine Ev.bind (iStackOk_ev st hs) (Ev.andB (fun _ => Ev.andB (fun _ => Ev.andB (fun _ => ?_))))
  rw [show (ptsOk l && decide ((l.length : Int) ≤ 8)) = (decide ((l.length : Int) ≤ 8) && ptsOk l) from Bool.and_comm _ _, Bool.and_assoc]
  exact Ev.andP (fun _ => Ev.bind (pointsOk_ev l hl) (Ev.andB (fun _ => Ev.now _)))
theorem sGraphicsOk_ev (st : List Int) (p q r s : Int) (l : List S166) (g t u v x : Int) (hs : st.length ≤ maxLen) (hl : l.length ≤ maxLen) : Ev (fun k => spec_GraphicsOk.f k st p q r s l g t u v x) (grOk st p q r s l g t u v x) := by
  simp only [spec_GraphicsOk.f, sTurnOk_eq, sBoxOk_eq, l01In_eq, Option.bind_some]
  unfold grOk
  refine Ev.bind (sStackOk_ev st hs) (Ev.andB (fun _ => Ev.andB (fun _ => Ev.andB (fun _ => ?_))))
  exact Ev.bind (l07Points_ev l hl) (Ev.andB (fun _ => Ev.now _))
def grO (x : S107) : Bool := grOk x.f0 x.f1.f0 x.f1.f1 x.f1.f2 x.f1.f3 x.f2 x.f3 x.f4.f0 x.f4.f1 x.f4.f2 x.f4.f3
def pgOk (st : List Int) (p q r s : Int) (l : List S166) (g t u v x : Int) (G : List S107) (O : List S41) : Bool := grOk st p q r s l g t u v x && (decide ((G.length : Int) ≤ 4) && (decide ((O.length : Int) ≤ 12) && (G.all grO && objsOk O)))
theorem iPageOk_ev (st : List Int) (p q r s : Int) (l : List S166) (g t u v x : Int) (G : List S107) (O : List S41) (hs : st.length ≤ maxLen) (hl : l.length ≤ maxLen) (hG : G.length ≤ maxLen) (hGx : ∀ x ∈ G, x.f0.length ≤ maxLen ∧ x.f2.length ≤ maxLen) (hO : O.length ≤ maxLen) (hOx : ∀ x ∈ O, x.f0.length ≤ maxLen) :
    Ev (fun k => impl_PageOk.f k st p q r s l g t u v x G O) (pgOk st p q r s l g t u v x G O) := by
  have no : Ev (fun k => impl_PageOk.j0 k true st p q r s l g t u v x G O) false := Ev.up (by simp only [impl_PageOk.j0, if_true]; exact Ev.now _)
  have objs : Ev (fun k => impl_PageOk.l1 k O (O.length : Int) 0) (objsOk O) := by
    refine ev_loop0 O (F := fun k i => impl_PageOk.l1 k O O.length i) (fun _ r => objsOk r) ?_ (fun pre y rest e h => ?_)
    · simp only [impl_PageOk.l1, end_lt, if_false]; exact Ev.now _
    · have hxx := hOx y (by rw [e]; simp)
      subst e
      simp only [impl_PageOk.l1, mid_lt, mid_nn, mid_wrap hO, if_true, rd_T41, Int.toNat_natCast, mid_get]
      exact Ev.bind (iObjectOk_ev y.f0 _ _ _ _ _ hxx) (Ev.andB (fun _ => h))
  have grs : Ev (fun k => impl_PageOk.l0 k G (G.length : Int) 0 st p q r s l g t u v x G O) (G.all grO && objsOk O) := by
    have hGG : ∀ H : List S107, Ev (fun k => impl_PageOk.l0 k G (G.length : Int) 0 st p q r s l g t u v x H O) (G.all grO && objsOk O) := fun H => by
      refine ev_loop0 G (F := fun k i => impl_PageOk.l0 k G G.length i st p q r s l g t u v x H O) (fun _ r => r.all grO && objsOk O) ?_ (fun pre y rest e h => ?_)
      · simp only [impl_PageOk.l0, end_lt, if_false, List.all_nil, Bool.true_and]; exact objs
      · have hxx := hGx y (by rw [e]; simp)
        rw [List.all_cons, Bool.and_assoc]
        subst e
        simp only [impl_PageOk.l0, mid_lt, mid_nn, mid_wrap hG, if_true, rd_T107, Int.toNat_natCast, mid_get]
        exact Ev.bind (iGraphicsOk_ev y.f0 _ _ _ _ y.f2 _ _ _ _ _ hxx.1 hxx.2) (Ev.andB (fun _ => h))
    exact hGG G
  simp only [impl_PageOk.f]
  unfold pgOk
  refine Ev.bind (iGraphicsOk_ev st p q r s l g t u v x hs hl) ?_
  by_cases c : grOk st p q r s l g t u v x = true
  · simp only [c, if_true, Bool.true_and]
    by_cases c1 : (G.length : Int) > 4
    · simp only [if_pos c1, decide_eq_false (show ¬ (G.length : Int) ≤ 4 by omega), Bool.false_and]; exact no
    · simp only [if_neg c1, decide_eq_true (show (G.length : Int) ≤ 4 by omega), Bool.true_and]
      by_cases c2 : (O.length : Int) > 12
      · simp only [decide_eq_true c2, decide_eq_false (show ¬ (O.length : Int) ≤ 12 by omega), Bool.false_and]; exact no
      · simp only [decide_eq_false c2, decide_eq_true (show (O.length : Int) ≤ 12 by omega), Bool.true_and]
        refine Ev.up ?_
        simp only [impl_PageOk.j0, Bool.false_eq_true, if_false]
        exact grs
  · simp only [c, Bool.false_eq_true, if_false, Bool.false_and]; exact no
theorem sPageOk_ev (st : List Int) (p q r s : Int) (l : List S166) (g t u v x : Int) (G : List S107) (O : List S41) (hs : st.length ≤ maxLen) (hl : l.length ≤ maxLen) (hG : G.length ≤ maxLen) (hGx : ∀ x ∈ G, x.f0.length ≤ maxLen ∧ x.f2.length ≤ maxLen) (hO : O.length ≤ maxLen) (hOx : ∀ x ∈ O, x.f0.length ≤ maxLen) :
    Ev (fun k => spec_PageOk.f k st p q r s l g t u v x G O) (pgOk st p q r s l g t u v x G O) := by
  have no : Ev (fun k => spec_PageOk.j0 k true st p q r s l g t u v x G O) false := Ev.up (by simp only [spec_PageOk.j0, if_true]; exact Ev.now _)
  have objs : Ev (fun k => spec_PageOk.l1 k 0 st p q r s l g t u v x G O) (objsOk O) := by
    refine ev_loop0 O (F := fun k i => spec_PageOk.l1 k i st p q r s l g t u v x G O) (fun _ r => objsOk r) ?_ (fun pre y rest e h => ?_)
    · simp only [spec_PageOk.l1, end_lt, if_false]; exact Ev.now _
    · have hxx := hOx y (by rw [e]; simp)
      subst e
      simp only [spec_PageOk.l1, mid_lt, mid_nn, mid_wrap hO, if_true, rd_T41, Int.toNat_natCast, mid_get]
      exact Ev.bind (l07Object_ev y.f0 _ _ _ _ _ hxx) (Ev.andB (fun _ => h))
  have grs : Ev (fun k => spec_PageOk.l0 k 0 st p q r s l g t u v x G O) (G.all grO && objsOk O) := by
    refine ev_loop0 G (F := fun k i => spec_PageOk.l0 k i st p q r s l g t u v x G O) (fun _ r => r.all grO && objsOk O) ?_ (fun pre y rest e h => ?_)
    · simp only [spec_PageOk.l0, end_lt, if_false, List.all_nil, Bool.true_and]; exact objs
    · have hxx := hGx y (by rw [e]; simp)
      have hlt : (pre.length : Int) < (G.length : Int) := by rw [e, mid_len]; omega
      have hw : wrap64 ((pre.length : Int) + 1) = ((pre ++ [y]).length : Int) := mid_wrap (pre := pre) (rest := rest) (x := y) (by rw [← e]; exact hG)
      have hrd : rd_T107 G (pre.length : Int) = y := by rw [e]; simp [rd_T107, List.getD_eq_getElem?_getD]
      rw [List.all_cons, Bool.and_assoc]
      simp only [spec_PageOk.l0, if_pos hlt, mid_nn, hw, if_true, hrd]
      exact Ev.bind (sGraphicsOk_ev y.f0 _ _ _ _ y.f2 _ _ _ _ _ hxx.1 hxx.2) (Ev.andB (fun _ => h))
  simp only [spec_PageOk.f]
  unfold pgOk
  refine Ev.bind (sGraphicsOk_ev st p q r s l g t u v x hs hl) ?_
  by_cases c : grOk st p q r s l g t u v x = true
  · simp only [c, if_true, Bool.true_and]
    by_cases c1 : (G.length : Int) > 4
    · simp only [if_pos c1, decide_eq_false (show ¬ (G.length : Int) ≤ 4 by omega), Bool.false_and]; exact no
    · simp only [if_neg c1, decide_eq_true (show (G.length : Int) ≤ 4 by omega), Bool.true_and]
      by_cases c2 : (O.length : Int) > 12
      · simp only [decide_eq_true c2, decide_eq_false (show ¬ (O.length : Int) ≤ 12 by omega), Bool.false_and]; exact no
      · simp only [decide_eq_false c2, decide_eq_true (show (O.length : Int) ≤ 12 by omega), Bool.true_and]
        refine Ev.up ?_
        simp only [spec_PageOk.j0, Bool.false_eq_true, if_false]
        exact grs
  · simp only [c, Bool.false_eq_true, if_false, Bool.false_and]; exact no
theorem page_bounds {G : List S99} {O : List S91} (hG : (G.length : Int) ≤ 1048576) (hGx : ∀ x ∈ G, grLen 1048576 x) (hO : (O.length : Int) ≤ 1048576) (hOx : ∀ x ∈ O, (x.f0.length : Int) ≤ 1048576) :
    (G.map tGr).length ≤ maxLen ∧ (∀ x ∈ G.map tGr, x.f0.length ≤ maxLen ∧ x.f2.length ≤ maxLen) ∧ (O.map tObj).length ≤ maxLen ∧ (∀ x ∈ O.map tObj, x.f0.length ≤ maxLen) := by
  rw [maxLen_eq]
  refine ⟨by rw [List.length_map]; omega, fun x hx => ?_, by rw [List.length_map]; omega, fun x hx => ?_⟩
  · obtain ⟨y, hy, rfl⟩ := List.mem_map.1 hx
    have := hGx y hy
    unfold grLen at this
    simp only [tGr, List.length_map]; omega
  · obtain ⟨y, hy, rfl⟩ := List.mem_map.1 hx
    have := hOx y hy
    simp only [tObj, List.length_map]; omega
theorem page_law (st : List Int) (p q r s : Int) (l : List S180) (g t u v x : Int) (G : List S99) (O : List S91) (hs : st.length ≤ maxLen) (hl : l.length ≤ maxLen) (hG : G.length ≤ maxLen) (hGx : ∀ x ∈ G, x.f0.length ≤ maxLen ∧ x.f2.length ≤ maxLen) (hO : O.length ≤ maxLen) (hOx : ∀ x ∈ O, x.f0.length ≤ maxLen) : ∃ k, laws_FnExactPageOk.f k st p q r s l g t u v x G O = some true := by
  refine Ev.rounds (g := fun k => laws_FnExactPageOk.f k st p q r s l g t u v x G O) ?_
  simp only [laws_FnExactPageOk.f]
  refine Ev.bind (szPage_ev st p q r s l g t u v x G O 1048576 hs hl hG hGx hO hOx (by omega) (by omega)) (Ev.ite (fun _ => Ev.now _) (fun c => ?_))
  rcases szPg_tells st.length l.length G O 1048576 (by omega) (by omega) with hn | ⟨_, b1, b2, ⟨b3, b4⟩, b5, b6⟩
  · omega
  have hT := toPage_ev st p q r s l g t u v x G O b1 b2 b3 b4 b5 b6
  obtain ⟨d1, d2, d3, d4⟩ := page_bounds b3 b4 b5 b6
  have hlm : (l.map tPoint).length ≤ maxLen := by rw [maxLen_eq, List.length_map]; omega
  refine Ev.bind hT (Ev.bind (sPageOk_ev st p q r s (l.map tPoint) g t u v x (G.map tGr) (O.map tObj) hs hlm d1 d2 d3 d4) (Ev.bind hT (Ev.bind (iPageOk_ev st p q r s (l.map tPoint) g t u v x (G.map tGr) (O.map tObj) hs hlm d1 d2 d3 d4) ?_)))
  simp only [bne_self_eq_false, Bool.false_eq_true, if_false]
  refine Ev.bind hT (Ev.bind (eqPage_ev st p q r s (l.map tPoint) g t u v x (G.map tGr) (O.map tObj) hs hlm d1 d2 d3 d4) ?_)
  simp only [if_true]
  exact Ev.now _
theorem FnExactPageOk (st : List Int) (p q r s : Int) (l : List S180) (g t u v x : Int) (G : List S99) (O : List S91) (h : ((st.length ≤ maxLen ∧ ∀ y ∈ st, ((Lit.int .i64 y).wf = true)) ∧ (((Lit.int .i64 p).wf = true) ∧ ((Lit.int .i64 q).wf = true) ∧ ((Lit.int .i64 r).wf = true) ∧ ((Lit.int .i64 s).wf = true)) ∧ (l.length ≤ maxLen ∧ ∀ y ∈ l, (((Lit.int .i64 y.f0).wf = true) ∧ ((Lit.int .i64 y.f1).wf = true))) ∧ ((Lit.int .i64 g).wf = true) ∧ (((Lit.int .i64 t).wf = true) ∧ ((Lit.int .i64 u).wf = true) ∧ ((Lit.int .i64 v).wf = true) ∧ ((Lit.int .i64 x).wf = true))) ∧ (G.length ≤ maxLen ∧ ∀ y ∈ G, ((y.f0.length ≤ maxLen ∧ ∀ yy ∈ y.f0, ((Lit.int .i64 yy).wf = true)) ∧ (((Lit.int .i64 y.f1.f0).wf = true) ∧ ((Lit.int .i64 y.f1.f1).wf = true) ∧ ((Lit.int .i64 y.f1.f2).wf = true) ∧ ((Lit.int .i64 y.f1.f3).wf = true)) ∧ (y.f2.length ≤ maxLen ∧ ∀ yy ∈ y.f2, (((Lit.int .i64 yy.f0).wf = true) ∧ ((Lit.int .i64 yy.f1).wf = true))) ∧ ((Lit.int .i64 y.f3).wf = true) ∧ (((Lit.int .i64 y.f4.f0).wf = true) ∧ ((Lit.int .i64 y.f4.f1).wf = true) ∧ ((Lit.int .i64 y.f4.f2).wf = true) ∧ ((Lit.int .i64 y.f4.f3).wf = true)))) ∧ (O.length ≤ maxLen ∧ ∀ y ∈ O, ((y.f0.length ≤ maxLen ∧ ∀ yy ∈ y.f0, (((Lit.int .i64 yy.f0).wf = true) ∧ ((Lit.int .i64 yy.f1).wf = true))) ∧ ((Lit.int .i64 y.f1).wf = true) ∧ (((Lit.int .i64 y.f2.f0).wf = true) ∧ ((Lit.int .i64 y.f2.f1).wf = true) ∧ ((Lit.int .i64 y.f2.f2).wf = true) ∧ ((Lit.int .i64 y.f2.f3).wf = true))))) : ∃ k, laws_FnExactPageOk.f k st p q r s l g t u v x G O = some true :=
  page_law st p q r s l g t u v x G O h.1.1.1 h.1.2.2.1.1 h.2.1.1 (fun y hy => ⟨(h.2.1.2 y hy).1.1, (h.2.1.2 y hy).2.2.1.1⟩) h.2.2.1 (fun y hy => (h.2.2.2 y hy).1.1)
end Go.Proofs.Ytimpejidlnjhlaa.Pure
