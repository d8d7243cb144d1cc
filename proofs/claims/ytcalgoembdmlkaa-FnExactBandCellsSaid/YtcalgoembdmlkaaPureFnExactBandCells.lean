/- The plain law of FnExactBandCells: over numbers and lists, what the printed functions answer, and that the law answers true. -/
import Derived.Test.YtcalgoembdmlkaaQFnExactBandCellsx4
import Derived.Test.YtcalgoembdmlkaaPlain
namespace Go.Proofs.Ytcalgoembdmlkaa.Pure
open Go.RowKit Go.Proofs.Ytcalgoembdmlkaa.QFnExactBandCells Go.Proofs.YtcalgoembdmlkaaW.PrintWords Go.Proofs.YtcalgoembdmlkaaW.PrintLast Go.Proofs.Ytcalgoembdmlkaa.Plain

theorem szIntS_eq (l : List Int) (a : Int) (h : l.length ≤ maxLen) (h0 : 0 ≤ a) (h1 : a ≤ 1048576) : laws_szIntS.f l a = some (szN l.length a) := by
  rw [maxLen_eq] at h
  unfold laws_szIntS.f szN
  rw [wrap_id (by omega) (by omega)]
  split <;> rfl
theorem szPointS_eq (l : List S132) (a : Int) (h : l.length ≤ maxLen) (h0 : 0 ≤ a) (h1 : a ≤ 1048576) : laws_szPointS.f l a = some (szN l.length a) := by
  rw [maxLen_eq] at h
  unfold laws_szPointS.f szN
  rw [wrap_id (by omega) (by omega)]
  split <;> rfl
def szSS (l : List (List Int)) (a : Int) : Int := if szN l.length a < 0 then -1 else szL (fun x a => szN x.length a) l (szN l.length a)
theorem szSS_tells (l : List (List Int)) (a : Int) (h0 : 0 ≤ a) (h1 : a ≤ 1048576) : szSS l a = -1 ∨ (0 ≤ szSS l a ∧ szSS l a ≤ a ∧ (l.length : Int) ≤ a ∧ ∀ x ∈ l, (x.length : Int) ≤ 1048576) := by
  unfold szSS
  rcases szN_tells l.length a h0 with h | ⟨h2, h3, h4⟩
  · rw [h]; exact .inl rfl
  · rw [if_neg (by omega)]
    rcases szL_tells (f := fun (x : List Int) a => szN x.length a) (P := fun x => (x.length : Int) ≤ 1048576) (fun x a h0 h1 => by rcases szN_tells x.length a h0 with h | ⟨h5, h6, h7⟩; exact .inl h; exact .inr ⟨h5, h6, by omega⟩) l _ h2 (by omega) with h | ⟨h5, h6, h7⟩
    · exact .inl h
    · exact .inr ⟨h5, by omega, h4, h7⟩
theorem szIntSS_ev (l : List (List Int)) (a : Int) (h : l.length ≤ maxLen) (hx : ∀ x ∈ l, x.length ≤ maxLen) (h0 : 0 ≤ a) (h1 : a ≤ 1048576) : Ev (fun k => laws_szIntSS.f k l a) (szSS l a) := by
  have h' := h
  rw [maxLen_eq] at h'
  simp only [laws_szIntSS.f]
  rw [wrap_id (by omega) (by omega)]
  have hn : szN l.length a = if a - (l.length : Int) < 0 then -1 else a - (l.length : Int) := rfl
  unfold szSS
  rw [hn]
  by_cases c : a - (l.length : Int) < 0
  · simp only [if_pos c]; exact Ev.val rfl
  · simp only [if_neg c]
    refine ev_loop l (F := fun k s i => laws_szIntSS.l0 k l s i) (fun _ _ s => 0 ≤ s ∧ s ≤ 1048576) (fun _ r s => szL (fun x a => szN x.length a) r s) ?_ ?_ (a - (l.length : Int)) ⟨by omega, by omega⟩
    · intro s _
      simp only [laws_szIntSS.l0, end_lt, if_false, szL]
      exact Ev.now _
    · rintro pre x rest s e ⟨hs0, hs1⟩ ih
      have hxx := hx x (by rw [e]; simp)
      subst e
      simp only [laws_szIntSS.l0, mid_lt, mid_nn, mid_wrap h, if_true, rd_L1, Int.toNat_natCast, mid_get, szIntS_eq x s hxx hs0 hs1, Option.bind_some, szL]
      rcases szN_tells x.length s hs0 with hn | ⟨h2, h3, h4⟩
      · rw [hn]; exact Ev.now _
      · have c2 : ¬ szN x.length s < 0 := by omega
        simp only [if_neg c2]
        exact ih _ ⟨h2, by omega⟩
theorem szObject_eq (l : List S132) (b c d e f : Int) (a : Int) (h : l.length ≤ maxLen) (h0 : 0 ≤ a) (h1 : a ≤ 1048576) : laws_szObject.f l b c d e f a = some (szN l.length a) := by
  unfold laws_szObject.f
  rw [szPointS_eq l a h h0 h1]
  rcases szN_tells l.length a h0 with hn | ⟨h2, h3, h4⟩
  · rw [hn]; rfl
  · have c2 : ¬ szN l.length a < 0 := by omega
    simp [c2]

theorem toIntS_ev (l : List Int) (h : (l.length : Int) ≤ 1048576) : Ev (fun k => laws_toIntS.f k l) l := by
  have hm : l.length ≤ maxLen := by rw [maxLen_eq]; omega
  simp only [laws_toIntS.f]
  refine Ev.ite (fun _ => Ev.ite (fun _ => ?_) (fun c => absurd (by omega) c)) (fun c => absurd (by omega) c)
  have := ev_fill l id (F := fun k s i => laws_toIntS.l0 k l s i) (fun s => by
    simp only [laws_toIntS.l0, end_lt, if_false]
    exact Ev.now _) (fun pre x rest s r e hs h => by
    subst e
    simp only [laws_toIntS.l0, hs, mid_lt, mid_nn, mid_wrap hm, if_true, rd, Int.toNat_natCast, mid_get]
    exact h) (List.replicate ((l.length : Int) : Int).toNat 0) (by simp)
  simpa using this
theorem toIntSS_ev (l : List (List Int)) (h : (l.length : Int) ≤ 1048576) (hx : ∀ x ∈ l, (x.length : Int) ≤ 1048576) : Ev (fun k => laws_toIntSS.f k l) l := by
  have hm : l.length ≤ maxLen := by rw [maxLen_eq]; omega
  simp only [laws_toIntSS.f]
  refine Ev.ite (fun _ => Ev.ite (fun _ => ?_) (fun c => absurd (by omega) c)) (fun c => absurd (by omega) c)
  have := ev_fill l id (F := fun k s i => laws_toIntSS.l0 k l s i) (fun s => by
    simp only [laws_toIntSS.l0, end_lt, if_false]
    exact Ev.now _) (fun pre x rest s r e hs h => by
    have hxx := hx x (by rw [e]; simp)
    subst e
    simp only [laws_toIntSS.l0, hs, mid_lt, mid_nn, mid_wrap hm, if_true, rd_L1, Int.toNat_natCast, mid_get]
    exact Ev.bind (toIntS_ev x hxx) h) (List.replicate ((l.length : Int) : Int).toNat []) (by simp)
  simpa using this
def tPoint (r : S132) : S130 := ⟨r.f0, r.f1⟩
theorem toPointS_ev (l : List S132) (h : (l.length : Int) ≤ 1048576) : Ev (fun k => laws_toPointS.f k l) (l.map tPoint) := by
  have hm : l.length ≤ maxLen := by rw [maxLen_eq]; omega
  simp only [laws_toPointS.f]
  refine Ev.ite (fun _ => Ev.ite (fun _ => ?_) (fun c => absurd (by omega) c)) (fun c => absurd (by omega) c)
  exact ev_fill l tPoint (F := fun k s i => laws_toPointS.l0 k l s i) (fun s => by
    simp only [laws_toPointS.l0, end_lt, if_false]
    exact Ev.now _) (fun pre x rest s r e hs h => by
    subst e
    simp only [laws_toPointS.l0, hs, mid_lt, mid_nn, mid_wrap hm, if_true, rd_T132, Int.toNat_natCast, mid_get, laws_toPoint.f, Option.bind_some]
    exact h) _ (by simp)
theorem eqIntS_ev (l : List Int) (hm : l.length ≤ maxLen) : Ev (fun k => laws_eqIntS.f k l l) true := by
  simp only [laws_eqIntS.f, if_true]
  refine ev_loop0 l (F := fun k i => laws_eqIntS.l0 k l l i) (fun _ _ => true) ?_ (fun pre x rest e h => ?_)
  · simp only [laws_eqIntS.l0, end_lt, if_false]; exact Ev.now _
  · subst e
    simp only [laws_eqIntS.l0, mid_lt, mid_nn, mid_wrap hm, if_true]
    exact h
theorem eqIntSS_ev (l : List (List Int)) (hm : l.length ≤ maxLen) (hx : ∀ x ∈ l, x.length ≤ maxLen) : Ev (fun k => laws_eqIntSS.f k l l) true := by
  simp only [laws_eqIntSS.f, if_true]
  refine ev_loop0 l (F := fun k i => laws_eqIntSS.l0 k l l i) (fun _ _ => true) ?_ (fun pre x rest e h => ?_)
  · simp only [laws_eqIntSS.l0, end_lt, if_false]; exact Ev.now _
  · have hxx := hx x (by rw [e]; simp)
    subst e
    simp only [laws_eqIntSS.l0, mid_lt, mid_nn, mid_wrap hm, if_true, rd_L1, Int.toNat_natCast, mid_get]
    exact Ev.bind (eqIntS_ev x hxx) h
theorem eqPointS_ev (l : List S130) (hm : l.length ≤ maxLen) : Ev (fun k => laws_eqPointS.f k l l) true := by
  simp only [laws_eqPointS.f, if_true]
  refine ev_loop0 l (F := fun k i => laws_eqPointS.l0 k l l i) (fun _ _ => true) ?_ (fun pre x rest e h => ?_)
  · simp only [laws_eqPointS.l0, end_lt, if_false]; exact Ev.now _
  · subst e
    simp only [laws_eqPointS.l0, mid_lt, mid_nn, mid_wrap hm, if_true, laws_eqPoint.f, Option.bind_some]
    exact h
theorem eqObject_ev (l : List S130) (b c d e f : Int) (hm : l.length ≤ maxLen) : Ev (fun k => laws_eqObject.f k l b c d e f l b c d e f) true := by
  simp only [laws_eqObject.f, laws_eqBox.f, if_true, Option.bind_some]
  exact Ev.bind (eqPointS_ev l hm) (Ev.now _)

end Go.Proofs.Ytcalgoembdmlkaa.Pure
namespace Go.Proofs.Ytcalgoembdmlkaa.Pure
open Go.RowKit Go.Proofs.Ytcalgoembdmlkaa.QFnExactBandCells Go.Proofs.YtcalgoembdmlkaaW.PrintWords Go.Proofs.YtcalgoembdmlkaaW.PrintLast Go.Proofs.Ytcalgoembdmlkaa.Plain

def coord (a : Int) : Bool := inB a (-200) 200
def boxOk (a b c d : Int) : Bool := coord a && (coord b && (coord c && (coord d && (decide (a ≤ c) && decide (b ≤ d)))))
def rowOk (l : List Int) : Bool := decide ((l.length : Int) = 32) && l.all fun v => inB v 0 255
def rowsOk (l : List (List Int)) : Bool := decide ((l.length : Int) ≤ 32) && l.all rowOk
end Go.Proofs.Ytcalgoembdmlkaa.Pure
namespace Go.Proofs.Ytcalgoembdmlkaa.Pure
open Go.RowKit Go.Proofs.Ytcalgoembdmlkaa.QFnExactBandCells Go.Proofs.YtcalgoembdmlkaaW.PrintWords Go.Proofs.YtcalgoembdmlkaaW.PrintLast Go.Proofs.Ytcalgoembdmlkaa.Plain

def szOS (l : List S50) (a : Int) : Int := if szN l.length a < 0 then -1 else szL (fun x a => szN x.f0.length a) l (szN l.length a)
theorem szOS_tells (l : List S50) (a : Int) (h0 : 0 ≤ a) (h1 : a ≤ 1048576) : szOS l a = -1 ∨ (0 ≤ szOS l a ∧ szOS l a ≤ a ∧ (l.length : Int) ≤ a ∧ ∀ x ∈ l, (x.f0.length : Int) ≤ 1048576) := by
  unfold szOS
  rcases szN_tells l.length a h0 with h | ⟨h2, h3, h4⟩
  · rw [h]; exact .inl rfl
  · rw [if_neg (by omega)]
    rcases szL_tells (f := fun (x : S50) a => szN x.f0.length a) (P := fun x => (x.f0.length : Int) ≤ 1048576) (fun x a h0 h1 => by rcases szN_tells x.f0.length a h0 with h | ⟨h5, h6, h7⟩; exact .inl h; exact .inr ⟨h5, h6, by omega⟩) l _ h2 (by omega) with h | ⟨h5, h6, h7⟩
    · exact .inl h
    · exact .inr ⟨h5, by omega, h4, h7⟩
theorem szObjectS_ev (l : List S50) (a : Int) (h : l.length ≤ maxLen) (hx : ∀ x ∈ l, x.f0.length ≤ maxLen) (h0 : 0 ≤ a) (h1 : a ≤ 1048576) : Ev (fun k => laws_szObjectS.f k l a) (szOS l a) := by
  have h' := h
  rw [maxLen_eq] at h'
  simp only [laws_szObjectS.f]
  rw [wrap_id (by omega) (by omega)]
  have hn : szN l.length a = if a - (l.length : Int) < 0 then -1 else a - (l.length : Int) := rfl
  unfold szOS
  rw [hn]
  by_cases c : a - (l.length : Int) < 0
  · simp only [if_pos c]; exact Ev.val rfl
  · simp only [if_neg c]
    refine ev_loop l (F := fun k s i => laws_szObjectS.l0 k l s i) (fun _ _ s => 0 ≤ s ∧ s ≤ 1048576) (fun _ r s => szL (fun x a => szN x.f0.length a) r s) ?_ ?_ (a - (l.length : Int)) ⟨by omega, by omega⟩
    · intro s _
      simp only [laws_szObjectS.l0, end_lt, if_false, szL]
      exact Ev.now _
    · rintro pre x rest s e ⟨hs0, hs1⟩ ih
      have hxx := hx x (by rw [e]; simp)
      subst e
      simp only [laws_szObjectS.l0, mid_lt, mid_nn, mid_wrap h, if_true, rd_T50, Int.toNat_natCast, mid_get, szObject_eq x.f0 _ _ _ _ _ s hxx hs0 hs1, Option.bind_some, szL]
      rcases szN_tells x.f0.length s hs0 with hn | ⟨h2, h3, h4⟩
      · rw [hn]; exact Ev.now _
      · have c2 : ¬ szN x.f0.length s < 0 := by omega
        simp only [if_neg c2]
        exact ih _ ⟨h2, by omega⟩
def szBd (rows : List (List Int)) (l : List S50) (a : Int) : Int := if szSS rows a < 0 then -1 else szOS l (szSS rows a)
theorem szBd_tells (rows : List (List Int)) (l : List S50) (a : Int) (h0 : 0 ≤ a) (h1 : a ≤ 1048576) : szBd rows l a = -1 ∨ (0 ≤ szBd rows l a ∧ szBd rows l a ≤ a ∧ ((rows.length : Int) ≤ a ∧ ∀ x ∈ rows, (x.length : Int) ≤ 1048576) ∧ ((l.length : Int) ≤ a ∧ ∀ x ∈ l, (x.f0.length : Int) ≤ 1048576)) := by
  unfold szBd
  rcases szSS_tells rows a h0 h1 with h | ⟨h2, h3, h4, h5⟩
  · rw [h]; exact .inl rfl
  · rw [if_neg (by omega)]
    rcases szOS_tells l _ h2 (by omega) with h | ⟨g2, g3, g4, g5⟩
    · exact .inl h
    · exact .inr ⟨g2, by omega, ⟨h4, h5⟩, ⟨by omega, g5⟩⟩
theorem szBand_ev (p q : Int) (rows : List (List Int)) (l : List S50) (a : Int) (hr : rows.length ≤ maxLen) (hrx : ∀ x ∈ rows, x.length ≤ maxLen) (h : l.length ≤ maxLen) (hx : ∀ x ∈ l, x.f0.length ≤ maxLen) (h0 : 0 ≤ a) (h1 : a ≤ 1048576) : Ev (fun k => laws_szBand.f k p q rows l a) (szBd rows l a) := by
  simp only [laws_szBand.f]
  unfold szBd
  refine Ev.bind (szIntSS_ev rows a hr hrx h0 h1) ?_
  rcases szSS_tells rows a h0 h1 with hn | ⟨h2, h3, h4, h5⟩
  · rw [hn]; exact Ev.now _
  · have c2 : ¬ szSS rows a < 0 := by omega
    simp only [if_neg c2]
    refine Ev.bind (szObjectS_ev l _ h hx h2 (by omega)) ?_
    rcases szOS_tells l _ h2 (by omega) with hn | ⟨g2, g3, g4, g5⟩
    · rw [hn]; exact Ev.now _
    · exact Ev.ite (fun c => absurd c (by omega)) (fun _ => Ev.now _)
def tBox (b : S48) : S52 := ⟨b.f0, b.f1, b.f2, b.f3⟩
def tObj (o : S50) : S56 := ⟨o.f0.map tPoint, o.f1, tBox o.f2⟩
theorem toObject_ev (l : List S132) (g a b c d : Int) (hl : (l.length : Int) ≤ 1048576) : Ev (fun k => laws_toObject.f k l g a b c d) (l.map tPoint, g, a, b, c, d) := by
  simp only [laws_toObject.f, laws_toBox.f, Option.bind_some]
  exact Ev.bind (toPointS_ev l hl) (Ev.now _)
theorem toObjectS_ev (l : List S50) (h : (l.length : Int) ≤ 1048576) (hx : ∀ x ∈ l, (x.f0.length : Int) ≤ 1048576) : Ev (fun k => laws_toObjectS.f k l) (l.map tObj) := by
  have hm : l.length ≤ maxLen := by rw [maxLen_eq]; omega
  simp only [laws_toObjectS.f]
  refine Ev.ite (fun _ => Ev.ite (fun _ => ?_) (fun c => absurd (by omega) c)) (fun c => absurd (by omega) c)
  exact ev_fill l tObj (F := fun k s i => laws_toObjectS.l0 k l s i) (fun s => by
    simp only [laws_toObjectS.l0, end_lt, if_false]
    exact Ev.now _) (fun pre x rest s r e hs h => by
    have hxx := hx x (by rw [e]; simp)
    subst e
    simp only [laws_toObjectS.l0, hs, mid_lt, mid_nn, mid_wrap hm, if_true, rd_T50, Int.toNat_natCast, mid_get]
    exact Ev.bind (toObject_ev x.f0 _ _ _ _ _ hxx) h) _ (by simp)
theorem toBand_ev (p q : Int) (rows : List (List Int)) (l : List S50) (hr : (rows.length : Int) ≤ 1048576) (hrx : ∀ x ∈ rows, (x.length : Int) ≤ 1048576) (h : (l.length : Int) ≤ 1048576) (hx : ∀ x ∈ l, (x.f0.length : Int) ≤ 1048576) : Ev (fun k => laws_toBand.f k p q rows l) (p, q, rows, l.map tObj) := by
  simp only [laws_toBand.f]
  exact Ev.bind (toIntSS_ev rows hr hrx) (Ev.bind (toObjectS_ev l h hx) (Ev.now _))
theorem eqObjectS_ev (l : List S56) (hm : l.length ≤ maxLen) (hx : ∀ x ∈ l, x.f0.length ≤ maxLen) : Ev (fun k => laws_eqObjectS.f k l l) true := by
  simp only [laws_eqObjectS.f, if_true]
  refine ev_loop0 l (F := fun k i => laws_eqObjectS.l0 k l l i) (fun _ _ => true) ?_ (fun pre x rest e h => ?_)
  · simp only [laws_eqObjectS.l0, end_lt, if_false]; exact Ev.now _
  · have hxx := hx x (by rw [e]; simp)
    subst e
    simp only [laws_eqObjectS.l0, mid_lt, mid_nn, mid_wrap hm, if_true, rd_T56, Int.toNat_natCast, mid_get]
    exact Ev.bind (eqObject_ev x.f0 _ _ _ _ _ hxx) h
theorem eqBand_ev (p q : Int) (rows : List (List Int)) (l : List S56) (hr : rows.length ≤ maxLen) (hrx : ∀ x ∈ rows, x.length ≤ maxLen) (hm : l.length ≤ maxLen) (hx : ∀ x ∈ l, x.f0.length ≤ maxLen) : Ev (fun k => laws_eqBand.f k p q rows l p q rows l) true := by
  simp only [laws_eqBand.f, if_true]
  exact Ev.bind (eqIntSS_ev rows hr hrx) (Ev.bind (eqObjectS_ev l hm hx) (Ev.now _))
theorem map_tObj_len {l : List S50} (hx : ∀ x ∈ l, (x.f0.length : Int) ≤ 1048576) : ∀ x ∈ l.map tObj, x.f0.length ≤ maxLen := by
  intro x hx'
  obtain ⟨y, hy, rfl⟩ := List.mem_map.1 hx'
  have := hx y hy
  simp only [tObj, List.length_map, maxLen_eq]
  omega
end Go.Proofs.Ytcalgoembdmlkaa.Pure
namespace Go.Proofs.Ytcalgoembdmlkaa.Pure
open Go.RowKit Go.Proofs.Ytcalgoembdmlkaa.QFnExactBandCells Go.Proofs.YtcalgoembdmlkaaW.PrintWords Go.Proofs.YtcalgoembdmlkaaW.PrintLast Go.Proofs.Ytcalgoembdmlkaa.Plain

def cellsGo : List S56 → Int → Int
  | [], a => a
  | x :: r, a => cellsGo r (wrap64 (a + wrap64 (2 + (x.f0.length : Int))))
theorem wrap_assoc (a b : Int) : wrap64 (wrap64 (a + 2) + b) = wrap64 (a + wrap64 (2 + b)) := by unfold wrap64; omega
theorem objectsCells_ev (l : List S56) (hm : l.length ≤ maxLen) : Ev (fun k => impl_objectsCells.f k l) (cellsGo l 0) := by
  simp only [impl_objectsCells.f]
  refine ev_loop l (F := fun k s i => impl_objectsCells.l0 k s l l.length i) (fun _ _ _ => True) (fun _ r s => cellsGo r s) ?_ ?_ _ trivial
  · intro s _; simp only [impl_objectsCells.l0, end_lt, if_false]; exact Ev.now _
  · rintro pre x rest s e _ ih
    subst e
    simp only [impl_objectsCells.l0, mid_lt, mid_nn, mid_wrap hm, if_true, rd_T56, Int.toNat_natCast, mid_get]
    exact ih _ trivial
theorem iBandCells_ev (a b : Int) (rows : List (List Int)) (l : List S56) (hm : l.length ≤ maxLen) : Ev (fun k => impl_BandCells.f k a b rows l) (cellsGo l 0) := by
  simp only [impl_BandCells.f]
  exact Ev.bind (objectsCells_ev l hm) (Ev.now _)
theorem sBandCells_ev (a b : Int) (rows : List (List Int)) (l : List S56) (hm : l.length ≤ maxLen) : Ev (fun k => spec_BandCells.f k a b rows l) (cellsGo l 0) := by
  simp only [spec_BandCells.f]
  refine ev_loop l (F := fun k s i => spec_BandCells.l0 k s i a b rows l) (fun _ _ _ => True) (fun _ r s => cellsGo r s) ?_ ?_ _ trivial
  · intro s _; simp only [spec_BandCells.l0, end_lt, if_false]; exact Ev.now _
  · rintro pre x rest s e _ ih
    subst e
    simp only [spec_BandCells.l0, mid_lt, mid_nn, mid_wrap hm, if_true, rd_T56, Int.toNat_natCast, mid_get, wrap_assoc]
    exact ih _ trivial
end Go.Proofs.Ytcalgoembdmlkaa.Pure
namespace Go.Proofs.Ytcalgoembdmlkaa.Pure
open Go.RowKit Go.Proofs.Ytcalgoembdmlkaa.QFnExactBandCells Go.Proofs.YtcalgoembdmlkaaW.PrintWords Go.Proofs.YtcalgoembdmlkaaW.PrintLast Go.Proofs.Ytcalgoembdmlkaa.Plain

theorem FnExactBandCells (p q : Int) (rows : List (List Int)) (l : List S50) (h : ((Lit.int .i64 p).wf = true) ∧ ((Lit.int .i64 q).wf = true) ∧ (rows.length ≤ maxLen ∧ ∀ y ∈ rows, (y.length ≤ maxLen ∧ ∀ yy ∈ y, ((Lit.int .i64 yy).wf = true))) ∧ (l.length ≤ maxLen ∧ ∀ y ∈ l, ((y.f0.length ≤ maxLen ∧ ∀ yy ∈ y.f0, (((Lit.int .i64 yy.f0).wf = true) ∧ ((Lit.int .i64 yy.f1).wf = true))) ∧ ((Lit.int .i64 y.f1).wf = true) ∧ (((Lit.int .i64 y.f2.f0).wf = true) ∧ ((Lit.int .i64 y.f2.f1).wf = true) ∧ ((Lit.int .i64 y.f2.f2).wf = true) ∧ ((Lit.int .i64 y.f2.f3).wf = true))))) : ∃ k, laws_FnExactBandCells.f k p q rows l = some true := by
  obtain ⟨_, _, hr, h⟩ := h
  refine Ev.rounds (g := fun k => laws_FnExactBandCells.f k p q rows l) ?_
  simp only [laws_FnExactBandCells.f]
  refine Ev.bind (szBand_ev p q rows l 1048576 hr.1 (fun x hx => (hr.2 x hx).1) h.1 (fun x hx => (h.2 x hx).1.1) (by omega) (by omega)) (Ev.ite (fun _ => Ev.now _) (fun c => ?_))
  rcases szBd_tells rows l 1048576 (by omega) (by omega) with hn | ⟨_, _, ⟨hl, hlx⟩, ⟨ho, hox⟩⟩
  · omega
  have hm : (l.map tObj).length ≤ maxLen := by rw [maxLen_eq, List.length_map]; omega
  have hT := toBand_ev p q rows l hl hlx ho hox
  refine Ev.bind hT (Ev.bind (sBandCells_ev p q rows _ hm) (Ev.bind hT (Ev.bind (iBandCells_ev p q rows _ hm) (Ev.ite (fun _ => ?_) (fun c => absurd rfl c)))))
  exact Ev.bind hT (Ev.bind (eqBand_ev p q rows _ hr.1 (fun x hx => (hr.2 x hx).1) hm (map_tObj_len hox)) (Ev.now _))
end Go.Proofs.Ytcalgoembdmlkaa.Pure
