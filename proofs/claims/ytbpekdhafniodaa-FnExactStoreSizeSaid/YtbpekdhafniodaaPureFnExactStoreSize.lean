/- The plain law of FnExactStoreSize: over numbers and lists, what the printed functions answer, and that the law answers true. -/
import Derived.Test.YtbpekdhafniodaaQFnExactStoreSizex2
import Derived.Test.YtbpekdhafniodaaPlain
namespace Go.Proofs.Ytbpekdhafniodaa.Pure
open Go.RowKit Go.Proofs.Ytbpekdhafniodaa.QFnExactStoreSize Go.Proofs.YtbpekdhafniodaaW.PrintWords Go.Proofs.YtbpekdhafniodaaW.PrintLast Go.Proofs.Ytbpekdhafniodaa.Plain

theorem szIntS_eq (l : List Int) (a : Int) (h : l.length ≤ maxLen) (h0 : 0 ≤ a) (h1 : a ≤ 1048576) : laws_szIntS.f l a = some (szN l.length a) := by
  rw [maxLen_eq] at h
  unfold laws_szIntS.f szN
  rw [wrap_id (by omega) (by omega)]
  split <;> rfl
theorem szPacked_eq (b : Bool) (l : List Int) (a : Int) (h : l.length ≤ maxLen) (h0 : 0 ≤ a) (h1 : a ≤ 1048576) : laws_szPacked.f b l a = some (szN l.length a) := by
  unfold laws_szPacked.f
  rw [szIntS_eq l a h h0 h1]
  rcases szN_tells l.length a h0 with hn | ⟨h2, h3, h4⟩
  · rw [hn]; rfl
  · have c2 : ¬ szN l.length a < 0 := by omega
    simp [c2]
def szPS (l : List S76) (a : Int) : Int := if szN l.length a < 0 then -1 else szL (fun x a => szN x.f1.length a) l (szN l.length a)
theorem szPS_tells (l : List S76) (a : Int) (h0 : 0 ≤ a) (h1 : a ≤ 1048576) : szPS l a = -1 ∨ (0 ≤ szPS l a ∧ szPS l a ≤ a ∧ (l.length : Int) ≤ a ∧ ∀ x ∈ l, (x.f1.length : Int) ≤ 1048576) := by
  unfold szPS
  rcases szN_tells l.length a h0 with h | ⟨h2, h3, h4⟩
  · rw [h]; exact .inl rfl
  · rw [if_neg (by omega)]
    rcases szL_tells (f := fun (x : S76) a => szN x.f1.length a) (P := fun x => (x.f1.length : Int) ≤ 1048576) (fun x a h0 h1 => by rcases szN_tells x.f1.length a h0 with h | ⟨h5, h6, h7⟩; exact .inl h; exact .inr ⟨h5, h6, by omega⟩) l _ h2 (by omega) with h | ⟨h5, h6, h7⟩
    · exact .inl h
    · exact .inr ⟨h5, by omega, h4, h7⟩
theorem szPackedS_ev (l : List S76) (a : Int) (h : l.length ≤ maxLen) (hx : ∀ x ∈ l, x.f1.length ≤ maxLen) (h0 : 0 ≤ a) (h1 : a ≤ 1048576) : Ev (fun k => laws_szPackedS.f k l a) (szPS l a) := by
  have h' := h
  rw [maxLen_eq] at h'
  simp only [laws_szPackedS.f]
  rw [wrap_id (by omega) (by omega)]
  have hn : szN l.length a = if a - (l.length : Int) < 0 then -1 else a - (l.length : Int) := rfl
  unfold szPS
  rw [hn]
  by_cases c : a - (l.length : Int) < 0
  · simp only [if_pos c]; exact Ev.val rfl
  · simp only [if_neg c]
    refine ev_loop l (F := fun k s i => laws_szPackedS.l0 k l s i) (fun _ _ s => 0 ≤ s ∧ s ≤ 1048576) (fun _ r s => szL (fun x a => szN x.f1.length a) r s) ?_ ?_ (a - (l.length : Int)) ⟨by omega, by omega⟩
    · intro s _
      simp only [laws_szPackedS.l0, end_lt, if_false, szL]
      exact Ev.now _
    · rintro pre x rest s e ⟨hs0, hs1⟩ ih
      have hxx := hx x (by rw [e]; simp)
      subst e
      simp only [laws_szPackedS.l0, mid_lt, mid_nn, mid_wrap h, if_true, rd_T76, Int.toNat_natCast, mid_get, szPacked_eq _ x.f1 s hxx hs0 hs1, Option.bind_some, szL]
      rcases szN_tells x.f1.length s hs0 with hn | ⟨h2, h3, h4⟩
      · rw [hn]; exact Ev.now _
      · have c2 : ¬ szN x.f1.length s < 0 := by omega
        simp only [if_neg c2]
        exact ih _ ⟨h2, by omega⟩
theorem toIntS_ev (l : List Int) (h : (l.length : Int) ≤ 1048576) : Ev (fun k => laws_toIntS.f k l) l := by
  have hm : l.length ≤ maxLen := by rw [maxLen_eq]; omega
  simp only [laws_toIntS.f]
  refine Ev.ite (fun _ => Ev.ite (fun _ => ?_) (fun c => absurd (by omega) c)) (fun c => absurd (by omega) c)
  have := ev_fill l id (F := fun k s i => laws_toIntS.l0 k l s i) (fun s => by
    simp only [laws_toIntS.l0, end_lt, if_false]
    exact Ev.now _) (fun pre x rest s r e hs h => by
    subst e
    simp only [laws_toIntS.l0, hs, mid_lt, mid_nn, mid_wrap hm, if_true, rd, Int.toNat_natCast, mid_get]
    exact h) (List.replicate ((l.length : Int) : Int).toNat 0) (by simp)
  simpa using this
def tPacked (r : S76) : S77 := ⟨r.f0, r.f1⟩
theorem toPackedS_ev (l : List S76) (h : (l.length : Int) ≤ 1048576) (hx : ∀ x ∈ l, (x.f1.length : Int) ≤ 1048576) : Ev (fun k => laws_toPackedS.f k l) (l.map tPacked) := by
  have hm : l.length ≤ maxLen := by rw [maxLen_eq]; omega
  simp only [laws_toPackedS.f]
  refine Ev.ite (fun _ => Ev.ite (fun _ => ?_) (fun c => absurd (by omega) c)) (fun c => absurd (by omega) c)
  exact ev_fill l tPacked (F := fun k s i => laws_toPackedS.l0 k l s i) (fun s => by
    simp only [laws_toPackedS.l0, end_lt, if_false]
    exact Ev.now _) (fun pre x rest s r e hs h => by
    have hxx := hx x (by rw [e]; simp)
    subst e
    simp only [laws_toPackedS.l0, hs, mid_lt, mid_nn, mid_wrap hm, if_true, rd_T76, Int.toNat_natCast, mid_get, laws_toPacked.f]
    exact Ev.bind (Ev.bind (toIntS_ev x.f1 hxx) (Ev.now _)) h) _ (by simp)

theorem eqIntS_ev (l : List Int) (hm : l.length ≤ maxLen) : Ev (fun k => laws_eqIntS.f k l l) true := by
  simp only [laws_eqIntS.f, if_true]
  refine ev_loop0 l (F := fun k i => laws_eqIntS.l0 k l l i) (fun _ _ => true) ?_ (fun pre x rest e h => ?_)
  · simp only [laws_eqIntS.l0, end_lt, if_false]; exact Ev.now _
  · subst e
    simp only [laws_eqIntS.l0, mid_lt, mid_nn, mid_wrap hm, if_true]
    exact h
theorem eqPackedS_ev (l : List S77) (hm : l.length ≤ maxLen) (hx : ∀ x ∈ l, x.f1.length ≤ maxLen) : Ev (fun k => laws_eqPackedS.f k l l) true := by
  simp only [laws_eqPackedS.f, if_true]
  refine ev_loop0 l (F := fun k i => laws_eqPackedS.l0 k l l i) (fun _ _ => true) ?_ (fun pre x rest e h => ?_)
  · simp only [laws_eqPackedS.l0, end_lt, if_false]; exact Ev.now _
  · have hxx := hx x (by rw [e]; simp)
    subst e
    simp only [laws_eqPackedS.l0, mid_lt, mid_nn, mid_wrap hm, if_true, rd_T77, Int.toNat_natCast, mid_get, laws_eqPacked.f, bne_self_eq_false, Bool.false_eq_true, if_false]
    exact Ev.bind (Ev.bind (eqIntS_ev x.f1 hxx) (Ev.now _)) h
end Go.Proofs.Ytbpekdhafniodaa.Pure
namespace Go.Proofs.Ytbpekdhafniodaa.Pure
open Go.RowKit Go.Proofs.Ytbpekdhafniodaa.QFnExactStoreSize Go.Proofs.YtbpekdhafniodaaW.PrintWords Go.Proofs.YtbpekdhafniodaaW.PrintLast Go.Proofs.Ytbpekdhafniodaa.Plain

def coord (a : Int) : Bool := inB a (-200) 200
def boxOk (a b c d : Int) : Bool := coord a && (coord b && (coord c && (coord d && (decide (a ≤ c) && decide (b ≤ d)))))
def rowOk (l : List Int) : Bool := decide ((l.length : Int) = 32) && l.all fun v => inB v 0 255
def rowsOk (l : List (List Int)) : Bool := decide ((l.length : Int) ≤ 32) && l.all rowOk
def storeSize : List S77 → Int → Int
  | [], a => a
  | x :: r, a => storeSize r (wrap64 (a + wrap64 (1 + (x.f1.length : Int))))
theorem wrap_assoc (a b : Int) : wrap64 (wrap64 (a + 1) + b) = wrap64 (a + wrap64 (1 + b)) := by unfold wrap64; omega
theorem iStoreSize_ev (l : List S77) (hm : l.length ≤ maxLen) : Ev (fun k => impl_StoreSize.f k l) (storeSize l 0) := by
  simp only [impl_StoreSize.f]
  refine ev_loop l (F := fun k s i => impl_StoreSize.l0 k s l l.length i) (fun _ _ _ => True) (fun _ r s => storeSize r s) ?_ ?_ _ trivial
  · intro s _; simp only [impl_StoreSize.l0, end_lt, if_false]; exact Ev.now _
  · rintro pre x rest s e _ ih
    subst e
    simp only [impl_StoreSize.l0, mid_lt, mid_nn, mid_wrap hm, if_true, rd_T77, Int.toNat_natCast, mid_get]
    exact ih _ trivial
theorem sStoreSize_ev (l : List S77) (hm : l.length ≤ maxLen) : Ev (fun k => spec_StoreSize.f k l) (storeSize l 0) := by
  simp only [spec_StoreSize.f]
  refine ev_loop l (F := fun k s i => spec_StoreSize.l0 k l s i) (fun _ _ _ => True) (fun _ r s => storeSize r s) ?_ ?_ _ trivial
  · intro s _; simp only [spec_StoreSize.l0, end_lt, if_false]; exact Ev.now _
  · rintro pre x rest s e _ ih
    subst e
    simp only [spec_StoreSize.l0, mid_lt, mid_nn, mid_wrap hm, if_true, rd_T77, Int.toNat_natCast, mid_get, wrap_assoc]
    exact ih _ trivial

end Go.Proofs.Ytbpekdhafniodaa.Pure
namespace Go.Proofs.Ytbpekdhafniodaa.Pure
open Go.RowKit Go.Proofs.Ytbpekdhafniodaa.QFnExactStoreSize Go.Proofs.YtbpekdhafniodaaW.PrintWords Go.Proofs.YtbpekdhafniodaaW.PrintLast Go.Proofs.Ytbpekdhafniodaa.Plain

theorem FnExactStoreSize (l : List S76) (h : l.length ≤ maxLen ∧ ∀ y ∈ l, (True ∧ (y.f1.length ≤ maxLen ∧ ∀ yy ∈ y.f1, ((Lit.int .i64 yy).wf = true)))) : ∃ k, laws_FnExactStoreSize.f k l = some true := by
  refine Ev.rounds (g := fun k => laws_FnExactStoreSize.f k l) ?_
  simp only [laws_FnExactStoreSize.f]
  refine Ev.bind (szPackedS_ev l 1048576 h.1 (fun x hx => (h.2 x hx).2.1) (by omega) (by omega)) (Ev.ite (fun _ => Ev.now _) (fun c => ?_))
  rcases szPS_tells l 1048576 (by omega) (by omega) with hn | ⟨_, _, hl, hx⟩
  · omega
  have hm : (l.map tPacked).length ≤ maxLen := by rw [maxLen_eq, List.length_map]; omega
  have hxm : ∀ x ∈ l.map tPacked, x.f1.length ≤ maxLen := by
    intro x hx'
    obtain ⟨y, hy, rfl⟩ := List.mem_map.1 hx'
    exact (h.2 y hy).2.1
  refine Ev.bind (toPackedS_ev l hl hx) (Ev.bind (sStoreSize_ev _ hm) (Ev.bind (toPackedS_ev l hl hx) (Ev.bind (iStoreSize_ev _ hm) (Ev.ite (fun _ => ?_) (fun c => absurd rfl c)))))
  exact Ev.bind (toPackedS_ev l hl hx) (Ev.bind (eqPackedS_ev _ hm hxm) (Ev.now _))
end Go.Proofs.Ytbpekdhafniodaa.Pure
