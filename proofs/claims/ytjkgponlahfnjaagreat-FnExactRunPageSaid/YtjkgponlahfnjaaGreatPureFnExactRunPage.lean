/- The plain law: over numbers and lists, what the printed functions answer. -/
import Derived.Test.YtjkgponlahfnjaaGreatQFnExactRunPagex0
import Derived.Test.YtjkgponlahfnjaaGreatQFnExactRunPagex1
import Derived.Test.YtjkgponlahfnjaaGreatQFnExactRunPagex10
import Derived.Test.YtjkgponlahfnjaaGreatQFnExactRunPagex11
import Derived.Test.YtjkgponlahfnjaaGreatQFnExactRunPagex13
import Derived.Test.YtjkgponlahfnjaaGreatQFnExactRunPagex14
import Derived.Test.YtjkgponlahfnjaaGreatQFnExactRunPagex16
import Derived.Test.YtjkgponlahfnjaaGreatQFnExactRunPagex17
import Derived.Test.YtjkgponlahfnjaaGreatQFnExactRunPagex18
import Derived.Test.YtjkgponlahfnjaaGreatQFnExactRunPagex2
import Derived.Test.YtjkgponlahfnjaaGreatQFnExactRunPagex20
import Derived.Test.YtjkgponlahfnjaaGreatQFnExactRunPagex21
import Derived.Test.YtjkgponlahfnjaaGreatQFnExactRunPagex22
import Derived.Test.YtjkgponlahfnjaaGreatQFnExactRunPagex23
import Derived.Test.YtjkgponlahfnjaaGreatQFnExactRunPagex24
import Derived.Test.YtjkgponlahfnjaaGreatQFnExactRunPagex26
import Derived.Test.YtjkgponlahfnjaaGreatQFnExactRunPagex27
import Derived.Test.YtjkgponlahfnjaaGreatQFnExactRunPagex3
import Derived.Test.YtjkgponlahfnjaaGreatQFnExactRunPagex4
import Derived.Test.YtjkgponlahfnjaaGreatQFnExactRunPagex5
import Derived.Test.YtjkgponlahfnjaaGreatQFnExactRunPagex6
import Derived.Test.YtjkgponlahfnjaaGreatQFnExactRunPagex7
import Derived.Test.YtjkgponlahfnjaaGreatQFnExactRunPagex9
import Derived.Test.YtjkgponlahfnjaaGreatPlain
set_option linter.unusedSimpArgs false
set_option linter.unusedVariables false
namespace Go.Proofs.YtjkgponlahfnjaaGreat.Pure
open Go.RowKit Go.Proofs.YtjkgponlahfnjaaGreat.QFnExactRunPage Go.Proofs.YtjkgponlahfnjaaGreatW.PrintWords Go.Proofs.YtjkgponlahfnjaaGreatW.PrintLast Go.Proofs.YtjkgponlahfnjaaGreat.Plain
theorem eqIntS_ev (l : List Int) (hm : l.length ≤ maxLen) : Ev (fun k => laws_eqIntS.f k l l) true := by
  simp only [laws_eqIntS.f, if_true]
  refine ev_loop0 l (F := fun k i => laws_eqIntS.l0 k l l i) (fun _ _ => true) ?_ (fun pre x rest e h => ?_)
  · simp only [laws_eqIntS.l0, end_lt, if_false]; exact Ev.now _
  · subst e
    simp only [laws_eqIntS.l0, mid_lt, mid_nn, mid_wrap hm, if_true]
    exact h
theorem eqPointS_ev (l : List S111) (hm : l.length ≤ maxLen) : Ev (fun k => laws_eqPointS.f k l l) true := by
  simp only [laws_eqPointS.f, if_true]
  refine ev_loop0 l (F := fun k i => laws_eqPointS.l0 k l l i) (fun _ _ => true) ?_ (fun pre x rest e h => ?_)
  · simp only [laws_eqPointS.l0, end_lt, if_false]; exact Ev.now _
  · subst e
    simp only [laws_eqPointS.l0, mid_lt, mid_nn, mid_wrap hm, if_true, laws_eqPoint.f, Option.bind_some]
    exact h
theorem eqObject_ev (l : List S111) (b c d e f : Int) (hm : l.length ≤ maxLen) : Ev (fun k => laws_eqObject.f k l b c d e f l b c d e f) true := by
  simp only [laws_eqObject.f, laws_eqBox.f, if_true, Option.bind_some]
  exact Ev.bind (eqPointS_ev l hm) (Ev.now _)
theorem markIntS_ev (l : List Int) (a : Int) (hm : l.length ≤ maxLen) (h0 : 0 ≤ a) (h1 : a + l.length ≤ 9223372036854775806) : Ev (fun k => laws_markIntS.f k l a) (a + l.length, iota 1 id a l.length) := by
  simp only [laws_markIntS.f]
  refine ev_loop l (F := fun k (s : List Int × Int) i => laws_markIntS.l0 k s.1 s.2 i) (fun pre rest s => s.1 = iota 1 id a pre.length ++ rest ∧ s.2 = a + 1 * pre.length) (fun _ _ _ => (a + l.length, iota 1 id a l.length)) ?_ ?_ (l, a) ⟨rfl, by simp⟩
  · rintro ⟨s, b⟩ ⟨rfl, rfl⟩
    have hl : ((iota 1 id a l.length ++ ([] : List Int)).length : Int) = l.length := by simp [iota_length]
    simp only [laws_markIntS.l0, hl, end_lt, if_false]
    exact Ev.val (by simp)
  · rintro pre x rest ⟨s, b⟩ e ⟨rfl, rfl⟩ ih
    subst e
    have hl : ((iota 1 id a pre.length ++ x :: rest).length : Int) = ((pre ++ x :: rest).length : Int) := by simp [iota_length]
    have hlen := mid_len (pre := pre) (rest := rest) (x := x)
    have hs := iota_set 1 id a pre rest x
    have hw : wrap64 (a + 1 * (pre.length : Int) + 1) = a + 1 * ((pre ++ [x]).length : Int) := by rw [wrap_id (by omega) (by omega)]; simp; omega
    simp only [laws_markIntS.l0, hl, mid_lt, mid_nn, mid_wrap hm, if_true, Int.toNat_natCast, hw]
    exact ih (_, _) ⟨hs, rfl⟩
theorem heldIntS_ev (n : Nat) (a : Int) (h0 : 0 ≤ a) (h1 : a + n ≤ 9223372036854775806) : Ev (fun k => laws_heldIntS.f k (iota 1 id a n) a) (a + n) := by
  have hm : (iota 1 id a n).length ≤ maxLen := by rw [iota_length, maxLen_eq]; omega
  simp only [laws_heldIntS.f]
  refine ev_loop (iota 1 id a n) (F := fun k s i => laws_heldIntS.l0 k (iota 1 id a n) s i) (fun pre rest s => s = a + 1 * pre.length) (fun _ _ _ => a + n) ?_ ?_ a (by simp)
  · rintro s rfl
    simp only [laws_heldIntS.l0, end_lt, if_false]
    exact Ev.val (by rw [iota_length]; omega)
  · rintro pre x rest s e rfl ih
    have hx := iota_mid 1 id pre rest x a n e
    have hn := congrArg List.length e
    rw [iota_length] at hn
    have hlen := mid_len (pre := pre) (rest := rest) (x := x)
    rw [e] at hm ⊢
    rw [e] at ih
    have hw : wrap64 (a + 1 * (pre.length : Int) + 1) = a + 1 * ((pre ++ [x]).length : Int) := by rw [wrap_id (by omega) (by omega)]; simp; omega
    have hx' : x = a + 1 * (pre.length : Int) := hx
    simp only [laws_heldIntS.l0, mid_lt, mid_nn, mid_wrap hm, if_true, rd, Int.toNat_natCast, mid_get, if_pos hx', hw]
    exact ih _ rfl
end Go.Proofs.YtjkgponlahfnjaaGreat.Pure
namespace Go.Proofs.YtjkgponlahfnjaaGreat.Pure
open Go.RowKit Go.Proofs.YtjkgponlahfnjaaGreat.QFnExactRunPage Go.Proofs.YtjkgponlahfnjaaGreatW.PrintWords Go.Proofs.YtjkgponlahfnjaaGreatW.PrintLast Go.Proofs.YtjkgponlahfnjaaGreat.Plain
theorem eqObjectS_ev (l : List S103) (hm : l.length ≤ maxLen) (hx : ∀ x ∈ l, x.f0.length ≤ maxLen) : Ev (fun k => laws_eqObjectS.f k l l) true := by
  simp only [laws_eqObjectS.f, if_true]
  refine ev_loop0 l (F := fun k i => laws_eqObjectS.l0 k l l i) (fun _ _ => true) ?_ (fun pre x rest e h => ?_)
  · simp only [laws_eqObjectS.l0, end_lt, if_false]; exact Ev.now _
  · have hxx := hx x (by rw [e]; simp)
    subst e
    simp only [laws_eqObjectS.l0, mid_lt, mid_nn, mid_wrap hm, if_true, rd_T103, Int.toNat_natCast, mid_get]
    exact Ev.bind (eqObject_ev x.f0 _ _ _ _ _ hxx) h
end Go.Proofs.YtjkgponlahfnjaaGreat.Pure
namespace Go.Proofs.YtjkgponlahfnjaaGreat.Pure
open Go.RowKit Go.Proofs.YtjkgponlahfnjaaGreat.QFnExactRunPage Go.Proofs.YtjkgponlahfnjaaGreatW.PrintWords Go.Proofs.YtjkgponlahfnjaaGreatW.PrintLast Go.Proofs.YtjkgponlahfnjaaGreat.Plain
def mkPoint (a : Int) : S111 := ⟨a, a + 1⟩
theorem markPointS_ev (l : List S111) (a : Int) (hm : l.length ≤ maxLen) (h0 : 0 ≤ a) (h1 : a + 2 * l.length ≤ 9223372036854775806) : Ev (fun k => laws_markPointS.f k l a) (a + 2 * l.length, iota 2 mkPoint a l.length) := by
  simp only [laws_markPointS.f]
  refine ev_loop l (F := fun k (s : List S111 × Int) i => laws_markPointS.l0 k s.1 s.2 i) (fun pre rest s => s.1 = iota 2 mkPoint a pre.length ++ rest ∧ s.2 = a + 2 * pre.length) (fun _ _ _ => (a + 2 * l.length, iota 2 mkPoint a l.length)) ?_ ?_ (l, a) ⟨rfl, by simp⟩
  · rintro ⟨s, b⟩ ⟨rfl, rfl⟩
    have hl : ((iota 2 mkPoint a l.length ++ ([] : List S111)).length : Int) = l.length := by simp [iota_length]
    simp only [laws_markPointS.l0, hl, end_lt, if_false]
    exact Ev.val (by simp)
  · rintro pre x rest ⟨s, b⟩ e ⟨rfl, rfl⟩ ih
    subst e
    have hl : ((iota 2 mkPoint a pre.length ++ x :: rest).length : Int) = ((pre ++ x :: rest).length : Int) := by simp [iota_length]
    have hlen := mid_len (pre := pre) (rest := rest) (x := x)
    have hs := iota_set 2 mkPoint a pre rest x
    have hw1 : wrap64 (a + 2 * (pre.length : Int) + 1) = a + 2 * (pre.length : Int) + 1 := wrap_id (by omega) (by omega)
    have hw : wrap64 (a + 2 * (pre.length : Int) + 1 + 1) = a + 2 * ((pre ++ [x]).length : Int) := by rw [wrap_id (by omega) (by omega)]; simp; omega
    have hg : ∀ y : S111, ((iota 2 mkPoint a pre.length ++ x :: rest).set pre.length y).getD pre.length z111 = y := by
      intro y
      rw [List.getD_eq_getElem?_getD, List.getElem?_set_self (by have := hl; omega)]
      rfl
    simp only [laws_markPointS.l0, hl, mid_lt, mid_nn, mid_wrap hm, if_true, Int.toNat_natCast, Option.bind_some, hw1, hw, rd_T111, hg, List.set_set]
    exact ih (_, _) ⟨hs, rfl⟩
theorem heldPointS_ev (n : Nat) (a : Int) (h0 : 0 ≤ a) (h1 : a + 2 * n ≤ 9223372036854775806) : Ev (fun k => laws_heldPointS.f k (iota 2 mkPoint a n) a) (a + 2 * n) := by
  have hm : (iota 2 mkPoint a n).length ≤ maxLen := by rw [iota_length, maxLen_eq]; omega
  simp only [laws_heldPointS.f]
  refine ev_loop (iota 2 mkPoint a n) (F := fun k s i => laws_heldPointS.l0 k (iota 2 mkPoint a n) s i) (fun pre rest s => s = a + 2 * pre.length) (fun _ _ _ => a + 2 * n) ?_ ?_ a (by simp)
  · rintro s rfl
    simp only [laws_heldPointS.l0, end_lt, if_false]
    exact Ev.val (by rw [iota_length])
  · rintro pre x rest s e rfl ih
    have hx := iota_mid 2 mkPoint pre rest x a n e
    have hn := congrArg List.length e
    rw [iota_length] at hn
    have hlen := mid_len (pre := pre) (rest := rest) (x := x)
    rw [e] at hm ⊢
    rw [e] at ih
    have hw1 : wrap64 (a + 2 * (pre.length : Int) + 1) = a + 2 * (pre.length : Int) + 1 := wrap_id (by omega) (by omega)
    have hw : wrap64 (a + 2 * (pre.length : Int) + 1 + 1) = a + 2 * ((pre ++ [x]).length : Int) := by rw [wrap_id (by omega) (by omega)]; simp; omega
    have e0 : x.f0 = a + 2 * (pre.length : Int) := by rw [hx]; rfl
    have e1 : x.f1 = a + 2 * (pre.length : Int) + 1 := by rw [hx]; rfl
    simp only [laws_heldPointS.l0, mid_lt, mid_nn, mid_wrap hm, if_true, rd_T111, Int.toNat_natCast, mid_get, e0, e1, hw1, hw]
    exact ih _ rfl
end Go.Proofs.YtjkgponlahfnjaaGreat.Pure
namespace Go.Proofs.YtjkgponlahfnjaaGreat.Pure
open Go.RowKit Go.Proofs.YtjkgponlahfnjaaGreat.QFnExactRunPage Go.Proofs.YtjkgponlahfnjaaGreatW.PrintWords Go.Proofs.YtjkgponlahfnjaaGreatW.PrintLast Go.Proofs.YtjkgponlahfnjaaGreat.Plain
section
variable {α : Type} (mk : Int → α → α) (ln : α → Int)
def mkAll : Int → List α → List α
  | _, [] => []
  | a, x :: r => mk a x :: mkAll (a + ln x) r
def lnAll : List α → Int
  | [] => 0
  | x :: r => ln x + lnAll r
theorem mkAll_length : ∀ (a : Int) (l : List α), (mkAll mk ln a l).length = l.length
  | _, [] => rfl
  | a, x :: r => by simp [mkAll, mkAll_length (a + ln x) r]
theorem lnAll_nn : ∀ l : List α, (∀ x ∈ l, 0 ≤ ln x) → 0 ≤ lnAll ln l
  | [], _ => Int.le_refl _
  | x :: r, h => by
    have h1 := h x (by simp)
    have h2 := lnAll_nn r (fun y hy => h y (by simp [hy]))
    unfold lnAll; omega
theorem lnAll_le : ∀ l : List α, (∀ x ∈ l, ln x ≤ 4194304) → lnAll ln l ≤ 4194304 * l.length
  | [], _ => by simp [lnAll]
  | x :: r, h => by
    have h1 := h x (by simp)
    have h2 := lnAll_le r (fun y hy => h y (by simp [hy]))
    unfold lnAll; rw [List.length_cons]; omega
theorem ev_mark (xs : List α) {F : Nat → List α → Int → Int → Option (Int × List α)} (a : Int) (hn : ∀ x ∈ xs, 0 ≤ ln x)
    (hnil : ∀ s b, s.length = xs.length → Ev (fun k => F (k + 1) s b (xs.length : Int)) (b, s))
    (hcons : ∀ (done : List α) x rest b, done.length + (rest.length + 1) = xs.length → x ∈ xs → a ≤ b → b + ln x ≤ a + lnAll ln xs → ∀ r, Ev (fun k => F k (done ++ mk b x :: rest) (b + ln x) ((done.length : Int) + 1)) r → Ev (fun k => F (k + 1) (done ++ x :: rest) b (done.length : Int)) r) :
    Ev (fun k => F k xs a 0) (a + lnAll ln xs, mkAll mk ln a xs) := by
  have main : ∀ (rest done : List α) (b : Int), done.length + rest.length = xs.length → (∀ x ∈ rest, x ∈ xs) → a ≤ b → b + lnAll ln rest = a + lnAll ln xs → Ev (fun k => F k (done ++ rest) b (done.length : Int)) (a + lnAll ln xs, done ++ mkAll mk ln b rest) := by
    intro rest
    induction rest with
    | nil =>
      intro done b hl _ _ hb
      have h := hnil (done ++ []) b (by simpa using hl)
      have e : (done.length : Int) = xs.length := by simp at hl; omega
      have e2 : b = a + lnAll ln xs := by simpa [lnAll] using hb
      rw [e, ← e2]
      simpa [mkAll] using Ev.up (g := fun k => F k (done ++ []) b (xs.length : Int)) h
    | cons x rest ih =>
      intro done b hl hm hab hb
      have hx := hm x (by simp)
      have h0 := hn x hx
      have h1 := lnAll_nn ln rest (fun y hy => hn y (hm y (by simp [hy])))
      have hb' : ln x + lnAll ln rest + b = a + lnAll ln xs := by simp only [lnAll] at hb; omega
      refine Ev.up (hcons done x rest b (by simpa using hl) hx hab (by omega) _ ?_)
      have h := ih (done ++ [mk b x]) (b + ln x) (by simp at hl ⊢; omega) (fun y hy => hm y (by simp [hy])) (by omega) (by omega)
      have e : ((done ++ [mk b x]).length : Int) = (done.length : Int) + 1 := by simp
      rw [e] at h
      simpa [mkAll] using h
  simpa using main xs [] a (by simp) (fun _ h => h) (Int.le_refl _) rfl
theorem ev_held (xs : List α) {F : Nat → Int → Int → Option Int} (a : Int) (hn : ∀ x ∈ xs, 0 ≤ ln x)
    (hnil : ∀ b, Ev (fun k => F (k + 1) b ((mkAll mk ln a xs).length : Int)) b)
    (hcons : ∀ pre x rest b, mkAll mk ln a xs = pre ++ mk b x :: rest → x ∈ xs → a ≤ b → b + ln x ≤ a + lnAll ln xs → ∀ r, Ev (fun k => F k (b + ln x) ((pre.length : Int) + 1)) r → Ev (fun k => F (k + 1) b (pre.length : Int)) r) :
    Ev (fun k => F k a 0) (a + lnAll ln xs) := by
  have main : ∀ (rest : List α) (pre : List α) (b : Int), mkAll mk ln a xs = pre ++ mkAll mk ln b rest → (∀ x ∈ rest, x ∈ xs) → a ≤ b → b + lnAll ln rest = a + lnAll ln xs → Ev (fun k => F k b (pre.length : Int)) (a + lnAll ln xs) := by
    intro rest
    induction rest with
    | nil =>
      intro pre b he _ _ hb
      have e : mkAll mk ln a xs = pre := by simpa [mkAll] using he
      have e2 : b = a + lnAll ln xs := by simpa [lnAll] using hb
      have h := hnil b
      rw [e] at h
      rw [← e2]
      exact Ev.up h
    | cons x rest ih =>
      intro pre b he hm hab hb
      have hx := hm x (by simp)
      have h0 := hn x hx
      have h1 := lnAll_nn ln rest (fun y hy => hn y (hm y (by simp [hy])))
      have hb' : ln x + lnAll ln rest + b = a + lnAll ln xs := by simp only [lnAll] at hb; omega
      refine Ev.up (hcons pre x (mkAll mk ln (b + ln x) rest) b he hx hab (by omega) _ ?_)
      have h := ih (pre ++ [mk b x]) (b + ln x) (by rw [he]; simp [mkAll]) (fun y hy => hm y (by simp [hy])) (by omega) (by omega)
      have e : ((pre ++ [mk b x]).length : Int) = (pre.length : Int) + 1 := by simp
      rw [e] at h
      exact h
  simpa using main xs [] a rfl (fun _ h => h) (Int.le_refl _) rfl
end
theorem set_mid {α : Type} (done rest : List α) (x y : α) : (done ++ x :: rest).set done.length y = done ++ y :: rest := by
  rw [List.set_append_right _ _ (Nat.le_refl _), Nat.sub_self]; rfl
theorem mid_lt2 {α : Type} (done rest : List α) (x : α) : ((done.length : Int) < ((done ++ x :: rest).length : Int)) = True := mid_lt
theorem mid_w2 {n : Nat} (h : n + 1 ≤ maxLen) : wrap64 ((n : Int) + 1) = (n : Int) + 1 := by rw [maxLen_eq] at h; exact wrap_id (by omega) (by omega)
def mkOb (b : Int) (x : S103) : S103 := ⟨iota 2 mkPoint b x.f0.length, b + 2 * x.f0.length, ⟨b + 2 * x.f0.length + 1, b + 2 * x.f0.length + 2, b + 2 * x.f0.length + 3, b + 2 * x.f0.length + 4⟩⟩
def lnOb (x : S103) : Int := 2 * x.f0.length + 5
theorem markObjectS_ev (l : List S103) (a : Int) (hm : l.length ≤ maxLen) (hx : ∀ x ∈ l, x.f0.length ≤ maxLen) (h0 : 0 ≤ a) (h1 : a + lnAll lnOb l ≤ 9223372036854775806) : Ev (fun k => laws_markObjectS.f k l a) (a + lnAll lnOb l, mkAll mkOb lnOb a l) := by
  simp only [laws_markObjectS.f]
  refine ev_mark mkOb lnOb l a (fun x _ => by unfold lnOb; omega) (fun s b hs => ?_) (fun done x rest b hl hxm hab hbl r ih => ?_)
  · simp only [laws_markObjectS.l0, hs, end_lt, if_false]; exact Ev.now _
  · rw [show lnOb x = 2 * (x.f0.length : Int) + 5 from rfl] at hbl
    simp only [laws_markObjectS.l0, mid_lt2, mid_nn, if_true, Int.toNat_natCast, mid_get, mid_w2 (show done.length + 1 ≤ maxLen by omega)]
    refine Ev.bind (markPointS_ev x.f0 b (hx x hxm) (by omega) (by omega)) ?_
    have w1 : wrap64 (b + 2 * (x.f0.length : Int) + 1) = b + 2 * x.f0.length + 1 := wrap_id (by omega) (by omega)
    have w2 : wrap64 (b + 2 * (x.f0.length : Int) + 1 + 1) = b + 2 * x.f0.length + 2 := by rw [wrap_id (by omega) (by omega)]; omega
    have w3 : wrap64 (b + 2 * (x.f0.length : Int) + 2 + 1) = b + 2 * x.f0.length + 3 := by rw [wrap_id (by omega) (by omega)]; omega
    have w4 : wrap64 (b + 2 * (x.f0.length : Int) + 3 + 1) = b + 2 * x.f0.length + 4 := by rw [wrap_id (by omega) (by omega)]; omega
    have w5 : wrap64 (b + 2 * (x.f0.length : Int) + 4 + 1) = b + lnOb x := by rw [wrap_id (by omega) (by omega)]; unfold lnOb; omega
    simp only [set_mid, w1, w2, w3, w4, w5]
    exact ih
theorem heldObjectS_ev (l : List S103) (a : Int) (hm : l.length ≤ maxLen) (h0 : 0 ≤ a) (h1 : a + lnAll lnOb l ≤ 9223372036854775806) : Ev (fun k => laws_heldObjectS.f k (mkAll mkOb lnOb a l) a) (a + lnAll lnOb l) := by
  simp only [laws_heldObjectS.f]
  refine ev_held mkOb lnOb l (F := fun k b i => laws_heldObjectS.l0 k (mkAll mkOb lnOb a l) b i) a (fun x _ => by unfold lnOb; omega) (fun b => ?_) (fun pre x rest b he hxm hab hbl r ih => ?_)
  · simp only [laws_heldObjectS.l0, end_lt, if_false]; exact Ev.now _
  · have hn := congrArg List.length he
    rw [mkAll_length, List.length_append, List.length_cons] at hn
    rw [show lnOb x = 2 * (x.f0.length : Int) + 5 from rfl] at hbl
    rw [he] at ih ⊢
    simp only [laws_heldObjectS.l0, mid_lt2, mid_nn, if_true, rd_T103, Int.toNat_natCast, mid_get, mid_w2 (show pre.length + 1 ≤ maxLen by omega), mkOb]
    refine Ev.bind (heldPointS_ev x.f0.length b (by omega) (by omega)) ?_
    have w1 : wrap64 (b + 2 * (x.f0.length : Int) + 1) = b + 2 * x.f0.length + 1 := wrap_id (by omega) (by omega)
    have w2 : wrap64 (b + 2 * (x.f0.length : Int) + 1 + 1) = b + 2 * x.f0.length + 2 := by rw [wrap_id (by omega) (by omega)]; omega
    have w3 : wrap64 (b + 2 * (x.f0.length : Int) + 2 + 1) = b + 2 * x.f0.length + 3 := by rw [wrap_id (by omega) (by omega)]; omega
    have w4 : wrap64 (b + 2 * (x.f0.length : Int) + 3 + 1) = b + 2 * x.f0.length + 4 := by rw [wrap_id (by omega) (by omega)]; omega
    have w5 : wrap64 (b + 2 * (x.f0.length : Int) + 4 + 1) = b + lnOb x := by rw [wrap_id (by omega) (by omega)]; unfold lnOb; omega
    simp only [if_neg (show ¬ b + 2 * (x.f0.length : Int) < 0 by omega), if_true, w1, w2, w3, w4, w5]
    exact ih
end Go.Proofs.YtjkgponlahfnjaaGreat.Pure
namespace Go.Proofs.YtjkgponlahfnjaaGreat.Pure
open Go.RowKit Go.Proofs.YtjkgponlahfnjaaGreat.QFnExactRunPage Go.Proofs.YtjkgponlahfnjaaGreatW.PrintWords Go.Proofs.YtjkgponlahfnjaaGreatW.PrintLast Go.Proofs.YtjkgponlahfnjaaGreat.Plain
theorem within_eq (a b c : Int) : impl_within.f a b c = some (inB a b c) := by unfold impl_within.f inB; by_cases h : b ≤ a <;> simp [h]
theorem l01In_eq (a b c : Int) : spec_l01In.f a b c = some (inB a b c) := by unfold spec_l01In.f inB; by_cases h : b ≤ a <;> simp [h]
def coord (a : Int) : Bool := inB a (-200) 200
def boxOk (a b c d : Int) : Bool := coord a && (coord b && (coord c && (coord d && (decide (a ≤ c) && decide (b ≤ d)))))
theorem coordOk_eq (a : Int) : impl_coordOk.f a = some (coord a) := by unfold impl_coordOk.f; rw [within_eq]; rfl
theorem l02In_eq (a : Int) : spec_l02In.f a = some (coord a) := by unfold spec_l02In.f; rw [l01In_eq]; rfl
theorem iPointOk_eq (a b : Int) : impl_PointOk.f a b = some (coord a && coord b) := by unfold impl_PointOk.f; simp only [coordOk_eq, Option.bind_some, and_some]
theorem sPointOk_eq (a b : Int) : spec_PointOk.f a b = some (coord a && coord b) := by unfold spec_PointOk.f; simp only [l02In_eq, Option.bind_some, and_some]
theorem iBoxOk_eq (a b c d : Int) : impl_BoxOk.f a b c d = some (boxOk a b c d) := by unfold impl_BoxOk.f boxOk; simp only [coordOk_eq, Option.bind_some, and_some_p (a ≤ c), and_some]
theorem sBoxOk_eq (a b c d : Int) : spec_BoxOk.f a b c d = some (boxOk a b c d) := by unfold spec_BoxOk.f boxOk; simp only [l02In_eq, Option.bind_some, and_some_p (a ≤ c), and_some]
def ptsOk (l : List S111) : Bool := l.all fun p => coord p.f0 && coord p.f1
theorem pointsOk_ev (l : List S111) (hm : l.length ≤ maxLen) : Ev (fun k => impl_pointsOk.f k l) (ptsOk l) := by
  simp only [impl_pointsOk.f]
  refine ev_loop0 l (F := fun k i => impl_pointsOk.l0 k l l.length i) (fun _ r => ptsOk r) ?_ (fun pre x rest e h => ?_)
  · simp only [impl_pointsOk.l0, end_lt, if_false]; exact Ev.now _
  · subst e
    simp only [impl_pointsOk.l0, mid_lt, mid_nn, mid_wrap hm, if_true, rd_T111, Int.toNat_natCast, mid_get, iPointOk_eq, Option.bind_some]
    exact Ev.andB (fun _ => h)
theorem l07Points_ev (l : List S111) (hm : l.length ≤ maxLen) : Ev (fun k => spec_l07Points.f k l) (ptsOk l && decide ((l.length : Int) ≤ 8)) := by
  simp only [spec_l07Points.f]
  refine ev_loop0 l (F := fun k i => spec_l07Points.l0 k l i) (fun _ r => ptsOk r && decide ((l.length : Int) ≤ 8)) ?_ (fun pre x rest e h => ?_)
  · simp only [spec_l07Points.l0, end_lt, if_false]; exact Ev.now _
  · have : ptsOk (x :: rest) = ((coord x.f0 && coord x.f1) && ptsOk rest) := rfl
    rw [this, Bool.and_assoc]
    subst e
    simp only [spec_l07Points.l0, mid_lt, mid_nn, mid_wrap hm, if_true, rd_T111, Int.toNat_natCast, mid_get, sPointOk_eq, Option.bind_some]
    exact Ev.andB (fun _ => h)
def objOk (l : List S111) (g a b c d : Int) : Bool := decide (3 ≤ (l.length : Int)) && (decide ((l.length : Int) ≤ 8) && (ptsOk l && (inB g 0 255 && boxOk a b c d)))
theorem iObjectOk_ev (l : List S111) (g a b c d : Int) (hm : l.length ≤ maxLen) : Ev (fun k => impl_ObjectOk.f k l g a b c d) (objOk l g a b c d) := by
  simp only [impl_ObjectOk.f, within_eq, iBoxOk_eq, Option.bind_some, and_some]
  unfold objOk
  rw [← Bool.and_assoc]
  exact Ev.andB (fun _ => Ev.bind (pointsOk_ev l hm) (Ev.now _))
theorem l07Object_ev (l : List S111) (g a b c d : Int) (hm : l.length ≤ maxLen) : Ev (fun k => spec_l07Object.f k l g a b c d) (objOk l g a b c d) := by
  simp only [spec_l07Object.f, l01In_eq, sBoxOk_eq, Option.bind_some, and_some]
  unfold objOk
  refine Ev.andP (fun _ => ?_)
  have : (decide ((l.length : Int) ≤ 8) && (ptsOk l && (inB g 0 255 && boxOk a b c d))) = ((ptsOk l && decide ((l.length : Int) ≤ 8)) && (inB g 0 255 && boxOk a b c d)) := by
    cases decide ((l.length : Int) ≤ 8) <;> cases ptsOk l <;> rfl
  rw [this]
  exact Ev.bind (l07Points_ev l hm) (Ev.now _)
end Go.Proofs.YtjkgponlahfnjaaGreat.Pure
namespace Go.Proofs.YtjkgponlahfnjaaGreat.Pure
open Go.RowKit Go.Proofs.YtjkgponlahfnjaaGreat.QFnExactRunPage Go.Proofs.YtjkgponlahfnjaaGreatW.PrintWords Go.Proofs.YtjkgponlahfnjaaGreatW.PrintLast Go.Proofs.YtjkgponlahfnjaaGreat.Plain
abbrev BoxT := Int × Int × Int × Int
theorem mx_self (a : Int) : mx a a = a := by unfold mx; split <;> rfl
theorem mn_self (a : Int) : mn a a = a := by unfold mn; split <;> rfl
def meet (p q : BoxT) : BoxT := if boxOk p.1 p.2.1 p.2.2.1 p.2.2.2 = true ∧ boxOk q.1 q.2.1 q.2.2.1 q.2.2.2 = true ∧ mx p.1 q.1 < mn p.2.2.1 q.2.2.1 ∧ mx p.2.1 q.2.1 < mn p.2.2.2 q.2.2.2 then (mx p.1 q.1, mx p.2.1 q.2.1, mn p.2.2.1 q.2.2.1, mn p.2.2.2 q.2.2.2) else (0, 0, 0, 0)
theorem sMeetBox_eq (a b c d e f g h : Int) : spec_MeetBox.f a b c d e f g h = some (meet (a, b, c, d) (e, f, g, h)) := by
  unfold spec_MeetBox.f meet
  simp only [sBoxOk_eq, Option.bind_some]
  by_cases c1 : boxOk a b c d = true
  · by_cases c2 : boxOk e f g h = true
    · by_cases c3 : mx a e ≥ mn c g
      · have n3 : ¬ mx a e < mn c g := by omega
        simp [c1, c2, c3, n3]
      · have n3 : mx a e < mn c g := by omega
        by_cases c4 : mx b f ≥ mn d h
        · have n4 : ¬ mx b f < mn d h := by omega
          simp [c1, c2, c4, n4]
        · have n4 : mx b f < mn d h := by omega
          simp [c1, c2, n3, n4, c3, c4]
    · simp [c1, c2]
  · simp [c1]
theorem iMeetBox_j0 (k : Nat) (z : Bool) (a b c d e f g h : Int) : impl_MeetBox.j0 (k + 1) z a b c d e f g h = some (if z = false ∧ mx a e < mn c g ∧ mx b f < mn d h then (mx a e, mx b f, mn c g, mn d h) else (0, 0, 0, 0)) := by
  simp only [impl_MeetBox.j0]
  cases z
  · by_cases c3 : mx a e < mn c g
    · have n3 : ¬ mx a e ≥ mn c g := by omega
      by_cases c4 : mx b f < mn d h
      · have n4 : ¬ mx b f ≥ mn d h := by omega
        simp only [Bool.false_eq_true, if_false, if_neg n3, if_neg n4]
        rw [if_pos ⟨trivial, c3, c4⟩]
      · have n4 : mx b f ≥ mn d h := by omega
        simp only [Bool.false_eq_true, if_false, if_neg n3, if_pos n4]
        rw [if_neg (fun q => c4 q.2.2)]
    · have n3 : mx a e ≥ mn c g := by omega
      simp only [Bool.false_eq_true, if_false, if_pos n3]
      rw [if_neg (fun q => c3 q.2.1)]
  · simp
theorem iMeetBox_ev (a b c d e f g h : Int) : Ev (fun k => impl_MeetBox.f k a b c d e f g h) (meet (a, b, c, d) (e, f, g, h)) := by
  simp only [impl_MeetBox.f, iBoxOk_eq, Option.bind_some]
  unfold meet
  by_cases c1 : boxOk a b c d = true
  · simp only [if_pos c1]
    refine Ev.up ?_
    simp only [iMeetBox_j0]
    refine Ev.val ?_
    by_cases c2 : boxOk e f g h = true
    · simp [c1, c2]
    · simp [c1, c2]
  · simp only [if_neg c1]
    refine Ev.up ?_
    simp only [iMeetBox_j0]
    exact Ev.val (by simp [c1])
def boxFrom : List S111 → BoxT → BoxT
  | [], b => b
  | x :: r, b => boxFrom r (mn b.1 x.f0, mn b.2.1 x.f1, mx b.2.2.1 x.f0, mx b.2.2.2 x.f1)
def boxOf (l : List S111) : BoxT :=
  match l with
  | [] => (0, 0, 0, 0)
  | x :: r => if ptsOk (x :: r) = true then boxFrom r (x.f0, x.f1, x.f0, x.f1) else (0, 0, 0, 0)
theorem iBoxOf_ev (l : List S111) (hm : l.length ≤ maxLen) : Ev (fun k => impl_BoxOf.f k l) (boxOf l) := by
  simp only [impl_BoxOf.f]
  match l, hm with
  | [], hm =>
    simp only [List.length_nil, Int.ofNat_zero, if_true]
    exact Ev.up (by simp only [impl_BoxOf.j0, if_true]; exact Ev.now _)
  | x :: r, hm =>
    have hne : ¬ ((x :: r).length : Int) = 0 := by rw [List.length_cons]; omega
    have hpos : (0 : Int) < ((x :: r).length : Int) := by rw [List.length_cons]; omega
    simp only [if_neg hne]
    refine Ev.bind (pointsOk_ev _ hm) (Ev.up ?_)
    unfold boxOf
    by_cases c : ptsOk (x :: r) = true
    · have hx : rd_T111 (x :: r) 0 = x := rfl
      simp only [c, Bool.not_true, impl_BoxOf.j0, Bool.false_eq_true, if_false, if_pos hpos, hx, if_true]
      have hb : boxFrom r (x.f0, x.f1, x.f0, x.f1) = boxFrom (x :: r) (x.f0, x.f1, x.f0, x.f1) := by simp only [boxFrom, mn_self, mx_self]
      rw [hb]
      generalize hq : x :: r = q at *
      refine ev_loop q (F := fun k (s : BoxT) i => impl_BoxOf.l0 k q q.length i s.1 s.2.1 s.2.2.1 s.2.2.2) (fun _ _ _ => True) (fun _ r s => boxFrom r s) ?_ ?_ (x.f0, x.f1, x.f0, x.f1) trivial
      · intro s _; simp only [impl_BoxOf.l0, end_lt, if_false]; exact Ev.now _
      · rintro pre y rest s e _ ih
        clear hq
        subst e
        simp only [impl_BoxOf.l0, mid_lt, mid_nn, mid_wrap hm, if_true, rd_T111, Int.toNat_natCast, mid_get]
        exact ih (mn s.1 y.f0, mn s.2.1 y.f1, mx s.2.2.1 y.f0, mx s.2.2.2 y.f1) trivial
    · have c' : ptsOk (x :: r) = false := by simpa using c
      simp only [c', Bool.not_false, impl_BoxOf.j0, if_true, Bool.false_eq_true, if_false]; exact Ev.now _
theorem sBoxOf_ev (l : List S111) (hm : l.length ≤ maxLen) : Ev (fun k => spec_BoxOf.f k l) (boxOf l) := by
  simp only [spec_BoxOf.f]
  have hg : boxOf l = if ptsOk l = true then (if ([] : List S111) = [] then boxOf l else boxFrom l (0, 0, 0, 0)) else (0, 0, 0, 0) := by
    match l with
    | [] => simp [boxOf]
    | x :: r => unfold boxOf; by_cases c : ptsOk (x :: r) = true <;> simp [c]
  rw [hg]
  refine ev_loop l (F := fun k (s : BoxT) i => spec_BoxOf.l0 k l i s.1 s.2.1 s.2.2.1 s.2.2.2) (fun p _ s => p = [] → s = (0, 0, 0, 0)) (fun p r s => if ptsOk r = true then (if p = [] then boxOf r else boxFrom r s) else (0, 0, 0, 0)) ?_ ?_ (0, 0, 0, 0) (fun _ => rfl)
  · intro s hs
    simp only [spec_BoxOf.l0, end_lt, if_false]
    refine Ev.val ?_
    by_cases c : l = []
    · rw [hs c]; simp [c, boxOf, ptsOk]
    · simp [c, boxFrom, ptsOk]
  · rintro pre x rest s e hs ih
    have hp : ptsOk (x :: rest) = ((coord x.f0 && coord x.f1) && ptsOk rest) := rfl
    clear hg
    subst e
    simp only [spec_BoxOf.l0, mid_lt, mid_nn, mid_wrap hm, if_true, rd_T111, Int.toNat_natCast, mid_get, sPointOk_eq, Option.bind_some]
    by_cases cx : (coord x.f0 && coord x.f1) = true
    · simp only [cx, if_true]
      have hpe : ptsOk (x :: rest) = ptsOk rest := by rw [hp, cx, Bool.true_and]
      have hne : ¬ pre ++ [x] = [] := by simp
      by_cases cp : pre = []
      · have c0 : (pre.length : Int) = 0 := by simp [cp]
        have h := ih (x.f0, x.f1, x.f0, x.f1) (fun e => absurd e hne)
        simp only [if_neg hne] at h
        simp only [c0, if_true, if_pos cp, hpe]
        by_cases cr : ptsOk rest = true
        · simp only [cr, if_true] at h ⊢
          have : boxOf (x :: rest) = boxFrom rest (x.f0, x.f1, x.f0, x.f1) := by
            show (if ptsOk (x :: rest) = true then boxFrom rest (x.f0, x.f1, x.f0, x.f1) else (0, 0, 0, 0)) = _
            rw [if_pos (hpe.trans cr)]
          rw [this]
          exact h
        · simp only [if_neg cr] at h ⊢
          exact h
      · have c0 : ¬ (pre.length : Int) = 0 := by
          intro h; exact cp (List.eq_nil_of_length_eq_zero (by omega))
        have h := ih (mn s.1 x.f0, mn s.2.1 x.f1, mx s.2.2.1 x.f0, mx s.2.2.2 x.f1) (fun e => absurd e hne)
        simp only [if_neg hne] at h
        simp only [if_neg c0, if_neg cp, hpe]
        exact h
    · have hpe : ptsOk (x :: rest) = false := by rw [hp]; simp [cx]
      simp only [if_neg cx, hpe, Bool.false_eq_true, if_false]
      exact Ev.now _
end Go.Proofs.YtjkgponlahfnjaaGreat.Pure
namespace Go.Proofs.YtjkgponlahfnjaaGreat.Pure
open Go.RowKit Go.Proofs.YtjkgponlahfnjaaGreat.QFnExactRunPage Go.Proofs.YtjkgponlahfnjaaGreatW.PrintWords Go.Proofs.YtjkgponlahfnjaaGreatW.PrintLast Go.Proofs.YtjkgponlahfnjaaGreat.Plain
def objsOk (l : List S103) : Bool := l.all fun o => objOk o.f0 o.f1 o.f2.f0 o.f2.f1 o.f2.f2 o.f2.f3
end Go.Proofs.YtjkgponlahfnjaaGreat.Pure
namespace Go.Proofs.YtjkgponlahfnjaaGreat.Pure
open Go.RowKit Go.Proofs.YtjkgponlahfnjaaGreat.QFnExactRunPage Go.Proofs.YtjkgponlahfnjaaGreatW.PrintWords Go.Proofs.YtjkgponlahfnjaaGreatW.PrintLast Go.Proofs.YtjkgponlahfnjaaGreat.Plain
theorem eqGraphics_ev (st : List Int) (p q r s : Int) (l : List S111) (g t u v x : Int) (hs : st.length ≤ maxLen) (hl : l.length ≤ maxLen) : Ev (fun k => laws_eqGraphics.f k st p q r s l g t u v x st p q r s l g t u v x) true := by
  simp only [laws_eqGraphics.f, laws_eqTurn.f, laws_eqBox.f, Option.bind_some, if_true]
  refine Ev.bind (eqIntS_ev st hs) ?_
  simp only [if_true]
  refine Ev.bind (eqPointS_ev l hl) ?_
  simp only [if_true]
  exact Ev.now _
theorem eqGraphicsS_ev (l : List S42) (hm : l.length ≤ maxLen) (hx : ∀ x ∈ l, x.f0.length ≤ maxLen ∧ x.f2.length ≤ maxLen) : Ev (fun k => laws_eqGraphicsS.f k l l) true := by
  simp only [laws_eqGraphicsS.f, if_true]
  refine ev_loop0 l (F := fun k i => laws_eqGraphicsS.l0 k l l i) (fun _ _ => true) ?_ (fun pre x rest e h => ?_)
  · simp only [laws_eqGraphicsS.l0, end_lt, if_false]; exact Ev.now _
  · have hxx := hx x (by rw [e]; simp)
    subst e
    simp only [laws_eqGraphicsS.l0, mid_lt, mid_nn, mid_wrap hm, if_true, rd_T42, Int.toNat_natCast, mid_get]
    exact Ev.bind (eqGraphics_ev x.f0 _ _ _ _ x.f2 _ _ _ _ _ hxx.1 hxx.2) h
theorem eqPage_ev (st : List Int) (p q r s : Int) (l : List S111) (g t u v x : Int) (G : List S42) (O : List S103) (hs : st.length ≤ maxLen) (hl : l.length ≤ maxLen) (hG : G.length ≤ maxLen) (hGx : ∀ x ∈ G, x.f0.length ≤ maxLen ∧ x.f2.length ≤ maxLen) (hO : O.length ≤ maxLen) (hOx : ∀ x ∈ O, x.f0.length ≤ maxLen) :
    Ev (fun k => laws_eqPage.f k st p q r s l g t u v x G O st p q r s l g t u v x G O) true := by
  simp only [laws_eqPage.f]
  refine Ev.bind (eqGraphics_ev st p q r s l g t u v x hs hl) ?_
  simp only [if_true]
  refine Ev.bind (eqGraphicsS_ev G hG hGx) ?_
  simp only [if_true]
  refine Ev.bind (eqObjectS_ev O hO hOx) ?_
  simp only [if_true]
  exact Ev.now _
def stkOk (l : List Int) : Bool := (l.all fun v => inB v (-9999) 9999) && decide ((l.length : Int) ≤ 12)
theorem iStackOk_ev (l : List Int) (hm : l.length ≤ maxLen) : Ev (fun k => impl_StackOk.f k l) (stkOk l) := by
  simp only [impl_StackOk.f]
  unfold stkOk
  by_cases c : (l.length : Int) > 12
  · simp only [if_pos c, decide_eq_false (show ¬ (l.length : Int) ≤ 12 by omega), Bool.and_false]; exact Ev.now _
  · simp only [if_neg c, decide_eq_true (show (l.length : Int) ≤ 12 by omega), Bool.and_true]
    refine ev_loop0 l (F := fun k i => impl_StackOk.l0 k l l.length i) (fun _ r => r.all fun v => inB v (-9999) 9999) ?_ (fun pre x rest e h => ?_)
    · simp only [impl_StackOk.l0, end_lt, if_false]; exact Ev.now _
    · clear c
      subst e
      simp only [impl_StackOk.l0, mid_lt, mid_nn, mid_wrap hm, if_true, rd, Int.toNat_natCast, mid_get, within_eq, Option.bind_some, List.all_cons]
      exact Ev.andB (fun _ => h)
theorem sStackOk_ev (l : List Int) (hm : l.length ≤ maxLen) : Ev (fun k => spec_StackOk.f k l) (stkOk l) := by
  simp only [spec_StackOk.f]
  unfold stkOk
  refine ev_loop0 l (F := fun k i => spec_StackOk.l0 k l i) (fun _ r => (r.all fun v => inB v (-9999) 9999) && decide ((l.length : Int) ≤ 12)) ?_ (fun pre x rest e h => ?_)
  · simp only [spec_StackOk.l0, end_lt, if_false, List.all_nil, Bool.true_and]; exact Ev.now _
  · have e1 : (((x :: rest).all fun v => inB v (-9999) 9999) && decide ((l.length : Int) ≤ 12)) = (inB x (-9999) 9999 && ((rest.all fun v => inB v (-9999) 9999) && decide ((l.length : Int) ≤ 12))) := by rw [List.all_cons, Bool.and_assoc]
    rw [e1]
    subst e
    simp only [spec_StackOk.l0, mid_lt, mid_nn, mid_wrap hm, if_true, rd, Int.toNat_natCast, mid_get, l01In_eq, Option.bind_some]
    exact Ev.andB (fun _ => h)
def turnOk (a b c d : Int) : Bool := inB a 0 3 && (inB b 1 4 && (coord c && coord d))
theorem iTurnOk_eq (a b c d : Int) : impl_TurnOk.f a b c d = some (turnOk a b c d) := by
  unfold impl_TurnOk.f turnOk
  simp only [within_eq, coordOk_eq, Option.bind_some, and_some]
theorem sTurnOk_eq (a b c d : Int) : spec_TurnOk.f a b c d = some (turnOk a b c d) := by
  unfold spec_TurnOk.f turnOk
  simp only [l01In_eq, l02In_eq, Option.bind_some, and_some]
def grOk (st : List Int) (p q r s : Int) (l : List S111) (g t u v x : Int) : Bool := stkOk st && (turnOk p q r s && (boxOk t u v x && ((ptsOk l && decide ((l.length : Int) ≤ 8)) && inB g 0 255)))
theorem iGraphicsOk_ev (st : List Int) (p q r s : Int) (l : List S111) (g t u v x : Int) (hs : st.length ≤ maxLen) (hl : l.length ≤ maxLen) : Ev (fun k => impl_GraphicsOk.f k st p q r s l g t u v x) (grOk st p q r s l g t u v x) := by
  simp only [impl_GraphicsOk.f, iTurnOk_eq, iBoxOk_eq, within_eq, Option.bind_some]
  unfold grOk
  refine Ev.bind (iStackOk_ev st hs) (Ev.andB (fun _ => Ev.andB (fun _ => Ev.andB (fun _ => ?_))))
  rw [show (ptsOk l && decide ((l.length : Int) ≤ 8)) = (decide ((l.length : Int) ≤ 8) && ptsOk l) from Bool.and_comm _ _, Bool.and_assoc]
  exact Ev.andP (fun _ => Ev.bind (pointsOk_ev l hl) (Ev.andB (fun _ => Ev.now _)))
theorem sGraphicsOk_ev (st : List Int) (p q r s : Int) (l : List S111) (g t u v x : Int) (hs : st.length ≤ maxLen) (hl : l.length ≤ maxLen) : Ev (fun k => spec_GraphicsOk.f k st p q r s l g t u v x) (grOk st p q r s l g t u v x) := by
  simp only [spec_GraphicsOk.f, sTurnOk_eq, sBoxOk_eq, l01In_eq, Option.bind_some]
  unfold grOk
  refine Ev.bind (sStackOk_ev st hs) (Ev.andB (fun _ => Ev.andB (fun _ => Ev.andB (fun _ => ?_))))
  exact Ev.bind (l07Points_ev l hl) (Ev.andB (fun _ => Ev.now _))
def grO (x : S42) : Bool := grOk x.f0 x.f1.f0 x.f1.f1 x.f1.f2 x.f1.f3 x.f2 x.f3 x.f4.f0 x.f4.f1 x.f4.f2 x.f4.f3
def pgOk (st : List Int) (p q r s : Int) (l : List S111) (g t u v x : Int) (G : List S42) (O : List S103) : Bool := grOk st p q r s l g t u v x && (decide ((G.length : Int) ≤ 4) && (decide ((O.length : Int) ≤ 12) && (G.all grO && objsOk O)))
theorem iPageOk_ev (st : List Int) (p q r s : Int) (l : List S111) (g t u v x : Int) (G : List S42) (O : List S103) (hs : st.length ≤ maxLen) (hl : l.length ≤ maxLen) (hG : G.length ≤ maxLen) (hGx : ∀ x ∈ G, x.f0.length ≤ maxLen ∧ x.f2.length ≤ maxLen) (hO : O.length ≤ maxLen) (hOx : ∀ x ∈ O, x.f0.length ≤ maxLen) :
    Ev (fun k => impl_PageOk.f k st p q r s l g t u v x G O) (pgOk st p q r s l g t u v x G O) := by
  have no : Ev (fun k => impl_PageOk.j0 k true st p q r s l g t u v x G O) false := Ev.up (by simp only [impl_PageOk.j0, if_true]; exact Ev.now _)
  have objs : Ev (fun k => impl_PageOk.l1 k O (O.length : Int) 0) (objsOk O) := by
    refine ev_loop0 O (F := fun k i => impl_PageOk.l1 k O O.length i) (fun _ r => objsOk r) ?_ (fun pre y rest e h => ?_)
    · simp only [impl_PageOk.l1, end_lt, if_false]; exact Ev.now _
    · have hxx := hOx y (by rw [e]; simp)
      subst e
      simp only [impl_PageOk.l1, mid_lt, mid_nn, mid_wrap hO, if_true, rd_T103, Int.toNat_natCast, mid_get]
      exact Ev.bind (iObjectOk_ev y.f0 _ _ _ _ _ hxx) (Ev.andB (fun _ => h))
  have grs : Ev (fun k => impl_PageOk.l0 k G (G.length : Int) 0 st p q r s l g t u v x G O) (G.all grO && objsOk O) := by
    have hGG : ∀ H : List S42, Ev (fun k => impl_PageOk.l0 k G (G.length : Int) 0 st p q r s l g t u v x H O) (G.all grO && objsOk O) := fun H => by
      refine ev_loop0 G (F := fun k i => impl_PageOk.l0 k G G.length i st p q r s l g t u v x H O) (fun _ r => r.all grO && objsOk O) ?_ (fun pre y rest e h => ?_)
      · simp only [impl_PageOk.l0, end_lt, if_false, List.all_nil, Bool.true_and]; exact objs
      · have hxx := hGx y (by rw [e]; simp)
        rw [List.all_cons, Bool.and_assoc]
        subst e
        simp only [impl_PageOk.l0, mid_lt, mid_nn, mid_wrap hG, if_true, rd_T42, Int.toNat_natCast, mid_get]
        exact Ev.bind (iGraphicsOk_ev y.f0 _ _ _ _ y.f2 _ _ _ _ _ hxx.1 hxx.2) (Ev.andB (fun _ => h))
    exact hGG G
  simp only [impl_PageOk.f]
  unfold pgOk
  refine Ev.bind (iGraphicsOk_ev st p q r s l g t u v x hs hl) ?_
  by_cases c : grOk st p q r s l g t u v x = true
  · simp only [c, if_true, Bool.true_and]
    by_cases c1 : (G.length : Int) > 4
    · simp only [if_pos c1, decide_eq_false (show ¬ (G.length : Int) ≤ 4 by omega), Bool.false_and]; exact no
    · simp only [if_neg c1, decide_eq_true (show (G.length : Int) ≤ 4 by omega), Bool.true_and]
      by_cases c2 : (O.length : Int) > 12
      · simp only [decide_eq_true c2, decide_eq_false (show ¬ (O.length : Int) ≤ 12 by omega), Bool.false_and]; exact no
      · simp only [decide_eq_false c2, decide_eq_true (show (O.length : Int) ≤ 12 by omega), Bool.true_and]
        refine Ev.up ?_
        simp only [impl_PageOk.j0, Bool.false_eq_true, if_false]
        exact grs
  · simp only [c, Bool.false_eq_true, if_false, Bool.false_and]; exact no
theorem sPageOk_ev (st : List Int) (p q r s : Int) (l : List S111) (g t u v x : Int) (G : List S42) (O : List S103) (hs : st.length ≤ maxLen) (hl : l.length ≤ maxLen) (hG : G.length ≤ maxLen) (hGx : ∀ x ∈ G, x.f0.length ≤ maxLen ∧ x.f2.length ≤ maxLen) (hO : O.length ≤ maxLen) (hOx : ∀ x ∈ O, x.f0.length ≤ maxLen) :
    Ev (fun k => spec_PageOk.f k st p q r s l g t u v x G O) (pgOk st p q r s l g t u v x G O) := by
  have no : Ev (fun k => spec_PageOk.j0 k true st p q r s l g t u v x G O) false := Ev.up (by simp only [spec_PageOk.j0, if_true]; exact Ev.now _)
  have objs : Ev (fun k => spec_PageOk.l1 k 0 st p q r s l g t u v x G O) (objsOk O) := by
    refine ev_loop0 O (F := fun k i => spec_PageOk.l1 k i st p q r s l g t u v x G O) (fun _ r => objsOk r) ?_ (fun pre y rest e h => ?_)
    · simp only [spec_PageOk.l1, end_lt, if_false]; exact Ev.now _
    · have hxx := hOx y (by rw [e]; simp)
      subst e
      simp only [spec_PageOk.l1, mid_lt, mid_nn, mid_wrap hO, if_true, rd_T103, Int.toNat_natCast, mid_get]
      exact Ev.bind (l07Object_ev y.f0 _ _ _ _ _ hxx) (Ev.andB (fun _ => h))
  have grs : Ev (fun k => spec_PageOk.l0 k 0 st p q r s l g t u v x G O) (G.all grO && objsOk O) := by
    refine ev_loop0 G (F := fun k i => spec_PageOk.l0 k i st p q r s l g t u v x G O) (fun _ r => r.all grO && objsOk O) ?_ (fun pre y rest e h => ?_)
    · simp only [spec_PageOk.l0, end_lt, if_false, List.all_nil, Bool.true_and]; exact objs
    · have hxx := hGx y (by rw [e]; simp)
      have hlt : (pre.length : Int) < (G.length : Int) := by rw [e, mid_len]; omega
      have hw : wrap64 ((pre.length : Int) + 1) = ((pre ++ [y]).length : Int) := mid_wrap (pre := pre) (rest := rest) (x := y) (by rw [← e]; exact hG)
      have hrd : rd_T42 G (pre.length : Int) = y := by rw [e]; simp [rd_T42, List.getD_eq_getElem?_getD]
      rw [List.all_cons, Bool.and_assoc]
      simp only [spec_PageOk.l0, if_pos hlt, mid_nn, hw, if_true, hrd]
      exact Ev.bind (sGraphicsOk_ev y.f0 _ _ _ _ y.f2 _ _ _ _ _ hxx.1 hxx.2) (Ev.andB (fun _ => h))
  simp only [spec_PageOk.f]
  unfold pgOk
  refine Ev.bind (sGraphicsOk_ev st p q r s l g t u v x hs hl) ?_
  by_cases c : grOk st p q r s l g t u v x = true
  · simp only [c, if_true, Bool.true_and]
    by_cases c1 : (G.length : Int) > 4
    · simp only [if_pos c1, decide_eq_false (show ¬ (G.length : Int) ≤ 4 by omega), Bool.false_and]; exact no
    · simp only [if_neg c1, decide_eq_true (show (G.length : Int) ≤ 4 by omega), Bool.true_and]
      by_cases c2 : (O.length : Int) > 12
      · simp only [decide_eq_true c2, decide_eq_false (show ¬ (O.length : Int) ≤ 12 by omega), Bool.false_and]; exact no
      · simp only [decide_eq_false c2, decide_eq_true (show (O.length : Int) ≤ 12 by omega), Bool.true_and]
        refine Ev.up ?_
        simp only [spec_PageOk.j0, Bool.false_eq_true, if_false]
        exact grs
  · simp only [c, Bool.false_eq_true, if_false, Bool.false_and]; exact no
end Go.Proofs.YtjkgponlahfnjaaGreat.Pure
namespace Go.Proofs.YtjkgponlahfnjaaGreat.Pure
open Go.RowKit Go.Proofs.YtjkgponlahfnjaaGreat.QFnExactRunPage Go.Proofs.YtjkgponlahfnjaaGreatW.PrintWords Go.Proofs.YtjkgponlahfnjaaGreatW.PrintLast Go.Proofs.YtjkgponlahfnjaaGreat.Plain
def nmFrom (a : ByteArray) : Nat → Int → Bool
  | 0, _ => true
  | n + 1, i => if bt a i < 97 then false else if bt a i > 122 then false else nmFrom a n (i + 1)
def nameOk (a : ByteArray) : Bool := if (a.size : Int) < 1 then false else if (a.size : Int) > 8 then false else nmFrom a a.size 0
def tokOk (a : ByteArray) (n : Int) : Bool := if a.toList = ([] : List UInt8) then inB n (-999) 999 else (nameOk a && (n == 0))
theorem iIsName_ev (a : ByteArray) : Ev (fun k => impl_IsName.f k a) (nameOk a) := by
  simp only [impl_IsName.f]
  unfold nameOk
  have no : Ev (fun k => impl_IsName.j0 k a true) false := Ev.up (by simp only [impl_IsName.j0, if_true]; exact Ev.now _)
  by_cases c : (a.size : Int) < 1
  · simp only [if_pos c]; exact no
  · simp only [if_neg c]
    by_cases c2 : (a.size : Int) > 8
    · simp only [if_pos c2, decide_eq_true c2]; exact no
    · simp only [if_neg c2, decide_eq_false c2]
      refine Ev.up ?_
      simp only [impl_IsName.j0, Bool.false_eq_true, if_false]
      have main : ∀ (n : Nat) (i : Int), 0 ≤ i → i + n = a.size → Ev (fun k => impl_IsName.l0 k a i) (nmFrom a n i) := by
        intro n
        induction n with
        | zero =>
          intro i h0 h1
          refine Ev.up ?_
          simp only [impl_IsName.l0, if_neg (show ¬ i < (a.size : Int) by omega)]
          exact Ev.now _
        | succ n ih =>
          intro i h0 h1
          refine Ev.up ?_
          have hw : wrap64 (i + 1) = i + 1 := wrap_id (by omega) (by omega)
          simp only [impl_IsName.l0, if_pos (show i < (a.size : Int) by omega), if_pos h0, hw, nmFrom]
          exact Ev.ite (fun z => by rw [if_pos z]; exact Ev.now _) (fun z => by rw [if_neg z]; exact Ev.ite (fun z2 => by rw [if_pos z2]; exact Ev.now _) (fun z2 => by rw [if_neg z2]; exact ih (i + 1) (by omega) (by omega)))
      exact main a.size 0 (by omega) (by omega)
theorem iTokenOk_ev (a : ByteArray) (n : Int) : Ev (fun k => impl_TokenOk.f k a n) (tokOk a n) := by
  simp only [impl_TokenOk.f]
  unfold tokOk
  refine Ev.ite (fun z => ?_) (fun z => ?_)
  · simp only [if_pos z, within_eq, Option.bind_some]; exact Ev.now _
  · simp only [if_neg z]
    exact Ev.bind (iIsName_ev a) (Ev.andB (fun _ => Ev.now _))
def tksOk (l : List S50) : Bool := l.all fun t => tokOk t.f0 t.f1
theorem itokensOk_ev (l : List S50) (hm : l.length ≤ maxLen) : Ev (fun k => impl_tokensOk.f k l) (tksOk l) := by
  simp only [impl_tokensOk.f]
  refine ev_loop0 l (F := fun k i => impl_tokensOk.l0 k l l.length i) (fun _ r => tksOk r) ?_ (fun pre x rest e h => ?_)
  · simp only [impl_tokensOk.l0, end_lt, if_false]; exact Ev.now _
  · subst e
    simp only [impl_tokensOk.l0, mid_lt, mid_nn, mid_wrap hm, if_true, rd_T50, Int.toNat_natCast, mid_get]
    exact Ev.bind (iTokenOk_ev _ _) (Ev.andB (fun _ => h))
abbrev nRep : List UInt8 := [114, 101, 112, 101, 97, 116]
abbrev nEnd : List UInt8 := [101, 110, 100]
def repOk : Option S50 → Bool
  | some q => if q.f0.toList = ([] : List UInt8) then inB q.f1 0 9 else false
  | none => false
def blkGo : Option S50 → Int → List S50 → Bool
  | _, d, [] => d == 0
  | p, d, t :: r => if t.f0.toList = nRep then (repOk p && (decide (d + 1 ≤ 3) && blkGo (some t) (d + 1) r)) else if t.f0.toList = nEnd then (decide (0 ≤ d - 1) && blkGo (some t) (d - 1) r) else blkGo (some t) d r
def blkOk (l : List S50) : Bool := decide ((l.length : Int) ≤ 60) && (tksOk l && blkGo none 0 l)
theorem getLast_rd {pre rest : List S50} (hne : pre ≠ []) (hm : pre.length ≤ 60) : pre.getLast? = some (rd_T50 (pre ++ rest) (wrap64 ((pre.length : Int) - 1))) ∧ 0 ≤ wrap64 ((pre.length : Int) - 1) ∧ wrap64 ((pre.length : Int) - 1) < ((pre ++ rest).length : Int) := by
  have hp : 0 < pre.length := List.length_pos_iff.2 hne
  have hw : wrap64 ((pre.length : Int) - 1) = (pre.length : Int) - 1 := wrap_id (by omega) (by omega)
  rw [hw]
  refine ⟨?_, by omega, by rw [List.length_append]; omega⟩
  rw [List.getLast?_eq_getElem?, rd_T50, show ((pre.length : Int) - 1).toNat = pre.length - 1 by omega, List.getD_eq_getElem?_getD, List.getElem?_append_left (by omega), List.getElem?_eq_getElem (by omega)]
  rfl
theorem iBlocksOk_ev (l : List S50) (hm : l.length ≤ maxLen) : Ev (fun k => impl_BlocksOk.f k l) (blkOk l) := by
  simp only [impl_BlocksOk.f]
  unfold blkOk
  have no : Ev (fun k => impl_BlocksOk.j0 k l true) false := Ev.up (by simp only [impl_BlocksOk.j0, if_true]; exact Ev.now _)
  by_cases c : (l.length : Int) > 60
  · simp only [if_pos c, decide_eq_false (show ¬ (l.length : Int) ≤ 60 by omega), Bool.false_and]; exact no
  · simp only [if_neg c, decide_eq_true (show (l.length : Int) ≤ 60 by omega), Bool.true_and]
    refine Ev.bind (itokensOk_ev l hm) ?_
    cases ht : tksOk l with
    | false => exact no
    | true =>
      simp only [Bool.not_true, Bool.true_and]
      refine Ev.up ?_
      simp only [impl_BlocksOk.j0, Bool.false_eq_true, if_false]
      have main : ∀ (rest pre : List S50) (d : Int), l = pre ++ rest → 0 ≤ d → d ≤ 3 → Ev (fun k => impl_BlocksOk.l0 k l d l (l.length : Int) (pre.length : Int)) (blkGo pre.getLast? d rest) := by
        intro rest
        induction rest with
        | nil =>
          intro pre d e h0 h1
          refine Ev.up ?_
          have e' : pre.length = l.length := by rw [e]; simp
          simp only [impl_BlocksOk.l0, e', end_lt, if_false, blkGo]
          exact Ev.now _
        | cons t r ih =>
          intro pre d e h0 h1
          have hpl : pre.length ≤ 60 := by have := congrArg List.length e; simp at this; omega
          have ih' : ∀ d', 0 ≤ d' → d' ≤ 3 → Ev (fun k => impl_BlocksOk.l0 k l d' l (l.length : Int) ((pre ++ [t]).length : Int)) (blkGo (some t) d' r) := fun d' g0 g1 => by
            have := ih (pre ++ [t]) d' (by simp [e]) g0 g1
            rwa [List.getLast?_concat] at this
          have hlt : (pre.length : Int) < (l.length : Int) := by rw [e, mid_len]; omega
          have hw : wrap64 ((pre.length : Int) + 1) = ((pre ++ [t]).length : Int) := mid_wrap (pre := pre) (rest := r) (x := t) (by rw [← e]; exact hm)
          have hrd : rd_T50 l (pre.length : Int) = t := by rw [e]; simp [rd_T50, List.getD_eq_getElem?_getD]
          have hw1 : wrap64 (d + 1) = d + 1 := wrap_id (by omega) (by omega)
          have hw2 : wrap64 (d - 1) = d - 1 := wrap_id (by omega) (by omega)
          refine Ev.up ?_
          simp only [impl_BlocksOk.l0, if_pos hlt, mid_nn, if_true, hrd, hw, hw1, hw2, blkGo]
          by_cases z : t.f0.toList = nRep
          · simp only [if_pos z]
            have bad : Ev (fun k => impl_BlocksOk.j2 k l d l (l.length : Int) (pre.length : Int) true) false := Ev.up (by simp only [impl_BlocksOk.j2, if_true]; exact Ev.now _)
            have good : Ev (fun k => impl_BlocksOk.j2 k l d l (l.length : Int) (pre.length : Int) false) (decide (d + 1 ≤ 3) && blkGo (some t) (d + 1) r) := by
              refine Ev.up ?_
              simp only [impl_BlocksOk.j2, Bool.false_eq_true, if_false, hw1, hw]
              by_cases q : d + 1 > 3
              · simp only [if_pos q, decide_eq_false (show ¬ d + 1 ≤ 3 by omega), Bool.false_and]; exact Ev.now _
              · simp only [if_neg q, decide_eq_true (show d + 1 ≤ 3 by omega), Bool.true_and]; exact ih' (d + 1) (by omega) (by omega)
            by_cases hp : pre = []
            · subst hp
              simp only [List.length_nil, Int.natCast_zero, if_true, List.getLast?_nil, repOk, Bool.false_and]
              exact bad
            · obtain ⟨g1, g2, g3⟩ := getLast_rd (rest := t :: r) hp hpl
              rw [← e] at g1 g3
              rw [g1]
              have hne : ¬ (pre.length : Int) = 0 := by have := List.length_pos_iff.2 hp; omega
              simp only [if_neg hne, if_pos g2, if_pos g3, repOk]
              by_cases y : (rd_T50 l (wrap64 ((pre.length : Int) - 1))).f0.toList = ([] : List UInt8)
              · simp only [if_pos y, within_eq, Option.bind_some]
                cases inB (rd_T50 l (wrap64 ((pre.length : Int) - 1))).f1 0 9 with
                | true => exact good
                | false => exact bad
              · simp only [if_neg y, Bool.false_and]; exact bad
          · simp only [if_neg z]
            by_cases y : t.f0.toList = nEnd
            · simp only [if_pos y]
              by_cases q : d - 1 < 0
              · simp only [if_pos q, decide_eq_false (show ¬ 0 ≤ d - 1 by omega), Bool.false_and]; exact Ev.now _
              · simp only [if_neg q, decide_eq_true (show 0 ≤ d - 1 by omega), Bool.true_and]; exact ih' (d - 1) (by omega) (by omega)
            · simp only [if_neg y]; exact ih' d h0 h1
      exact main l [] 0 rfl (by omega) (by omega)
def repN : Nat → List S50 → List S50 → List S50
  | 0, _, o => o
  | n + 1, i, o => repN n i (o ++ i)
def flatGo : Nat → List S50 → List S50 → List S50 × List S50
  | 0, r, o => (o, r)
  | _ + 1, [], o => (o, [])
  | n + 1, t :: r, o => if t.f0.toList = nEnd then (o, t :: r) else if t.f0.toList = nRep then flatGo n (flatGo n r []).2.tail (repN (o.getLastD z50).f1.toNat (flatGo n r []).1 o.dropLast) else flatGo n r (o ++ [t])
theorem repN_len : ∀ (n : Nat) (i o : List S50), (repN n i o).length = o.length + n * i.length
  | 0, i, o => by simp [repN]
  | n + 1, i, o => by rw [repN, repN_len n i (o ++ i), List.length_append, Nat.succ_mul]; omega
theorem rep_ne_end : nRep ≠ nEnd := by decide
theorem flat_rep (l : List S50) (i : List S50) (e : Int) (he : 0 ≤ e) (he2 : e ≤ 60) {R : List S50 × Int} :
    ∀ (n : Nat) (o : List S50), n ≤ 9 → o.length + n * i.length ≤ 1000000 → (Ev (fun k => impl_flat.l0 k l (e + 1) (repN n i o)) R) → Ev (fun k => impl_flat.l1 k l o (n : Int) i e) R := by
  intro n
  induction n with
  | zero =>
    intro o hn hl h
    refine Ev.up ?_
    have hw : wrap64 (e + 1) = e + 1 := wrap_id (by omega) (by omega)
    simp only [impl_flat.l1, hw, if_neg (show ¬ ((0 : Nat) : Int) > 0 by omega)]
    exact h
  | succ n ih =>
    intro o hn hl h
    rw [Nat.succ_mul] at hl
    refine Ev.up ?_
    have hw : wrap64 (((n + 1 : Nat) : Int) - 1) = (n : Int) := by rw [wrap_id (by omega) (by omega)]; omega
    simp only [impl_flat.l1, hw, if_pos (show ((n + 1 : Nat) : Int) > 0 by omega), if_pos (show o.length + i.length < 5864062014805 by omega)]
    exact ih (o ++ i) (by omega) (by rw [List.length_append]; omega) h
theorem flat_clip (l : List S50) : impl_Token.f l = some l := by
  unfold impl_Token.f
  rw [if_pos (by omega), if_pos (Int.le_refl _), Int.toNat_natCast, List.take_length]
def pw (d : Int) : Nat := 9 ^ (3 - d).toNat
theorem pw_step {d : Int} (h0 : 0 ≤ d) (h1 : d + 1 ≤ 3) : pw d = 9 * pw (d + 1) := by
  unfold pw
  rw [show (3 - d).toNat = (3 - (d + 1)).toNat + 1 by omega, Nat.pow_succ, Nat.mul_comm]
theorem pw_pos (d : Int) : 1 ≤ pw d := by unfold pw; exact Nat.pow_pos (by omega)
theorem pw_le {d : Int} (h0 : 0 ≤ d) : pw d ≤ 729 := by
  unfold pw
  calc 9 ^ (3 - d).toNat ≤ 9 ^ 3 := Nat.pow_le_pow_right (by omega) (by omega)
    _ = 729 := by decide
theorem fl1 {R s P P1 q i : Nat} (hd : P = 9 * P1) (hq : q ≤ 9) (hi : i ≤ (R - (s + 1)) * P1) : q * i ≤ (R - (s + 1)) * P := by
  calc q * i ≤ 9 * ((R - (s + 1)) * P1) := Nat.mul_le_mul hq hi
    _ = (R - (s + 1)) * P := by rw [hd, Nat.mul_left_comm]
theorem fl2 {o R s P m : Nat} (h : o + 1 + (R + 1) * P ≤ 100000) (hm : m ≤ (R - (s + 1)) * P) (hs : s + 1 ≤ R) : o + m + s * P ≤ 100000 := by
  have h1 : (R - (s + 1)) * P + s * P ≤ (R + 1) * P := by rw [← Nat.add_mul]; exact Nat.mul_le_mul_right _ (by omega)
  generalize (R - (s + 1)) * P = a at *
  generalize (R + 1) * P = b at *
  generalize s * P = c at *
  omega
theorem fl3 {L o R s P m z : Nat} (h : L ≤ o + m + (s - z) * P) (hm : m ≤ (R - (s + 1)) * P) (hs : s + 1 ≤ R) (hz : z ≤ s) : L ≤ o + 1 + (R + 1 - z) * P := by
  have h1 : (R - (s + 1)) * P + (s - z) * P ≤ (R + 1 - z) * P := by rw [← Nat.add_mul]; exact Nat.mul_le_mul_right _ (by omega)
  generalize (R - (s + 1)) * P = a at *
  generalize (R + 1 - z) * P = b at *
  generalize (s - z) * P = c at *
  omega
theorem fl4 {L o R P z : Nat} (h : L ≤ o + 1 + (R - z) * P) (hp : 1 ≤ P) (hz : z ≤ R) : L ≤ o + (R + 1 - z) * P := by
  have h1 : P + (R - z) * P ≤ (R + 1 - z) * P := by
    rw [show R + 1 - z = (R - z) + 1 by omega, Nat.succ_mul]; omega
  generalize (R - z) * P = a at *
  generalize (R + 1 - z) * P = b at *
  omega
theorem fl5 {o R P : Nat} (h : o + (R + 1) * P ≤ 100000) (hp : 1 ≤ P) : o + 1 + R * P ≤ 100000 := by
  rw [Nat.succ_mul] at h
  generalize R * P = a at *
  omega
theorem fl6 {o R P P1 : Nat} (hd : P = 9 * P1) (h : o + 1 + (R + 1) * P ≤ 100000) : R * P1 ≤ 100000 := by
  have h1 : R * P1 ≤ (R + 1) * P := by rw [hd]; exact Nat.mul_le_mul (by omega) (by omega)
  generalize R * P1 = a at *
  generalize (R + 1) * P = b at *
  omega
theorem flat_ev (l : List S50) (hl : l.length ≤ 60) : ∀ (n : Nat) (pre rest o : List S50) (p : Option S50) (d : Int), l = pre ++ rest → rest.length < n → 0 ≤ d → d ≤ 3 → blkGo p d rest = true →
    (∀ t r, rest = t :: r → t.f0.toList = nRep → ∃ o' q, o = o' ++ [q] ∧ p = some q) → o.length + rest.length * pw d ≤ 100000 →
    Ev (fun k => impl_flat.l0 k l (pre.length : Int) o) ((flatGo n rest o).1, ((l.length - (flatGo n rest o).2.length : Nat) : Int)) ∧ (flatGo n rest o).2.length ≤ rest.length ∧ (∃ mid, rest = mid ++ (flatGo n rest o).2) ∧
    (flatGo n rest o).1.length ≤ o.length + (rest.length - (flatGo n rest o).2.length) * pw d ∧ (∀ t r, (flatGo n rest o).2 = t :: r → t.f0.toList = nEnd) ∧ ∃ p', blkGo p' d (flatGo n rest o).2 = true := by
  intro n
  induction n with
  | zero => intro pre rest o p d e hn; omega
  | succ n ih =>
    intro pre rest o p d e hn h0 h1 hb hlink hlen
    have hll := congrArg List.length e
    rw [List.length_append] at hll
    match rest, hb, hlink, hlen, hn, e, hll with
    | [], hb, hlink, hlen, hn, e, hll =>
      have hlt : ¬ (pre.length : Int) < (l.length : Int) := by simp at hll; omega
      refine ⟨?_, by simp [flatGo], ⟨[], by simp [flatGo]⟩, by simp [flatGo], by simp [flatGo], p, by simpa [flatGo] using hb⟩
      refine Ev.up ?_
      simp only [impl_flat.l0, if_neg hlt]
      refine Ev.up ?_
      simp only [impl_flat.j1, Bool.false_eq_true, if_false, flat_clip, Option.bind_some, flatGo]
      refine Ev.val ?_
      simp at hll
      simp [hll]
    | t :: r, hb, hlink, hlen, hn, e, hll =>
      rw [List.length_cons] at hll hn hlen
      have hlt : (pre.length : Int) < (l.length : Int) := by omega
      have hrd : rd_T50 l (pre.length : Int) = t := by rw [e]; simp [rd_T50, List.getD_eq_getElem?_getD]
      have hpe : ((pre ++ [t]).length : Int) = (pre.length : Int) + 1 := by simp
      have hw : wrap64 ((pre.length : Int) + 1) = ((pre ++ [t]).length : Int) := by rw [hpe, wrap_id (by omega) (by omega)]
      have hp1 := pw_pos d
      by_cases z : t.f0.toList = nEnd
      · have eg : flatGo (n + 1) (t :: r) o = (o, t :: r) := by simp only [flatGo, if_pos z]
        rw [eg]
        refine ⟨?_, Nat.le_refl _, ⟨[], rfl⟩, by simp, fun t' r' he => by injection he with h3 _; rw [← h3]; exact z, p, hb⟩
        refine Ev.up ?_
        have hne : (t.f0.toList != nEnd) = false := by simp [z]
        simp only [impl_flat.l0, if_pos hlt, mid_nn, if_true, hrd, hne]
        refine Ev.up ?_
        simp only [impl_flat.j1, Bool.false_eq_true, if_false, flat_clip, Option.bind_some]
        refine Ev.val ?_
        rw [List.length_cons, hll, Nat.add_sub_cancel]
      · have hne : (t.f0.toList != nEnd) = true := by simp [z]
        by_cases y : t.f0.toList = nRep
        · obtain ⟨o', q, rfl, rfl⟩ := hlink t r rfl y
          simp only [blkGo, if_pos y, Bool.and_eq_true, decide_eq_true_eq] at hb
          obtain ⟨hq, hd, hb⟩ := hb
          have hq9 : 0 ≤ q.f1 ∧ q.f1 ≤ 9 := by
            simp only [repOk] at hq
            split at hq
            · exact inB_iff.1 hq
            · cases hq
          rw [List.length_append, List.length_singleton] at hlen
          have hpw := pw_step h0 hd
          obtain ⟨i1, i2, ⟨mid, i3⟩, i4, i5, p', i6⟩ := ih (pre ++ [t]) r [] (some t) (d + 1) (by simp [e]) (by omega) (by omega) hd hb (fun t2 r2 e2 z2 => by
            rw [e2] at hb
            simp only [blkGo, if_pos z2, Bool.and_eq_true] at hb
            have h3 := hb.1
            simp only [repOk, y] at h3
            simp at h3) (by rw [List.length_nil, Nat.zero_add]; exact fl6 hpw hlen)
          have eg : flatGo (n + 1) (t :: r) (o' ++ [q]) = flatGo n (flatGo n r []).2.tail (repN q.f1.toNat (flatGo n r []).1 o') := by
            simp only [flatGo, if_neg z, if_pos y, List.dropLast_concat, List.getLastD_concat]
          rw [eg]
          generalize flatGo n r [] = Z at i1 i2 i3 i4 i5 i6 ⊢
          obtain ⟨inner, rem⟩ := Z
          simp only at i1 i2 i3 i4 i5 i6 ⊢
          match rem, i1, i2, i3, i4, i5, i6 with
          | [], i1, i2, i3, i4, i5, i6 => simp [blkGo] at i6; omega
          | t' :: r', i1, i2, i3, i4, i5, i6 =>
            have hend := i5 t' r' rfl
            have hnr : ¬ t'.f0.toList = nRep := by rw [hend]; exact fun h => rep_ne_end h.symm
            simp only [blkGo, if_neg hnr, if_pos hend, Bool.and_eq_true] at i6
            have i7 : blkGo (some t') d r' = true := by have := i6.2; rwa [show d + 1 - 1 = d by omega] at this
            rw [List.length_cons] at i2 i4
            have hq10 : q.f1.toNat ≤ 9 := by omega
            have hin : inner.length ≤ (r.length - (r'.length + 1)) * pw (d + 1) := by simpa using i4
            have hin9 : q.f1.toNat * inner.length ≤ (r.length - (r'.length + 1)) * pw d := fl1 hpw hq10 hin
            have hrp : (repN q.f1.toNat inner o').length + r'.length * pw d ≤ 100000 := by rw [repN_len]; exact fl2 hlen hin9 i2
            have hl' : l = (pre ++ t :: mid ++ [t']) ++ r' := by rw [e, i3]; simp
            obtain ⟨j1, j2, ⟨mid2, j3⟩, j4, j5, p2, j6⟩ := ih (pre ++ t :: mid ++ [t']) r' (repN q.f1.toNat inner o') (some t') d hl' (by omega) h0 h1 i7 (fun t2 r2 e2 z2 => by
              rw [e2] at i7
              simp only [blkGo, if_pos z2, Bool.and_eq_true] at i7
              have h3 := i7.1
              simp only [repOk, hend] at h3
              simp at h3) hrp
            simp only [List.tail_cons]
            have hmid : (mid.length : Int) + (r'.length + 1) = r.length := by have := congrArg List.length i3; simp at this; omega
            refine ⟨?_, by rw [List.length_cons]; omega, ⟨t :: mid ++ t' :: mid2, ?_⟩, ?_, j5, p2, j6⟩
            · refine Ev.up ?_
              simp only [impl_flat.l0, if_pos hlt, mid_nn, if_true, hrd, hne]
              refine Ev.up ?_
              have ho : wrap64 (((o' ++ [q]).length : Int) - 1) = (o'.length : Int) := by
                have h7 : ((o' ++ [q]).length : Int) - 1 = (o'.length : Int) := by simp
                rw [h7]; exact wrap_id (by omega) (by omega)
              have hrq : rd_T50 (o' ++ [q]) (o'.length : Int) = q := by simp [rd_T50, List.getD_eq_getElem?_getD]
              have hT : (o' ++ [q]).take o'.length = o' := by simp
              simp only [impl_flat.j1, if_true, if_pos hlt, mid_nn, hrd, if_pos y, ho, hrq, Int.toNat_natCast, hT, hw, if_pos (show (o'.length : Int) < ((o' ++ [q]).length : Int) by rw [List.length_append, List.length_singleton]; omega), if_pos (show (o'.length : Int) ≤ ((o' ++ [q]).length : Int) by rw [List.length_append, List.length_singleton]; omega)]
              have i1' : Ev (fun k => impl_flat.f k l ((pre ++ [t]).length : Int)) (inner, ((l.length - (r'.length + 1) : Nat) : Int)) := Ev.up (by simp only [impl_flat.f]; exact i1)
              refine Ev.bind i1' ?_
              have hee : ((l.length - (r'.length + 1) : Nat) : Int) + 1 = ((pre ++ t :: mid ++ [t']).length : Int) := by simp; omega
              have hqn : (q.f1.toNat : Int) = q.f1 := by omega
              have hR := flat_rep l inner ((l.length - (r'.length + 1) : Nat) : Int) (by omega) (by omega) q.f1.toNat o' hq10 (by rw [repN_len] at hrp; exact Nat.le_trans (Nat.le_trans (Nat.le_add_right _ _) hrp) (by decide)) (by rw [hee]; exact j1)
              rw [hqn] at hR
              exact hR
            · generalize (flatGo n r' (repN q.f1.toNat inner o')).2 = X at j3 ⊢
              rw [i3, j3]; simp
            · rw [repN_len] at j4
              rw [List.length_append, List.length_singleton, List.length_cons]
              exact fl3 j4 hin9 i2 j2
        · have eg : flatGo (n + 1) (t :: r) o = flatGo n r (o ++ [t]) := by simp only [flatGo, if_neg z, if_neg y]
          rw [eg]
          simp only [blkGo, if_neg y, if_neg z] at hb
          obtain ⟨i1, i2, ⟨mid, i3⟩, i4, i5, i6⟩ := ih (pre ++ [t]) r (o ++ [t]) (some t) d (by simp [e]) (by omega) h0 h1 hb (fun _ _ _ _ => ⟨o, t, rfl, rfl⟩) (by rw [List.length_append, List.length_singleton]; exact fl5 hlen hp1)
          refine ⟨?_, by rw [List.length_cons]; omega, ⟨t :: mid, by rw [List.cons_append, ← i3]⟩, ?_, i5, i6⟩
          · refine Ev.up ?_
            simp only [impl_flat.l0, if_pos hlt, mid_nn, if_true, hrd, hne]
            refine Ev.up ?_
            simp only [impl_flat.j1, if_true, if_pos hlt, mid_nn, hrd, if_neg y, hw, if_pos (show o.length < 5864062014805 from Nat.lt_of_le_of_lt (Nat.le_trans (Nat.le_add_right _ _) hlen) (by decide))]
            exact i1
          · rw [List.length_append, List.length_singleton] at i4
            rw [List.length_cons]
            exact fl4 i4 hp1 i2
def flatV (l : List S50) : List S50 := (flatGo (l.length + 1) l []).1
def flattenV (l : List S50) : List S50 × Bool := if blkOk l = true then (if ((flatV l).length : Int) > 200 then ([], false) else (flatV l, true)) else ([], false)
theorem iFlatten_ev (l : List S50) (hm : l.length ≤ maxLen) : Ev (fun k => impl_FlattenBlocks.f k l) (flattenV l) := by
  simp only [impl_FlattenBlocks.f]
  unfold flattenV
  refine Ev.bind (iBlocksOk_ev l hm) ?_
  cases hb : blkOk l with
  | false => simp only [Bool.false_eq_true, if_false]; exact Ev.now _
  | true =>
    simp only [if_true]
    unfold blkOk at hb
    simp only [Bool.and_eq_true, decide_eq_true_eq] at hb
    obtain ⟨i1, _⟩ := flat_ev l (by omega) (l.length + 1) [] l [] none 0 rfl (by omega) (by omega) (by omega) hb.2.2 (fun t r e z => by
      have h3 := hb.2.2
      rw [e] at h3
      simp only [blkGo, if_pos z, repOk, Bool.false_and] at h3
      cases h3) (by
        have h4 : l.length * pw 0 ≤ 60 * 729 := Nat.mul_le_mul (by omega) (pw_le (by omega))
        simp only [List.length_nil]; omega)
    have i1' : Ev (fun k => impl_flat.f k l 0) (flatV l, ((l.length - (flatGo (l.length + 1) l []).2.length : Nat) : Int)) := Ev.up (by simp only [impl_flat.f]; exact i1)
    refine Ev.bind i1' ?_
    exact Ev.ite (fun z => by rw [if_pos z]; exact Ev.now _) (fun z => by rw [if_neg z]; exact Ev.now _)
theorem flattenV_len (l : List S50) : ((flattenV l).1.length : Int) ≤ 200 := by
  unfold flattenV
  split
  · split
    · simp
    · simp only; omega
  · simp
end Go.Proofs.YtjkgponlahfnjaaGreat.Pure
namespace Go.Proofs.YtjkgponlahfnjaaGreat.Pure
open Go.RowKit Go.Proofs.YtjkgponlahfnjaaGreat.QFnExactRunPage Go.Proofs.YtjkgponlahfnjaaGreatW.PrintWords Go.Proofs.YtjkgponlahfnjaaGreatW.PrintLast Go.Proofs.YtjkgponlahfnjaaGreat.Plain
structure Pg where
  g : S42
  sv : List S42
  ob : List S103
def okP (p : Pg) : Bool := pgOk p.g.f0 p.g.f1.f0 p.g.f1.f1 p.g.f1.f2 p.g.f1.f3 p.g.f2 p.g.f3 p.g.f4.f0 p.g.f4.f1 p.g.f4.f2 p.g.f4.f3 p.sv p.ob
def pgN (n : Nat) (p : Pg) : Prop := p.g.f0.length ≤ n ∧ p.g.f2.length ≤ n ∧ p.sv.length ≤ n ∧ (∀ x ∈ p.sv, x.f0.length ≤ n ∧ x.f2.length ≤ n) ∧ p.ob.length ≤ n ∧ ∀ x ∈ p.ob, x.f0.length ≤ n
def takeN (l : List Int) (n : Int) : List Int × List Int × Bool := if stkOk l = true ∧ inB n 0 (l.length : Int) = true then (l.take ((l.length : Int) - n).toNat, l.drop ((l.length : Int) - n).toNat, true) else (l, [], false)
def pushN (l : List Int) (n : Int) : List Int × Bool := if stkOk l = true ∧ stkOk (l ++ [n]) = true then (l ++ [n], true) else (l, false)
def isOp (a : ByteArray) : Bool := if a.toList = ([97, 100, 100] : List UInt8) then true else if a.toList = ([115, 117, 98] : List UInt8) then true else if a.toList = ([109, 117, 108] : List UInt8) then true else if a.toList = ([110, 101, 103] : List UInt8) then true else if a.toList = ([100, 117, 112] : List UInt8) then true else if a.toList = ([112, 111, 112] : List UInt8) then true else if a.toList = ([101, 120, 99, 104] : List UInt8) then true else false
def stkCnt (a : ByteArray) : Int := if a.toList = ([110, 101, 103] : List UInt8) then 1 else if a.toList = ([100, 117, 112] : List UInt8) then 1 else if a.toList = ([112, 111, 112] : List UInt8) then 1 else 2
def stkRes (a : ByteArray) (r x : List Int) : List Int :=
  if a.toList = ([97, 100, 100] : List UInt8) then r ++ [wrap64 ((rd x 0) + (rd x 1))] else if a.toList = ([115, 117, 98] : List UInt8) then r ++ [wrap64 ((rd x 0) - (rd x 1))] else if a.toList = ([109, 117, 108] : List UInt8) then r ++ [wrap64 ((rd x 0) * (rd x 1))]
  else if a.toList = ([101, 120, 99, 104] : List UInt8) then r ++ [rd x 1, rd x 0] else if a.toList = ([110, 101, 103] : List UInt8) then r ++ [wrap64 (-(rd x 0))] else if a.toList = ([100, 117, 112] : List UInt8) then r ++ [rd x 0, rd x 0] else r
def stackOpV (l : List Int) (a : ByteArray) : List Int × Bool := if (takeN l (stkCnt a)).2.2 = true ∧ isOp a = true ∧ stkOk (stkRes a (takeN l (stkCnt a)).1 (takeN l (stkCnt a)).2.1) = true then (stkRes a (takeN l (stkCnt a)).1 (takeN l (stkCnt a)).2.1, true) else (l, false)
def takenV (a : ByteArray) : Int × Bool :=
  if a.toList = ([110, 101, 119] : List UInt8) then (0, true) else if a.toList = ([102, 105, 108, 108] : List UInt8) then (0, true) else if a.toList = ([99, 108, 105, 112] : List UInt8) then (0, true) else if a.toList = ([115, 97, 118, 101] : List UInt8) then (0, true) else if a.toList = ([114, 101, 115, 116, 111, 114, 101] : List UInt8) then (0, true)
  else if a.toList = ([103, 114, 97, 121] : List UInt8) then (1, true) else if a.toList = ([116, 117, 114, 110] : List UInt8) then (1, true) else if a.toList = ([115, 99, 97, 108, 101] : List UInt8) then (1, true)
  else if a.toList = ([109, 111, 118, 101, 116, 111] : List UInt8) then (2, true) else if a.toList = ([108, 105, 110, 101, 116, 111] : List UInt8) then (2, true) else if a.toList = ([115, 104, 105, 102, 116] : List UInt8) then (2, true) else if a.toList = ([114, 101, 99, 116] : List UInt8) then (4, true) else (0, false)
def qrt : Nat → Int → Int → Int × Int
  | 0, x, y => (x, y)
  | n + 1, x, y => qrt n (wrap64 (-y)) x
def movedV (t : S38) (x y : Int) : Int × Int := (wrap64 ((qrt t.f0.toNat (wrap64 (x * t.f1)) (wrap64 (y * t.f1))).1 + t.f2), wrap64 ((qrt t.f0.toNat (wrap64 (x * t.f1)) (wrap64 (y * t.f1))).2 + t.f3))
def tnOk (t : S38) : Bool := turnOk t.f0 t.f1 t.f2 t.f3
def joinT (a b : S38) : S38 := ⟨Int.tmod (wrap64 (a.f0 + b.f0)) 4, wrap64 (a.f1 * b.f1), (movedV b a.f2 a.f3).1, (movedV b a.f2 a.f3).2⟩
def joinV (a b : S38) : S38 × Bool := if tnOk a = true ∧ tnOk b = true ∧ tnOk (joinT a b) = true then (joinT a b, true) else (⟨0, 0, 0, 0⟩, false)
def mvP (t : S38) (x y : Int) : S111 := ⟨(movedV t x y).1, (movedV t x y).2⟩
def box4 (b : BoxT) : S40 := ⟨b.1, b.2.1, b.2.2.1, b.2.2.2⟩
def otherT (a : ByteArray) (x : List Int) : S38 := if a.toList = ([115, 104, 105, 102, 116] : List UInt8) then ⟨0, 1, rd x 0, rd x 1⟩ else if a.toList = ([116, 117, 114, 110] : List UInt8) then ⟨rd x 0, 1, 0, 0⟩ else if a.toList = ([115, 99, 97, 108, 101] : List UInt8) then ⟨0, rd x 0, 0, 0⟩ else ⟨0, 1, 0, 0⟩
def rectP (t : S38) (x : List Int) : List S111 := [mvP t (rd x 0) (rd x 1), mvP t (wrap64 (rd x 0 + rd x 2)) (rd x 1), mvP t (wrap64 (rd x 0 + rd x 2)) (wrap64 (rd x 1 + rd x 3)), mvP t (rd x 0) (wrap64 (rd x 1 + rd x 3))]
def paint (p : Pg) (a : ByteArray) (x : List Int) : Option Pg :=
  if a.toList = ([110, 101, 119] : List UInt8) then some { p with g := { p.g with f2 := [] } }
  else if a.toList = ([109, 111, 118, 101, 116, 111] : List UInt8) then some { p with g := { p.g with f2 := [mvP p.g.f1 (rd x 0) (rd x 1)] } }
  else if a.toList = ([108, 105, 110, 101, 116, 111] : List UInt8) then (if (p.g.f2.length : Int) = 0 then none else some { p with g := { p.g with f2 := p.g.f2 ++ [mvP p.g.f1 (rd x 0) (rd x 1)] } })
  else if a.toList = ([114, 101, 99, 116] : List UInt8) then (if inB (rd x 2) 0 200 = true ∧ inB (rd x 3) 0 200 = true then some { p with g := { p.g with f2 := rectP p.g.f1 x } } else none)
  else if a.toList = ([102, 105, 108, 108] : List UInt8) then (if (p.g.f2.length : Int) < 3 then none else some { p with g := { p.g with f2 := [] }, ob := p.ob ++ [⟨p.g.f2, p.g.f3, p.g.f4⟩] })
  else if a.toList = ([103, 114, 97, 121] : List UInt8) then some { p with g := { p.g with f3 := rd x 0 } }
  else if a.toList = ([99, 108, 105, 112] : List UInt8) then (if (p.g.f2.length : Int) = 0 then none else some { p with g := { p.g with f2 := [], f4 := box4 (meet (p.g.f4.f0, p.g.f4.f1, p.g.f4.f2, p.g.f4.f3) (boxOf p.g.f2)) } })
  else if a.toList = ([115, 97, 118, 101] : List UInt8) then some { p with sv := p.sv ++ [p.g] }
  else if a.toList = ([114, 101, 115, 116, 111, 114, 101] : List UInt8) then (if (p.sv.length : Int) = 0 then none else some { p with g := { rd_T42 p.sv ((p.sv.length : Int) - 1) with f0 := p.g.f0 }, sv := p.sv.take ((p.sv.length : Int) - 1).toNat })
  else if (joinV (otherT a x) p.g.f1).2 = true then some { p with g := { p.g with f1 := (joinV (otherT a x) p.g.f1).1 } } else none
abbrev setSt (p : Pg) (l : List Int) : Pg := { p with g := { p.g with f0 := l } }
def stepV (p : Pg) (a : ByteArray) (n : Int) : Option Pg :=
  if a.toList = ([] : List UInt8) then (if (pushN p.g.f0 n).2 = true then some (setSt p (pushN p.g.f0 n).1) else none)
  else if isOp a = true then (if (stackOpV p.g.f0 a).2 = true then some (setSt p (stackOpV p.g.f0 a).1) else none)
  else if (takenV a).2 = true then (if (takeN p.g.f0 (takenV a).1).2.2 = true then paint (setSt p (takeN p.g.f0 (takenV a).1).1) a (takeN p.g.f0 (takenV a).1).2.1 else none) else none
def finV (p : Pg) (s : Option Pg) : Pg × Bool := match s with
  | some q => if okP q = true then (q, true) else (p, false)
  | none => (p, false)
def exec (p : Pg) (a : ByteArray) (n : Int) : Pg × Bool := if okP p = true ∧ tokOk a n = true then finV p (stepV p a n) else (p, false)
theorem okP_fin {p : Pg} {s : Option Pg} (h : (finV p s).2 = true) : okP (finV p s).1 = true := by
  unfold finV at h ⊢
  split
  · split
    · assumption
    · rename_i q hq; simp [hq] at h
  · simp at h
theorem exec_ok {p : Pg} {a : ByteArray} {n : Int} (h : (exec p a n).2 = true) : okP (exec p a n).1 = true := by
  unfold exec at h ⊢
  split
  · rename_i c; rw [if_pos c] at h; exact okP_fin h
  · rename_i c; rw [if_neg c] at h; simp at h
theorem stk_len {l : List Int} (h : stkOk l = true) : (l.length : Int) ≤ 12 := by
  unfold stkOk at h
  simp only [Bool.and_eq_true, decide_eq_true_eq] at h
  exact h.2
theorem okP_small {p : Pg} (h : okP p = true) : pgN 12 p ∧ tnOk p.g.f1 = true := by
  unfold okP pgOk grOk at h
  simp only [Bool.and_eq_true, decide_eq_true_eq, List.all_eq_true] at h
  obtain ⟨⟨h1, h2, h3, ⟨h4, h5⟩, h6⟩, h7, h8, h9, h10⟩ := h
  refine ⟨⟨by have := stk_len h1; omega, by omega, by omega, fun x hx => ?_, by omega, fun x hx => ?_⟩, h2⟩
  · have h11 := h9 x hx
    unfold grO grOk at h11
    simp only [Bool.and_eq_true, decide_eq_true_eq] at h11
    have := stk_len h11.1
    have := h11.2.2.2.1.2
    exact ⟨by omega, by omega⟩
  · unfold objsOk at h10
    have h11 := List.all_eq_true.1 h10 x hx
    unfold objOk at h11
    simp only [Bool.and_eq_true, decide_eq_true_eq] at h11
    omega
theorem pgN_mono {m n : Nat} {p : Pg} (h : pgN m p) (hmn : m ≤ n) : pgN n p := ⟨by have := h.1; omega, by have := h.2.1; omega, by have := h.2.2.1; omega, fun x hx => ⟨by have := (h.2.2.2.1 x hx).1; omega, by have := (h.2.2.2.1 x hx).2; omega⟩, by have := h.2.2.2.2.1; omega, fun x hx => by have := h.2.2.2.2.2 x hx; omega⟩
theorem iClone_eq (l : List Int) (h : l.length ≤ 2000000) : slices_Clone_int_int.f l = some l := by
  have c : l.length < 17592186044416 := by omega
  simp [slices_Clone_int_int.f, c]
theorem iCloneP_eq (l : List S111) (h : l.length ≤ 2000000) : impl_Point.f l = some l := by
  have c : l.length < 8796093022208 := by omega
  simp [impl_Point.f, c]
theorem icopyG_eq (st : List Int) (p q r s : Int) (l : List S111) (g t u v x : Int) (hs : st.length ≤ 2000000) (hl : l.length ≤ 2000000) : impl_copyGraphics.f st p q r s l g t u v x = some (st, p, q, r, s, l, g, t, u, v, x) := by
  simp only [impl_copyGraphics.f, iClone_eq st hs, iCloneP_eq l hl, Option.bind_some]
theorem icopyOs_ev (O : List S103) (hO : O.length ≤ 2000000) (hx : ∀ x ∈ O, x.f0.length ≤ 2000000) : Ev (fun k => impl_copyObjects.f k O) O := by
  simp only [impl_copyObjects.f]
  refine ev_loop O (F := fun k s i => impl_copyObjects.l0 k s O O.length i) (fun pre _ s => s = pre) (fun _ _ _ => O) ?_ ?_ [] rfl
  · rintro s rfl
    simp only [impl_copyObjects.l0, end_lt, if_false]; exact Ev.now _
  · rintro pre x rest s e rfl h
    have hxx := hx x (by rw [e]; simp)
    have hpl : s.length ≤ 2000000 := by have := congrArg List.length e; simp at this; omega
    have hlt : (s.length : Int) < (O.length : Int) := by rw [e, mid_len]; omega
    have hw : wrap64 ((s.length : Int) + 1) = ((s ++ [x]).length : Int) := mid_wrap (pre := s) (rest := rest) (x := x) (by rw [← e, maxLen_eq]; omega)
    have hrd : rd_T103 O (s.length : Int) = x := by rw [e]; simp [rd_T103, List.getD_eq_getElem?_getD]
    simp only [impl_copyObjects.l0, if_pos hlt, mid_nn, if_true, hrd, hw, impl_copyObject.f, iCloneP_eq x.f0 hxx, Option.bind_some, if_pos (show s.length < 2199023255552 by omega)]
    exact h (s ++ [x]) rfl
theorem iIsStackOp_eq (a : ByteArray) : impl_IsStackOp.f a = some (isOp a) := by
  unfold impl_IsStackOp.f isOp
  repeat' split
  all_goals rfl
theorem iTaken_ev (a : ByteArray) : Ev (fun k => impl_taken.f k a) (takenV a) := by
  have j2 : ∀ b : Bool, (b = true → takenV a = (2, true)) → (b = false → takenV a = if a.toList = ([114, 101, 99, 116] : List UInt8) then (4, true) else (0, false)) → Ev (fun k => impl_taken.j2 k a b) (takenV a) := fun b h1 h2 => by
    refine Ev.up ?_
    simp only [impl_taken.j2]
    cases b with
    | true => simp only [if_true, h1]; exact Ev.now _
    | false => simp only [Bool.false_eq_true, if_false, h2]; exact Ev.ite (fun z => by rw [if_pos z]; exact Ev.now _) (fun z => by rw [if_neg z]; exact Ev.now _)
  simp only [impl_taken.f]
  by_cases n1 : a.toList = ([110, 101, 119] : List UInt8)
  · simp only [if_pos n1, beq_iff_eq.2 n1, takenV]; exact Ev.up (by simp only [impl_taken.j0, if_true]; exact Ev.now _)
  by_cases n2 : a.toList = ([102, 105, 108, 108] : List UInt8)
  · simp only [if_neg n1, if_pos n2, beq_iff_eq.2 n2, takenV]; exact Ev.up (by simp only [impl_taken.j0, if_true]; exact Ev.now _)
  by_cases n3 : a.toList = ([99, 108, 105, 112] : List UInt8)
  · simp only [if_neg n1, if_neg n2, if_pos n3, beq_iff_eq.2 n3, takenV]; exact Ev.up (by simp only [impl_taken.j0, if_true]; exact Ev.now _)
  by_cases n4 : a.toList = ([115, 97, 118, 101] : List UInt8)
  · simp only [if_neg n1, if_neg n2, if_neg n3, if_pos n4, beq_iff_eq.2 n4, takenV]; exact Ev.up (by simp only [impl_taken.j0, if_true]; exact Ev.now _)
  by_cases n5 : a.toList = ([114, 101, 115, 116, 111, 114, 101] : List UInt8)
  · simp only [if_neg n1, if_neg n2, if_neg n3, if_neg n4, if_pos n5, beq_iff_eq.2 n5, takenV]; exact Ev.up (by simp only [impl_taken.j0, if_true]; exact Ev.now _)
  simp only [if_neg n1, if_neg n2, if_neg n3, if_neg n4, beq_eq_false_iff_ne.2 n5]
  refine Ev.up ?_
  simp only [impl_taken.j0, Bool.false_eq_true, if_false]
  by_cases m1 : a.toList = ([103, 114, 97, 121] : List UInt8)
  · simp only [if_pos m1, beq_iff_eq.2 m1, takenV, if_neg n1, if_neg n2, if_neg n3, if_neg n4, if_neg n5]; exact Ev.up (by simp only [impl_taken.j1, if_true]; exact Ev.now _)
  by_cases m2 : a.toList = ([116, 117, 114, 110] : List UInt8)
  · simp only [if_neg m1, if_pos m2, beq_iff_eq.2 m2, takenV, if_neg n1, if_neg n2, if_neg n3, if_neg n4, if_neg n5]; exact Ev.up (by simp only [impl_taken.j1, if_true]; exact Ev.now _)
  by_cases m3 : a.toList = ([115, 99, 97, 108, 101] : List UInt8)
  · simp only [if_neg m1, if_neg m2, if_pos m3, beq_iff_eq.2 m3, takenV, if_neg n1, if_neg n2, if_neg n3, if_neg n4, if_neg n5]; exact Ev.up (by simp only [impl_taken.j1, if_true]; exact Ev.now _)
  simp only [if_neg m1, if_neg m2, beq_eq_false_iff_ne.2 m3]
  refine Ev.up ?_
  simp only [impl_taken.j1, Bool.false_eq_true, if_false]
  have base : takenV a = if a.toList = ([109, 111, 118, 101, 116, 111] : List UInt8) then (2, true) else if a.toList = ([108, 105, 110, 101, 116, 111] : List UInt8) then (2, true) else if a.toList = ([115, 104, 105, 102, 116] : List UInt8) then (2, true) else if a.toList = ([114, 101, 99, 116] : List UInt8) then (4, true) else (0, false) := by
    unfold takenV
    simp only [if_neg n1, if_neg n2, if_neg n3, if_neg n4, if_neg n5, if_neg m1, if_neg m2, if_neg m3]
  by_cases q1 : a.toList = ([109, 111, 118, 101, 116, 111] : List UInt8)
  · simp only [if_pos q1]; exact j2 _ (fun _ => by rw [base, if_pos q1]) (fun h => absurd q1 (beq_eq_false_iff_ne.1 h))
  by_cases q2 : a.toList = ([108, 105, 110, 101, 116, 111] : List UInt8)
  · simp only [if_neg q1, if_pos q2]; exact j2 _ (fun _ => by rw [base, if_neg q1, if_pos q2]) (fun h => absurd q2 (beq_eq_false_iff_ne.1 h))
  simp only [if_neg q1, if_neg q2]
  exact j2 _ (fun h => by rw [base, if_neg q1, if_neg q2, if_pos (beq_iff_eq.1 h)]) (fun h => by rw [base, if_neg q1, if_neg q2, if_neg (beq_eq_false_iff_ne.1 h)])
theorem iTake_ev (l : List Int) (n : Int) (hl : l.length ≤ 2000000) (hn : 0 ≤ n) (hn2 : n ≤ 100) : Ev (fun k => impl_TakeNumbers.f k l n) (takeN l n) := by
  simp only [impl_TakeNumbers.f, within_eq, Option.bind_some]
  unfold takeN
  have no : Ev (fun k => impl_TakeNumbers.j0 k l n true) (l, [], false) := Ev.up (by simp only [impl_TakeNumbers.j0, if_true, iClone_eq l hl, Option.bind_some]; exact Ev.now _)
  refine Ev.bind (iStackOk_ev l (by rw [maxLen_eq]; omega)) ?_
  cases hs : stkOk l with
  | false => simp only [Bool.false_eq_true, if_false, false_and]; exact no
  | true =>
    simp only [if_true, true_and]
    cases hb : inB n 0 (l.length : Int) with
    | false => simp only [Bool.not_false, Bool.false_eq_true, if_false]; exact no
    | true =>
      have hb2 := inB_iff.1 hb
      have hw : wrap64 ((l.length : Int) - n) = (l.length : Int) - n := wrap_id (by omega) (by omega)
      refine Ev.up ?_
      simp only [Bool.not_true, impl_TakeNumbers.j0, Bool.false_eq_true, if_false, hw, if_pos (show 0 ≤ (l.length : Int) - n by omega), if_pos (show (l.length : Int) - n ≤ (l.length : Int) by omega), if_true]
      rw [iClone_eq _ (by rw [List.length_take]; omega), iClone_eq _ (by rw [List.length_drop]; omega)]
      exact Ev.now _
theorem iPush_ev (l : List Int) (n : Int) (hl : l.length ≤ 2000000) : Ev (fun k => impl_PushNumber.f k l n) (pushN l n) := by
  simp only [impl_PushNumber.f, iClone_eq l hl, Option.bind_some, if_pos (show l.length < 17592186044416 by omega)]
  unfold pushN
  refine Ev.bind (iStackOk_ev l (by rw [maxLen_eq]; omega)) ?_
  cases hs : stkOk l with
  | false => simp only [Bool.false_eq_true, if_false, false_and]; exact Ev.now _
  | true =>
    simp only [if_true, true_and]
    refine Ev.bind (iStackOk_ev (l ++ [n]) (by rw [maxLen_eq, List.length_append, List.length_singleton]; omega)) ?_
    exact Ev.iteB (fun h => by rw [if_pos h]; exact Ev.now _) (fun h => by rw [h]; simp only [Bool.false_eq_true, if_false]; exact Ev.now _)
theorem takeN_facts {l : List Int} {n : Int} (hn : 0 ≤ n) : (takeN l n).1.length ≤ l.length ∧ (takeN l n).2.1.length ≤ l.length ∧ ((takeN l n).2.2 = true → ((takeN l n).2.1.length : Int) = n) := by
  unfold takeN
  split
  · rename_i h
    have hb := inB_iff.1 h.2
    refine ⟨by rw [List.length_take]; omega, by rw [List.length_drop]; omega, fun _ => ?_⟩
    rw [List.length_drop]; omega
  · simp
theorem stkCnt_bd (a : ByteArray) : 0 ≤ stkCnt a ∧ stkCnt a ≤ 2 := by unfold stkCnt; repeat' split <;> omega
theorem iStackOp_ev (l : List Int) (a : ByteArray) (hl : l.length ≤ 2000000) : Ev (fun k => impl_StackOp.f k l a) (stackOpV l a) := by
  have hc := stkCnt_bd a
  have main : Ev (fun k => impl_StackOp.j0 k l a (stkCnt a)) (stackOpV l a) := by
    refine Ev.up ?_
    simp only [impl_StackOp.j0, iIsStackOp_eq, Option.bind_some]
    refine Ev.bind (iTake_ev l (stkCnt a) hl hc.1 (by omega)) ?_
    obtain ⟨t1, t2, t3⟩ := takeN_facts (l := l) hc.1
    unfold stackOpV
    generalize takeN l (stkCnt a) = Z at t1 t2 t3 ⊢
    obtain ⟨r, x, ok⟩ := Z
    simp only at t1 t2 t3 ⊢
    have no : ∀ r' x', Ev (fun k => impl_StackOp.j1 k l a r' x' true) (l, false) := fun r' x' => Ev.up (by simp only [impl_StackOp.j1, if_true, iClone_eq l hl, Option.bind_some]; exact Ev.now _)
    cases ok with
    | false => simp only [Bool.false_eq_true, if_false, false_and]; exact no _ _
    | true =>
      simp only [if_true, true_and]
      cases ho : isOp a with
      | false => simp only [Bool.not_false, Bool.false_eq_true, false_and, if_false]; exact no _ _
      | true =>
        simp only [Bool.not_true, true_and]
        have t4 := t3 rfl
        have fin : ∀ y : List Int, y.length ≤ 3000000 → Ev (fun k => impl_StackOp.j2 k l y) (if stkOk y = true then (y, true) else (l, false)) := fun y hy => Ev.up (by
          simp only [impl_StackOp.j2, iClone_eq l hl, Option.bind_some]
          refine Ev.bind (iStackOk_ev y (by rw [maxLen_eq]; omega)) ?_
          exact Ev.iteB (fun h => by rw [if_pos h]; exact Ev.now _) (fun h => by rw [h]; simp only [Bool.false_eq_true, if_false]; exact Ev.now _))
        refine Ev.up ?_
        simp only [impl_StackOp.j1, Bool.false_eq_true, if_false, Option.bind_some]
        have hr : r.length < 17592186044416 := by omega
        by_cases o1 : a.toList = ([97, 100, 100] : List UInt8)
        · have c2 : (x.length : Int) = 2 := by rw [t4, stkCnt, if_neg (by rw [o1]; decide), if_neg (by rw [o1]; decide), if_neg (by rw [o1]; decide)]
          simp only [if_pos o1, if_pos (show (0 : Int) < x.length by omega), if_pos (show (1 : Int) < x.length by omega), if_pos hr, stkRes]
          exact fin _ (by simp; omega)
        by_cases o2 : a.toList = ([115, 117, 98] : List UInt8)
        · have c2 : (x.length : Int) = 2 := by rw [t4, stkCnt, if_neg (by rw [o2]; decide), if_neg (by rw [o2]; decide), if_neg (by rw [o2]; decide)]
          simp only [if_neg o1, if_pos o2, if_pos (show (0 : Int) < x.length by omega), if_pos (show (1 : Int) < x.length by omega), if_pos hr, stkRes]
          exact fin _ (by simp; omega)
        by_cases o3 : a.toList = ([109, 117, 108] : List UInt8)
        · have c2 : (x.length : Int) = 2 := by rw [t4, stkCnt, if_neg (by rw [o3]; decide), if_neg (by rw [o3]; decide), if_neg (by rw [o3]; decide)]
          simp only [if_neg o1, if_neg o2, if_pos o3, if_pos (show (0 : Int) < x.length by omega), if_pos (show (1 : Int) < x.length by omega), if_pos hr, stkRes]
          exact fin _ (by simp; omega)
        by_cases o4 : a.toList = ([101, 120, 99, 104] : List UInt8)
        · have c2 : (x.length : Int) = 2 := by rw [t4, stkCnt, if_neg (by rw [o4]; decide), if_neg (by rw [o4]; decide), if_neg (by rw [o4]; decide)]
          simp only [if_neg o1, if_neg o2, if_neg o3, if_pos o4, if_pos (show (0 : Int) < x.length by omega), if_pos (show (1 : Int) < x.length by omega), List.length_cons, List.length_nil, if_pos (show r.length + (0 + 1 + 1) < 17592186044416 by omega), stkRes]
          exact fin _ (by simp; omega)
        by_cases o5 : a.toList = ([110, 101, 103] : List UInt8)
        · have c2 : (x.length : Int) = 1 := by rw [t4, stkCnt, if_pos o5]
          simp only [if_neg o1, if_neg o2, if_neg o3, if_neg o4, if_pos o5, if_pos (show (0 : Int) < x.length by omega), if_pos hr, stkRes]
          exact fin _ (by simp; omega)
        by_cases o6 : a.toList = ([100, 117, 112] : List UInt8)
        · have c2 : (x.length : Int) = 1 := by rw [t4, stkCnt, if_neg o5, if_pos o6]
          simp only [if_neg o1, if_neg o2, if_neg o3, if_neg o4, if_neg o5, if_pos o6, if_pos (show (0 : Int) < x.length by omega), List.length_cons, List.length_nil, if_pos (show r.length + (0 + 1 + 1) < 17592186044416 by omega), stkRes]
          exact fin _ (by simp; omega)
        · simp only [if_neg o1, if_neg o2, if_neg o3, if_neg o4, if_neg o5, if_neg o6, stkRes]
          exact fin _ (by omega)
  simp only [impl_StackOp.f]
  unfold stkCnt at main
  by_cases o1 : a.toList = ([110, 101, 103] : List UInt8)
  · simp only [if_pos o1] at main ⊢; exact main
  by_cases o2 : a.toList = ([100, 117, 112] : List UInt8)
  · simp only [if_neg o1, if_pos o2] at main ⊢; exact main
  by_cases o3 : a.toList = ([112, 111, 112] : List UInt8)
  · simp only [if_neg o1, if_neg o2, if_pos o3] at main ⊢; exact main
  · simp only [if_neg o1, if_neg o2, if_neg o3] at main ⊢; exact main
theorem iQuarters_ev : ∀ (n : Nat) (x y : Int), n ≤ 1000 → Ev (fun k => impl_quarters.l0 k (n : Int) x y) (qrt n x y)
  | 0, x, y, _ => Ev.up (by simp only [impl_quarters.l0, if_neg (show ¬ ((0 : Nat) : Int) > 0 by omega)]; exact Ev.now _)
  | n + 1, x, y, h => Ev.up (by
      have hw : wrap64 (((n + 1 : Nat) : Int) - 1) = (n : Int) := by rw [wrap_id (by omega) (by omega)]; omega
      simp only [impl_quarters.l0, if_pos (show ((n + 1 : Nat) : Int) > 0 by omega), hw]
      exact iQuarters_ev n _ _ (by omega))
theorem iMoved_ev (t : S38) (x y : Int) (h0 : 0 ≤ t.f0) (h1 : t.f0 ≤ 3) : Ev (fun k => impl_moved.f k t.f0 t.f1 t.f2 t.f3 x y) (movedV t x y) := by
  simp only [impl_moved.f, impl_quarters.f]
  have h := iQuarters_ev t.f0.toNat (wrap64 (x * t.f1)) (wrap64 (y * t.f1)) (by omega)
  rw [show ((t.f0.toNat : Nat) : Int) = t.f0 by omega] at h
  exact Ev.bind h (Ev.now _)
theorem tn_q {t : S38} (h : tnOk t = true) : 0 ≤ t.f0 ∧ t.f0 ≤ 3 := by
  unfold tnOk turnOk at h
  simp only [Bool.and_eq_true] at h
  exact inB_iff.1 h.1
def joinR (z : S38 × Bool) : Int × Int × Int × Int × Bool := (z.1.f0, z.1.f1, z.1.f2, z.1.f3, z.2)
theorem iJoin_ev (a b : S38) : Ev (fun k => impl_JoinTurns.f k a.f0 a.f1 a.f2 a.f3 b.f0 b.f1 b.f2 b.f3) (joinR (joinV a b)) := by
  simp only [impl_JoinTurns.f, iTurnOk_eq, Option.bind_some]
  unfold joinV
  have no : Ev (fun k => impl_JoinTurns.j0 k true a.f0 a.f1 a.f2 a.f3 b.f0 b.f1 b.f2 b.f3) (joinR (⟨0, 0, 0, 0⟩, false)) := Ev.up (by simp only [impl_JoinTurns.j0, if_true]; exact Ev.now _)
  cases h1 : tnOk a with
  | false =>
    have h1' : turnOk a.f0 a.f1 a.f2 a.f3 = false := h1
    simp only [h1', Bool.false_eq_true, if_false, false_and]; exact no
  | true =>
    have h1' : turnOk a.f0 a.f1 a.f2 a.f3 = true := h1
    simp only [h1', if_true, true_and]
    cases h2 : tnOk b with
    | false =>
      have h2' : turnOk b.f0 b.f1 b.f2 b.f3 = false := h2
      simp only [h2', Bool.not_false, Bool.false_eq_true, if_false, false_and]; exact no
    | true =>
      have h2' : turnOk b.f0 b.f1 b.f2 b.f3 = true := h2
      simp only [h2', Bool.not_true, true_and]
      refine Ev.up ?_
      simp only [impl_JoinTurns.j0, Bool.false_eq_true, if_false, iTurnOk_eq, Option.bind_some]
      have hq := tn_q h2
      refine Ev.bind (iMoved_ev b a.f2 a.f3 hq.1 hq.2) ?_
      cases h3 : tnOk (joinT a b) with
      | false =>
        have h3' : turnOk (Int.tmod (wrap64 (a.f0 + b.f0)) 4) (wrap64 (a.f1 * b.f1)) (movedV b a.f2 a.f3).1 (movedV b a.f2 a.f3).2 = false := h3
        simp only [h3', Bool.false_eq_true, if_false]; exact Ev.now _
      | true =>
        have h3' : turnOk (Int.tmod (wrap64 (a.f0 + b.f0)) 4) (wrap64 (a.f1 * b.f1)) (movedV b a.f2 a.f3).1 (movedV b a.f2 a.f3).2 = true := h3
        simp only [h3', if_true]; exact Ev.now _
end Go.Proofs.YtjkgponlahfnjaaGreat.Pure
