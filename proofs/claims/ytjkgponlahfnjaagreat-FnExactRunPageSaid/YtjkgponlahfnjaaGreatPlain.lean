/- Plain words on rounds: loops over lists, from some number of rounds on. -/
import Derived.RowKit
import Derived.Test.YtjkgponlahfnjaaGreatVInvWordsMore
namespace Go.Proofs.YtjkgponlahfnjaaGreat.Plain
open Go.RowKit Go.Proofs.YtjkgponlahfnjaaGreatW.PrintWords
theorem wrap_id {x : Int} (h0 : -9223372036854775808 ≤ x) (h1 : x ≤ 9223372036854775807) : wrap64 x = x := by unfold wrap64; omega
theorem maxLen_eq : maxLen = 9223372036854775807 := rfl
section
variable {α : Type} {pre rest : List α} {x : α}
theorem mid_len : ((pre ++ x :: rest).length : Int) = pre.length + 1 + rest.length := by simp; omega
theorem mid_lt : ((pre.length : Int) < ((pre ++ x :: rest).length : Int)) = True := by simp; omega
theorem mid_nn : (0 ≤ (pre.length : Int)) = True := by simp
theorem mid_wrap (h : (pre ++ x :: rest).length ≤ maxLen) : wrap64 ((pre.length : Int) + 1) = ((pre ++ [x]).length : Int) := by
  rw [maxLen_eq] at h
  simp at h
  rw [wrap_id (by omega) (by omega)]
  simp
theorem mid_get (z : α) : (pre ++ x :: rest).getD pre.length z = x := by simp [List.getD_eq_getElem?_getD]
theorem end_lt {xs : List α} : ((xs.length : Int) < (xs.length : Int)) = False := by simp
end
theorem Ev.up {α : Type} {g : Nat → Option α} {r : α} (h : Ev (fun k => g (k + 1)) r) : Ev g r := Ev.step (fun _ => rfl) h
theorem Ev.val {α : Type} {a r : α} (h : a = r) : Ev (fun _ => some a) r := h ▸ Ev.now a
theorem Ev.ite {α : Type} {c : Prop} [Decidable c] {f g : Nat → Option α} {r : α} (h1 : c → Ev f r) (h2 : ¬ c → Ev g r) : Ev (fun k => if c then f k else g k) r := by
  by_cases h : c
  · simpa [h] using h1 h
  · simpa [h] using h2 h
theorem Ev.iteB {α : Type} {b : Bool} {f g : Nat → Option α} {r : α} (h1 : b = true → Ev f r) (h2 : b = false → Ev g r) : Ev (fun k => if b = true then f k else g k) r :=
  Ev.ite h1 (fun h => h2 (by simpa using h))
theorem ev_loop {α β σ : Type} (xs : List α) {F : Nat → σ → Int → Option β} (Inv : List α → List α → σ → Prop) (g : List α → List α → σ → β)
    (hnil : ∀ s, Inv xs [] s → Ev (fun k => F (k + 1) s (xs.length : Int)) (g xs [] s))
    (hcons : ∀ pre x rest s, xs = pre ++ x :: rest → Inv pre (x :: rest) s → (∀ s', Inv (pre ++ [x]) rest s' → Ev (fun k => F k s' ((pre ++ [x]).length : Int)) (g (pre ++ [x]) rest s')) → Ev (fun k => F (k + 1) s (pre.length : Int)) (g pre (x :: rest) s)) :
    ∀ s, Inv [] xs s → Ev (fun k => F k s 0) (g [] xs s) := by
  have main : ∀ rest pre s, xs = pre ++ rest → Inv pre rest s → Ev (fun k => F k s (pre.length : Int)) (g pre rest s) := by
    intro rest
    induction rest with
    | nil =>
      intro pre s e hI
      have e' : xs = pre := by simpa using e
      subst e'
      exact Ev.up (hnil s hI)
    | cons x rest ih =>
      intro pre s e hI
      exact Ev.up (hcons pre x rest s e hI (fun s' hI' => ih (pre ++ [x]) s' (by simp [e]) hI'))
  intro s hI
  exact main xs [] s rfl hI
theorem ev_loop0 {α β : Type} (xs : List α) {F : Nat → Int → Option β} (g : List α → List α → β)
    (hnil : Ev (fun k => F (k + 1) (xs.length : Int)) (g xs []))
    (hcons : ∀ pre x rest, xs = pre ++ x :: rest → Ev (fun k => F k ((pre ++ [x]).length : Int)) (g (pre ++ [x]) rest) → Ev (fun k => F (k + 1) (pre.length : Int)) (g pre (x :: rest))) :
    Ev (fun k => F k 0) (g [] xs) :=
  ev_loop xs (F := fun k (_ : Unit) i => F k i) (fun _ _ _ => True) (fun p r _ => g p r) (fun _ _ => hnil) (fun pre x rest _ e _ h => hcons pre x rest e (h () trivial)) () trivial
theorem ev_fill {α γ : Type} (xs : List α) (f : α → γ) {F : Nat → List γ → Int → Option (List γ)}
    (hnil : ∀ s, Ev (fun k => F (k + 1) s (xs.length : Int)) s)
    (hcons : ∀ pre x rest s r, xs = pre ++ x :: rest → s.length = xs.length → Ev (fun k => F k (s.set pre.length (f x)) ((pre ++ [x]).length : Int)) r → Ev (fun k => F (k + 1) s (pre.length : Int)) r)
    (s : List γ) (hs : s.length = xs.length) : Ev (fun k => F k s 0) (xs.map f) := by
  refine ev_loop xs (F := F) (fun pre rest s => ∃ t, s = pre.map f ++ t ∧ t.length = rest.length) (fun _ _ _ => xs.map f) ?_ ?_ s ⟨s, rfl, hs⟩
  · rintro s ⟨t, rfl, ht⟩
    have : t = [] := List.eq_nil_of_length_eq_zero ht
    subst this
    rw [List.append_nil]
    exact hnil (xs.map f)
  · rintro pre x rest s e ⟨t, rfl, ht⟩ ih
    match t, ht with
    | y :: t, ht =>
      refine hcons pre x rest _ _ e (by rw [e]; simp at ht ⊢; omega) ?_
      have hset : (pre.map f ++ y :: t).set pre.length (f x) = (pre ++ [x]).map f ++ t := by
        rw [List.set_append_right _ _ (by simp)]
        simp
      rw [hset]
      exact ih _ ⟨t, rfl, by simpa using ht⟩
def inB (x lo hi : Int) : Bool := decide (lo ≤ x) && decide (x ≤ hi)
theorem inB_iff {x lo hi : Int} : inB x lo hi = true ↔ lo ≤ x ∧ x ≤ hi := by simp [inB]
theorem and_some (a b : Bool) : (if a = true then some b else some false) = some (a && b) := by cases a <;> rfl
theorem and_some_p (p : Prop) [Decidable p] (b : Bool) : (if p then some b else some false) = some (decide p && b) := by by_cases h : p <;> simp [h]
theorem Ev.andB {b : Bool} {f : Nat → Option Bool} {r : Bool} (h : b = true → Ev f r) : Ev (fun k => if b = true then f k else some false) (b && r) := by
  cases b
  · simpa using Ev.now false
  · simpa using h rfl
theorem Ev.andP {p : Prop} [Decidable p] {f : Nat → Option Bool} {r : Bool} (h : p → Ev f r) : Ev (fun k => if p then f k else some false) (decide p && r) := by
  by_cases c : p
  · simpa [c] using h c
  · simpa [c] using Ev.now false
def szN (n : Nat) (a : Int) : Int := if a - n < 0 then -1 else a - n
theorem szN_tells (n : Nat) (a : Int) (h0 : 0 ≤ a) : szN n a = -1 ∨ (0 ≤ szN n a ∧ szN n a ≤ a ∧ (n : Int) ≤ a) := by unfold szN; split <;> omega
def szL {α : Type} (f : α → Int → Int) : List α → Int → Int
  | [], a => a
  | x :: r, a => if f x a < 0 then -1 else szL f r (f x a)
theorem szL_tells {α : Type} {f : α → Int → Int} {P : α → Prop} (hf : ∀ x a, 0 ≤ a → a ≤ 1048576 → (f x a = -1 ∨ (0 ≤ f x a ∧ f x a ≤ a ∧ P x))) :
    ∀ l a, 0 ≤ a → a ≤ 1048576 → (szL f l a = -1 ∨ (0 ≤ szL f l a ∧ szL f l a ≤ a ∧ ∀ x ∈ l, P x)) := by
  intro l
  induction l with
  | nil => intro a h0 h1; exact .inr ⟨h0, Int.le_refl _, by simp⟩
  | cons x r ih =>
    intro a h0 h1
    unfold szL
    rcases hf x a h0 h1 with h | ⟨h2, h3, h4⟩
    · rw [h]; exact .inl rfl
    · rw [if_neg (by omega)]
      rcases ih (f x a) h2 (by omega) with h | ⟨h5, h6, h7⟩
      · exact .inl h
      · refine .inr ⟨h5, by omega, fun y hy => ?_⟩
        rcases List.mem_cons.1 hy with rfl | hy
        · exact h4
        · exact h7 y hy
def iota {α : Type} (st : Int) (mk : Int → α) (a : Int) : Nat → List α
  | 0 => []
  | n + 1 => mk a :: iota st mk (a + st) n
section
variable {α : Type} (st : Int) (mk : Int → α)
theorem iota_length : ∀ (a : Int) (n : Nat), (iota st mk a n).length = n
  | _, 0 => rfl
  | a, n + 1 => by simp [iota, iota_length _ n]
theorem iota_snoc : ∀ (a : Int) (n : Nat), iota st mk a (n + 1) = iota st mk a n ++ [mk (a + st * n)]
  | a, 0 => by simp [iota]
  | a, n + 1 => by
    rw [iota, iota_snoc (a + st) n, iota, List.cons_append]
    congr 4
    rw [Int.add_assoc, Int.natCast_succ, Int.mul_add, Int.mul_one, Int.add_comm st]
theorem iota_mid : ∀ (pre rest : List α) (x : α) (a : Int) (n : Nat), iota st mk a n = pre ++ x :: rest → x = mk (a + st * pre.length)
  | [], rest, x, a, 0, h => by simp [iota] at h
  | [], rest, x, a, n + 1, h => by simp [iota] at h; simp [h.1]
  | p :: pre, rest, x, a, 0, h => by simp [iota] at h
  | p :: pre, rest, x, a, n + 1, h => by
    simp [iota] at h
    rw [iota_mid pre rest x (a + st) n h.2]
    congr 1
    rw [List.length_cons, Int.natCast_succ, Int.mul_add, Int.mul_one, Int.add_assoc, Int.add_comm st]
theorem iota_set (a : Int) (pre rest : List α) (x : α) : (iota st mk a pre.length ++ x :: rest).set pre.length (mk (a + st * pre.length)) = iota st mk a (pre ++ [x]).length ++ rest := by
  rw [List.set_append_right _ _ (by rw [iota_length]; exact Nat.le_refl _), iota_length, Nat.sub_self, List.set_cons_zero, List.length_append, List.length_singleton, iota_snoc]
  simp
end
end Go.Proofs.YtjkgponlahfnjaaGreat.Plain
