/- The reference's blocks: what flattening answers, by value. -/
import Derived.Test.YtjkgponlahfnjaaGreatExSx
import Derived.Test.YtjkgponlahfnjaaGreatExCp
set_option linter.unusedVariables false
set_option linter.unusedSimpArgs false
set_option maxHeartbeats 8000000
set_option maxRecDepth 100000
namespace Go.Proofs.YtjkgponlahfnjaaGreat.Ex
open Go.RowKit Go.Proofs.YtjkgponlahfnjaaGreatW.PrintWords Go.Proofs.YtjkgponlahfnjaaGreatW.PrintLast Go.Proofs.YtjkgponlahfnjaaGreatW.PrintMore
open Go.Proofs.YtjkgponlahfnjaaGreat.QFnExactRunPage Go.Proofs.YtjkgponlahfnjaaGreat.Pure Go.Proofs.YtjkgponlahfnjaaGreat.Plain
def repL : Nat → List S50 → List S50
  | 0, _ => []
  | n + 1, i => i ++ repL n i
theorem repN_eq : ∀ (n : Nat) (i o : List S50), repN n i o = o ++ repL n i
  | 0, i, o => by simp [repN, repL]
  | n + 1, i, o => by rw [repN, repN_eq n i (o ++ i), repL, List.append_assoc]
theorem repL_len : ∀ (n : Nat) (i : List S50), (repL n i).length = n * i.length
  | 0, i => by simp [repL]
  | n + 1, i => by rw [repL, List.length_append, repL_len n i, Nat.succ_mul]; omega
inductive FB : Nat → List S50 → List S50 → Prop
  | nil (d : Nat) : FB d [] []
  | one {d : Nat} {t : S50} {r o : List S50} (h1 : t.f0.toList ≠ nRep) (h2 : t.f0.toList ≠ nEnd) (h : FB d r o) : FB d (t :: r) (t :: o)
  | blk {d : Nat} {t R E : S50} {m i r o : List S50} (ht : t.f0.toList = []) (h0 : 0 ≤ t.f1) (h9 : t.f1 ≤ 9) (hR : R.f0.toList = nRep) (hE : E.f0.toList = nEnd) (hm : FB d m i) (hr : FB (d + 1) r o) : FB (d + 1) (t :: R :: (m ++ E :: r)) (repL t.f1.toNat i ++ o)
theorem nil_ne {t : S50} (h : t.f0.toList = []) : t.f0.toList ≠ nRep ∧ t.f0.toList ≠ nEnd := by rw [h]; exact ⟨by decide, by decide⟩
theorem FB.head {d : Nat} {t : S50} {r o : List S50} (h : FB d (t :: r) o) : t.f0.toList ≠ nRep := by
  cases h with
  | one h1 h2 _ => exact h1
  | blk ht _ _ _ _ _ _ => exact (nil_ne ht).1
theorem FB.len {d : Nat} {l o : List S50} (h : FB d l o) : o.length ≤ l.length * 9 ^ d := by
  induction h with
  | nil d => simp
  | @one d t r o h1 h2 h ih =>
    rw [List.length_cons, List.length_cons, Nat.succ_mul]
    have : 1 ≤ 9 ^ d := Nat.pow_pos (by omega)
    omega
  | @blk d t R E m i r o ht h0 h9 hR hE hm hr ihm ihr =>
    rw [List.length_append, repL_len, List.length_cons, List.length_cons, List.length_append, List.length_cons]
    have a : t.f1.toNat * i.length ≤ 9 * (m.length * 9 ^ d) := Nat.mul_le_mul (by omega) ihm
    have b : 9 * (m.length * 9 ^ d) = m.length * 9 ^ (d + 1) := by rw [Nat.pow_succ, Nat.mul_left_comm, Nat.mul_comm 9 (9 ^ d)]
    have c : m.length * 9 ^ (d + 1) + r.length * 9 ^ (d + 1) ≤ (m.length + (r.length + 1) + 1 + 1) * 9 ^ (d + 1) := by rw [← Nat.add_mul]; exact Nat.mul_le_mul_right _ (by omega)
    omega
theorem not_rep {t : S50} {r : List S50} {p : S50} {d : Int} (h : blkGo (some p) d (t :: r) = true) (hp : p.f0.toList ≠ []) : t.f0.toList ≠ nRep := fun hz => by
  simp only [blkGo, if_pos hz, repOk, if_neg hp, Bool.false_and] at h
  cases h
theorem FB.of : ∀ (n : Nat) (rest : List S50) (p : Option S50) (dd : Int), rest.length < n → 0 ≤ dd → dd ≤ 3 → blkGo p dd rest = true → (∀ t r, rest = t :: r → t.f0.toList ≠ nRep) →
    ∃ mid rest' o, rest = mid ++ rest' ∧ FB (3 - dd).toNat mid o ∧ ((rest' = [] ∧ dd = 0) ∨ ∃ E r', rest' = E :: r' ∧ E.f0.toList = nEnd ∧ 1 ≤ dd ∧ blkGo (some E) (dd - 1) r' = true) := by
  intro n
  induction n with
  | zero => intro rest p dd hn; omega
  | succ n ih =>
    intro rest p dd hn h0 h3 hb hh
    match rest, hn, hb, hh with
    | [], hn, hb, hh =>
      simp only [blkGo, beq_iff_eq] at hb
      exact ⟨[], [], [], rfl, .nil _, .inl ⟨rfl, hb⟩⟩
    | t :: r, hn, hb, hh =>
      have ht := hh t r rfl
      rw [List.length_cons] at hn
      by_cases z : t.f0.toList = nEnd
      · simp only [blkGo, if_neg ht, if_pos z, Bool.and_eq_true, decide_eq_true_eq] at hb
        exact ⟨[], t :: r, [], rfl, .nil _, .inr ⟨t, r, rfl, z, by omega, hb.2⟩⟩
      · simp only [blkGo, if_neg ht, if_neg z] at hb
        match r, hn, hb with
        | [], hn, hb =>
          simp only [blkGo, beq_iff_eq] at hb
          exact ⟨[t], [], [t], rfl, .one ht z (.nil _), .inl ⟨rfl, hb⟩⟩
        | R :: r2, hn, hb =>
          rw [List.length_cons] at hn
          by_cases y : R.f0.toList = nRep
          · simp only [blkGo, if_pos y, Bool.and_eq_true, decide_eq_true_eq] at hb
            obtain ⟨hq, hd, hb⟩ := hb
            obtain ⟨hte, hq9⟩ : t.f0.toList = [] ∧ inB t.f1 0 9 = true := by
              simp only [repOk] at hq
              split at hq
              · exact ⟨by assumption, hq⟩
              · cases hq
            have hq9 := inB_iff.1 hq9
            obtain ⟨m1, s1, o1, e1, f1, g1⟩ := ih r2 (some R) (dd + 1) (by omega) (by omega) hd hb (fun t2 r3 e2 => by rw [e2] at hb; exact not_rep hb (by rw [y]; decide))
            rcases g1 with ⟨_, g1⟩ | ⟨E, r3, rfl, hE, _, g1⟩
            · omega
            · rw [show dd + 1 - 1 = dd by omega] at g1
              have hl := congrArg List.length e1
              rw [List.length_append, List.length_cons] at hl
              obtain ⟨m2, s2, o2, e2, f2, g2⟩ := ih r3 (some E) dd (by omega) h0 h3 g1 (fun t2 r4 e4 => by rw [e4] at g1; exact not_rep g1 (by rw [hE]; decide))
              have hdd : (3 - dd).toNat = (3 - (dd + 1)).toNat + 1 := by omega
              rw [hdd] at f2 ⊢
              exact ⟨t :: R :: (m1 ++ E :: m2), s2, _, by rw [e1, e2]; simp, .blk hte hq9.1 hq9.2 y hE f1 f2, g2⟩
          · obtain ⟨m1, s1, o1, e1, f1, g1⟩ := ih (R :: r2) (some t) dd (by rw [List.length_cons]; omega) h0 h3 hb (fun t2 r4 e4 => by injection e4 with e4 _; rw [← e4]; exact y)
            exact ⟨t :: m1, s1, t :: o1, by rw [List.cons_append, ← e1], .one ht z f1, g1⟩
theorem FB.impl {d : Nat} {l o : List S50} (h : FB d l o) : ∀ (n : Nat) (rest o0 : List S50), (l ++ rest).length < n → (∀ t r, rest = t :: r → t.f0.toList = nEnd) → flatGo n (l ++ rest) o0 = (o0 ++ o, rest) := by
  induction h with
  | nil d =>
    intro n rest o0 hn hr
    match n, rest, hn, hr with
    | n + 1, [], hn, hr => simp [flatGo]
    | n + 1, t :: r, hn, hr => simp [flatGo, hr t r rfl]
  | @one d t r o h1 h2 h ih =>
    intro n rest o0 hn hr
    match n, hn with
    | n + 1, hn =>
      rw [List.cons_append, flatGo, if_neg h2, if_neg h1, ih n rest (o0 ++ [t]) (by simp at hn ⊢; omega) hr]
      simp
  | @blk d t R E m i r o ht h0 h9 hR hE hm hr ihm ihr =>
    intro n rest o0 hn hre
    have hn' : m.length + r.length + rest.length + 3 < n := by simp at hn; omega
    match n, hn' with
    | n + 2, hn' =>
      have hRE : R.f0.toList ≠ nEnd := by rw [hR]; decide
      have e : (t :: R :: (m ++ E :: r)) ++ rest = t :: R :: (m ++ E :: (r ++ rest)) := by simp
      rw [e, flatGo, if_neg (nil_ne ht).2, if_neg (nil_ne ht).1, flatGo, if_neg hRE, if_pos hR, ihm n (E :: (r ++ rest)) [] (by simp; omega) (fun t2 r2 e2 => by injection e2 with e2 _; rw [← e2]; exact hE)]
      simp only [List.tail_cons, List.getLastD_concat, List.dropLast_concat, List.nil_append]
      rw [ihr n rest _ (by simp; omega) hre, repN_eq, List.append_assoc]
section
variable {l pre r : List S50} {t : S50} (e : l = pre ++ t :: r) (hl : l.length ≤ 60)
include e hl
theorem stp1 : (pre.length : Int) < (l.length : Int) ∧ rd_T50 l (pre.length : Int) = t ∧ wrap64 ((pre.length : Int) + 1) = ((pre ++ [t]).length : Int) := by
  have hll := congrArg List.length e
  rw [List.length_append, List.length_cons] at hll
  refine ⟨by omega, by rw [e]; simp [rd_T50, List.getD_eq_getElem?_getD], ?_⟩
  rw [wrap_id (by omega) (by omega), List.length_append]; rfl
theorem end_one {dep dep' : Int} {R : Int} (hd : -100 ≤ dep ∧ dep ≤ 100) (hd' : dep' = if t.f0.toList = nRep then dep + 1 else if t.f0.toList = nEnd then dep - 1 else dep) (h : Ev (fun k => spec_l06End.l0 k l ((pre ++ [t]).length : Int) dep') R) (hn : dep' ≠ 0) : Ev (fun k => spec_l06End.l0 k l (pre.length : Int) dep) R := by
  obtain ⟨s1, s2, s3⟩ := stp1 e hl
  refine Ev.up ?_
  simp only [spec_l06End.l0, if_pos s1, mid_nn, if_true, s2, s3, wrap_id (show -9223372036854775808 ≤ dep + 1 by omega) (by omega), wrap_id (show -9223372036854775808 ≤ dep - 1 by omega) (by omega)]
  by_cases z : t.f0.toList = nRep
  · rw [if_pos z] at hd'; subst hd'; simp only [if_pos z, if_neg hn]; exact h
  · by_cases y : t.f0.toList = nEnd
    · rw [if_neg z, if_pos y] at hd'; subst hd'; simp only [if_neg z, if_pos y, if_neg hn]; exact h
    · rw [if_neg z, if_neg y] at hd'; subst hd'; simp only [if_neg z, if_neg y, if_neg hn]; exact h
theorem end_at (hE : t.f0.toList = nEnd) : Ev (fun k => spec_l06End.l0 k l (pre.length : Int) 1) (pre.length : Int) := by
  obtain ⟨s1, s2, s3⟩ := stp1 e hl
  refine Ev.up ?_
  have z : t.f0.toList ≠ nRep := by rw [hE]; decide
  have w1 : wrap64 ((1 : Int) - 1) = 0 := by rw [wrap_id (by omega) (by omega)]; rfl
  simp only [spec_l06End.l0, if_pos s1, mid_nn, if_true, s2, if_neg z, if_pos hE, w1]
  exact Ev.now _
end
theorem FB.pass {d : Nat} {m o : List S50} (h : FB d m o) : ∀ (l pre r : List S50) (dep : Int) (R : Int), l = pre ++ m ++ r → l.length ≤ 60 → 1 ≤ dep → dep + d ≤ 90 → Ev (fun k => spec_l06End.l0 k l ((pre ++ m).length : Int) dep) R → Ev (fun k => spec_l06End.l0 k l (pre.length : Int) dep) R := by
  induction h with
  | nil d => intro l pre r dep R e hl h1 h2 h; simpa using h
  | @one d t r' o n1 n2 h ih =>
    intro l pre r dep R e hl h1 h2 hh
    refine end_one (t := t) (r := r' ++ r) (dep' := dep) (by rw [e]; simp) hl (by omega) (by rw [if_neg n1, if_neg n2]) ?_ (by omega)
    exact ih l (pre ++ [t]) r dep R (by rw [e]; simp) hl h1 h2 (by simpa using hh)
  | @blk d t Rp E m i r' o ht h0 h9 hR hE hm hr ihm ihr =>
    intro l pre r dep R e hl h1 h2 hh
    refine end_one (t := t) (r := Rp :: (m ++ E :: r') ++ r) (dep' := dep) (by rw [e]; simp) hl (by omega) (by rw [if_neg (nil_ne ht).1, if_neg (nil_ne ht).2]) ?_ (by omega)
    refine end_one (t := Rp) (r := m ++ E :: r' ++ r) (dep' := dep + 1) (by rw [e]; simp) hl (by omega) (by rw [if_pos hR]) ?_ (by omega)
    refine ihm l (pre ++ [t] ++ [Rp]) (E :: r' ++ r) (dep + 1) R (by rw [e]; simp) hl (by omega) (by omega) ?_
    refine end_one (t := E) (r := r' ++ r) (dep' := dep) (by rw [e]; simp) hl (by omega) (by rw [if_neg (by rw [hE]; decide), if_pos hE]; omega) ?_ (by omega)
    exact ihr l (pre ++ [t] ++ [Rp] ++ m ++ [E]) r dep R (by rw [e]; simp) hl h1 (by omega) (by simpa using hh)
theorem flat_loop {l i : List S50} {pre r : List S50} {t : S50} {ee : Int} (e : l = pre ++ t :: r) (hl : l.length ≤ 60) (h0 : 0 ≤ t.f1) (h9 : t.f1 ≤ 9) (he : 0 ≤ ee ∧ ee ≤ 100) {R : List S50} : ∀ (n : Nat) (x : List S50) (j : Int), j = t.f1 - n → n ≤ t.f1.toNat → x.length + n * i.length ≤ 1000000 →
    Ev (fun k => spec_l06Flat.l0 k l (x ++ repL n i) (ee + 1)) R → Ev (fun k => spec_l06Flat.l1 k l x (pre.length : Int) ee i j) R := by
  obtain ⟨s1, s2, s3⟩ := stp1 e hl
  intro n
  induction n with
  | zero =>
    intro x j hj hn hx h
    refine Ev.up ?_
    simp only [spec_l06Flat.l1, if_pos s1, mid_nn, if_true, s2, if_neg (show ¬ j < t.f1 by omega), wrap_id (show -9223372036854775808 ≤ ee + 1 by omega) (by omega)]
    simpa [repL] using h
  | succ n ih =>
    intro x j hj hn hx h
    rw [Nat.succ_mul] at hx
    refine Ev.up ?_
    simp only [spec_l06Flat.l1, if_pos s1, mid_nn, if_true, s2, if_pos (show j < t.f1 by omega), if_pos (show x.length + i.length < 5864062014805 by omega), wrap_id (show -9223372036854775808 ≤ j + 1 by omega) (by omega)]
    exact ih (x ++ i) (j + 1) (by omega) (by omega) (by rw [List.length_append]; omega) (by simpa [repL] using h)
theorem fl8 {L p m r : Nat} (h : L = p + (m + (r + 1) + 1 + 1)) (hl : L ≤ 60) : wrap64 ((p : Int) + 2) = (p : Int) + 2 ∧ (0 : Int) ≤ (p : Int) + 2 ∧ (p : Int) + 2 ≤ (p : Int) + 2 + m ∧ (p : Int) + 2 + m ≤ (L : Int) ∧ ((0 : Int) ≤ (p : Int) + 2 + m ∧ (p : Int) + 2 + m ≤ 100) ∧ ((p : Int) + 2).toNat = p + 2 ∧ ((p : Int) + 2 + m).toNat = p + 2 + m :=
  ⟨wrap_id (by omega) (by omega), by omega, by omega, by omega, ⟨by omega, by omega⟩, by omega, by omega⟩
theorem fl9 {a : Int} (h : 0 ≤ a) : (0 : Int) = a - (a.toNat : Nat) := by omega
theorem fl10 {X T i N P q r : Nat} (hT : T ≤ 9) (hi : i ≤ N * P) (hx : X + (q + (N + (r + 1))) * (P * 9) ≤ 500000) : X + T * i + r * (P * 9) ≤ 500000 ∧ X + T * i ≤ 1000000 := by
  have a : T * i ≤ 9 * (N * P) := Nat.mul_le_mul hT hi
  have b : 9 * (N * P) = N * (P * 9) := by rw [Nat.mul_left_comm, Nat.mul_comm 9 P]
  have c : N * (P * 9) + r * (P * 9) ≤ (q + (N + (r + 1))) * (P * 9) := by rw [← Nat.add_mul]; exact Nat.mul_le_mul_right _ (by omega)
  omega
theorem FB.spec {d : Nat} {rest o : List S50} (h : FB d rest o) : ∀ (l pre x : List S50), l = pre ++ rest → l.length ≤ 60 → d ≤ 3 → x.length + rest.length * 9 ^ d ≤ 500000 → Ev (fun k => spec_l06Flat.l0 k l x (pre.length : Int)) (x ++ o) := by
  induction h with
  | nil d =>
    intro l pre x e hl hd hx
    refine Ev.up ?_
    have : ¬ (pre.length : Int) < (l.length : Int) := by rw [e]; simp
    simp only [spec_l06Flat.l0, if_neg this, List.append_nil]
    exact Ev.now _
  | @one d t r o n1 n2 h ih =>
    intro l pre x e hl hd hx
    obtain ⟨s1, s2, s3⟩ := stp1 e hl
    rw [List.length_cons, Nat.succ_mul] at hx
    have h1 : 1 ≤ 9 ^ d := Nat.pow_pos (by omega)
    have fin : Ev (fun k => spec_l06Flat.j1 k l x (pre.length : Int) true) (x ++ t :: o) := by
      refine Ev.up ?_
      simp only [spec_l06Flat.j1, if_true, mid_nn, if_pos s1, s2, s3, if_pos (show x.length < 5864062014805 by omega)]
      have := ih l (pre ++ [t]) (x ++ [t]) (by rw [e]; simp) hl hd (by rw [List.length_append, List.length_singleton]; omega)
      simpa using this
    refine Ev.up ?_
    simp only [spec_l06Flat.l0, if_pos s1, s3]
    match r, h, e with
    | [], h, e =>
      have : ((pre ++ [t]).length : Int) ≥ (l.length : Int) := by rw [e]; simp
      simp only [if_pos this]
      exact fin
    | y :: r', h, e =>
      obtain ⟨q1, q2, q3⟩ := stp1 (l := l) (pre := pre ++ [t]) (t := y) (r := r') (by rw [e]; simp) hl
      have hne : (y.f0.toList != ([114, 101, 112, 101, 97, 116] : List UInt8)) = true := by simpa using h.head
      simp only [if_neg (show ¬ ((pre ++ [t]).length : Int) ≥ (l.length : Int) by omega), mid_nn, if_true, if_pos q1, q2, hne]
      exact fin
  | @blk d t Rp E m i r o ht h0 h9 hR hE hm hr ihm ihr =>
    intro l pre x e hl hd hx
    obtain ⟨s1, s2, s3⟩ := stp1 (l := l) (pre := pre) (t := t) (r := Rp :: (m ++ E :: r)) e hl
    have e2 : l = (pre ++ [t]) ++ Rp :: (m ++ E :: r) := by rw [e]; simp
    obtain ⟨q1, q2, q3⟩ := stp1 e2 hl
    have e3 : l = (pre ++ [t] ++ [Rp] ++ m) ++ E :: r := by rw [e]; simp
    have hll := congrArg List.length e
    simp only [List.length_append, List.length_cons] at hll
    have c3 : ((pre ++ [t] ++ [Rp] ++ m).length : Int) = pre.length + 2 + m.length := by simp; omega
    have hend : Ev (fun k => spec_l06End.f k l ((pre ++ [t]).length : Int)) (pre.length + 2 + m.length : Int) := by
      simp only [spec_l06End.f]
      refine end_one e2 hl (by decide) (by rw [if_pos hR]) ?_ (by decide)
      refine hm.pass l (pre ++ [t] ++ [Rp]) (E :: r) 1 _ (by rw [e]; simp) hl (by decide) (by omega) ?_
      have := end_at e3 hl hE
      rwa [c3] at this ⊢
    have hl9 : m.length * 9 ^ d ≤ 60 * 729 := Nat.mul_le_mul (by omega) (Nat.le_trans (Nat.pow_le_pow_right (by omega) (show d ≤ 3 by omega)) (by decide))
    have hflat : Ev (fun k => spec_l06Flat.f k m) i := by
      refine Ev.up ?_
      simp only [spec_l06Flat.f]
      have := ihm m [] [] rfl (by omega) (by omega) (by simp; omega)
      simpa using this
    have him := hm.len
    have hlen : (t :: Rp :: (m ++ E :: r)).length = 2 + (m.length + (r.length + 1)) := by simp; omega
    rw [hlen, Nat.pow_succ] at hx
    obtain ⟨hx2, hxi⟩ := fl10 (Int.toNat_le.2 h9) him hx
    rw [← Nat.pow_succ] at hx2
    have hrest := ihr l (pre ++ [t] ++ [Rp] ++ m ++ [E]) (x ++ repL t.f1.toNat i) (by rw [e]; simp) hl hd (by rw [List.length_append, repL_len]; exact hx2)
    clear hx hx2 him hl9 ihr ihm hm hr hlen
    have c4 : ((pre ++ [t] ++ [Rp] ++ m ++ [E]).length : Int) = pre.length + 2 + m.length + 1 := by rw [List.length_append, List.length_singleton, Int.natCast_add, c3]; rfl
    rw [c4] at hrest
    obtain ⟨w2, b2, b3, b4, b5, t2, t3⟩ := fl8 hll hl
    have a1 : ((pre.length : Int) + 2 + m.length).toNat = (pre ++ [t] ++ [Rp] ++ m).length := by rw [t3]; simp only [List.length_append, List.length_singleton]
    have a2 : ((pre.length : Int) + 2).toNat = (pre ++ [t] ++ [Rp]).length := by rw [t2]; simp
    have sl : (l.take ((pre.length : Int) + 2 + m.length).toNat).drop ((pre.length : Int) + 2).toNat = m := by
      rw [a1, a2, e3, List.take_left, List.drop_left]
    have b1 : ¬ ((pre ++ [t]).length : Int) ≥ (l.length : Int) := Int.not_le.2 q1
    have b6 : (0 : Int) = t.f1 - (t.f1.toNat : Nat) := fl9 h0
    refine Ev.up ?_
    have hne : (Rp.f0.toList != ([114, 101, 112, 101, 97, 116] : List UInt8)) = false := by simpa using hR
    simp only [spec_l06Flat.l0, if_pos s1, s3, if_neg b1, mid_nn, if_true, if_pos q1, q2, hne]
    refine Ev.up ?_
    simp only [spec_l06Flat.j1, Bool.false_eq_true, if_false, s3]
    refine Ev.bind hend ?_
    simp only [w2, if_pos b2, if_pos b3, if_pos b4, sl]
    refine Ev.bind hflat ?_
    refine flat_loop e hl h0 h9 b5 t.f1.toNat x 0 b6 (Nat.le_refl _) hxi ?_
    simpa using hrest
def bdV : Option S50 → Int → Int → List S50 → Int
  | _, d, m, [] => if d = 0 then (if m > 3 then -1 else m) else -1
  | p, d, m, t :: r => if tokOk t.f0 t.f1 = true then (if t.f0.toList = nRep then (if repOk p = true then bdV (some t) (d + 1) (mx m (d + 1)) r else -1) else if t.f0.toList = nEnd then (if d - 1 < 0 then -1 else bdV (some t) (d - 1) m r) else bdV (some t) d m r) else -1
theorem mx_le (a b c : Int) : mx a b ≤ c ↔ a ≤ c ∧ b ≤ c := by unfold mx; split <;> omega
theorem bdV_iff : ∀ (rest : List S50) (p : Option S50) (d m : Int), 0 ≤ d → d ≤ m → (0 ≤ bdV p d m rest ↔ m ≤ 3 ∧ tksOk rest = true ∧ blkGo p d rest = true) := by
  intro rest
  induction rest with
  | nil =>
    intro p d m h0 h1
    simp only [bdV, tksOk, List.all_nil, blkGo, beq_iff_eq, true_and]
    split
    · split <;> omega
    · omega
  | cons t r ih =>
    intro p d m h0 h1
    have ht : tksOk (t :: r) = true ↔ tokOk t.f0 t.f1 = true ∧ tksOk r = true := by simp [tksOk]
    rw [ht]
    by_cases k : tokOk t.f0 t.f1 = true
    · simp only [bdV, if_pos k, blkGo]
      by_cases z : t.f0.toList = nRep
      · simp only [if_pos z]
        cases hp : repOk p with
        | false => simp
        | true =>
          simp only [if_true, Bool.true_and, Bool.and_eq_true, decide_eq_true_eq]
          have hmx := mx_le m (d + 1) (mx m (d + 1))
          rw [ih (some t) (d + 1) (mx m (d + 1)) (by omega) (hmx.1 (Int.le_refl _)).2, mx_le]
          constructor
          · rintro ⟨⟨a, b⟩, c, e⟩; exact ⟨a, ⟨k, c⟩, b, e⟩
          · rintro ⟨a, ⟨_, c⟩, b, e⟩; exact ⟨⟨a, b⟩, c, e⟩
      · simp only [if_neg z]
        by_cases y : t.f0.toList = nEnd
        · simp only [if_pos y, Bool.and_eq_true, decide_eq_true_eq]
          by_cases q : d - 1 < 0
          · rw [if_pos q]
            constructor
            · intro h; omega
            · rintro ⟨_, _, h, _⟩; omega
          · rw [if_neg q, ih (some t) (d - 1) m (by omega) (by omega)]
            constructor
            · rintro ⟨a, c, e⟩; exact ⟨a, ⟨k, c⟩, by omega, e⟩
            · rintro ⟨a, ⟨_, c⟩, b, e⟩; exact ⟨a, c, e⟩
        · simp only [if_neg y]
          rw [ih (some t) d m h0 h1]
          constructor
          · rintro ⟨a, c, e⟩; exact ⟨a, ⟨k, c⟩, e⟩
          · rintro ⟨a, ⟨_, c⟩, e⟩; exact ⟨a, c, e⟩
    · simp only [bdV, if_neg k]
      constructor
      · intro h; omega
      · rintro ⟨_, ⟨h, _⟩, _⟩; exact absurd h k
theorem sDepth_ev (l : List S50) (hl : l.length ≤ 2000000) (hs : ∀ t ∈ l, t.f0.size ≤ 2000000) : ∃ r, Ev (fun k => spec_BlockDepth.f k l) r ∧ decide (r ≥ 0) = blkOk l := by
  simp only [spec_BlockDepth.f]
  have bad : ∀ (x3 x4 x5 : Int), Ev (fun k => spec_BlockDepth.j1 k l x3 x4 x5 true) (-1) := fun _ _ _ => Ev.up (by simp only [spec_BlockDepth.j1, if_true]; exact Ev.now _)
  by_cases c : l.length ≤ 60
  · refine ⟨bdV none 0 0 l, ?_, ?_⟩
    · have main : ∀ (rest pre : List S50) (d m : Int), l = pre ++ rest → 0 ≤ d → d ≤ pre.length → Ev (fun k => spec_BlockDepth.l0 k l d m (pre.length : Int)) (bdV pre.getLast? d m rest) := by
        intro rest
        induction rest with
        | nil =>
          intro pre d m e h0 h1
          refine Ev.up ?_
          have : ¬ (pre.length : Int) < (l.length : Int) := by rw [e]; simp
          simp only [spec_BlockDepth.l0, if_neg this, bdV]
          exact Ev.ite (fun z => by rw [if_pos z]; exact Ev.ite (fun y => by rw [if_pos y]; exact Ev.now _) (fun y => by rw [if_neg y]; exact Ev.now _)) (fun z => by rw [if_neg z]; exact Ev.now _)
        | cons t r ih =>
          intro pre d m e h0 h1
          obtain ⟨s1, s2, s3⟩ := stp1 e c
          have hpl : pre.length ≤ 60 := by omega
          have ih' : ∀ d' m' : Int, 0 ≤ d' → d' ≤ pre.length + 1 → Ev (fun k => spec_BlockDepth.l0 k l d' m' ((pre ++ [t]).length : Int)) (bdV (some t) d' m' r) := fun d' m' g0 g1 => by
            have := ih (pre ++ [t]) d' m' (by simp [e]) g0 (by simp; omega)
            rwa [List.getLast?_concat] at this
          have w1 : wrap64 (d + 1) = d + 1 := wrap_id (by omega) (by omega)
          have w2 : wrap64 (d - 1) = d - 1 := wrap_id (by omega) (by omega)
          refine Ev.up ?_
          simp only [spec_BlockDepth.l0, if_pos s1, mid_nn, if_true, s2, bdV]
          refine Ev.bind (sTokenOk_ev t.f0 t.f1 (hs t (by rw [e]; simp))) ?_
          cases htk : tokOk t.f0 t.f1 with
          | false => exact bad _ _ _
          | true =>
            simp only [if_true, decide_eq_false (show ¬ (l.length : Int) > 60 by omega)]
            refine Ev.up ?_
            simp only [spec_BlockDepth.j1, Bool.false_eq_true, if_false, mid_nn, if_true, if_pos s1, s2, w1, w2, s3]
            by_cases z : t.f0.toList = nRep
            · simp only [if_pos z]
              by_cases hp : pre = []
              · subst hp
                simp only [List.length_nil, Int.natCast_zero, if_true, List.getLast?_nil, repOk, Bool.false_eq_true, if_false]
                exact Ev.now _
              · obtain ⟨g1, g2, g3⟩ := getLast_rd (rest := t :: r) hp hpl
                rw [← e] at g1 g3
                rw [g1]
                have hne : ¬ (pre.length : Int) = 0 := by have := List.length_pos_iff.2 hp; omega
                simp only [if_neg hne, if_pos g2, if_pos g3, repOk]
                by_cases y : (rd_T50 l (wrap64 ((pre.length : Int) - 1))).f0.toList = ([] : List UInt8)
                · simp only [if_pos y, l01In_eq, Option.bind_some]
                  cases inB (rd_T50 l (wrap64 ((pre.length : Int) - 1))).f1 0 9 with
                  | true => exact ih' (d + 1) _ (by omega) (by omega)
                  | false => exact Ev.now _
                · simp only [if_neg y, Bool.false_eq_true, if_false]; exact Ev.now _
            · simp only [if_neg z]
              by_cases y : t.f0.toList = nEnd
              · simp only [if_pos y]
                exact Ev.ite (fun q => by rw [if_pos q]; exact Ev.now _) (fun q => by rw [if_neg q]; exact ih' (d - 1) m (by omega) (by omega))
              · simp only [if_neg y]; exact ih' d m h0 (by omega)
      exact main l [] 0 0 rfl (by omega) (by simp)
    · have := bdV_iff l none 0 0 (by omega) (by omega)
      unfold blkOk
      rw [decide_eq_true (show (l.length : Int) ≤ 60 by omega), Bool.true_and]
      rw [Bool.eq_iff_iff, decide_eq_true_eq, Bool.and_eq_true, ge_iff_le, this]
      exact ⟨fun h => h.2, fun h => ⟨by omega, h⟩⟩
  · refine ⟨-1, ?_, ?_⟩
    · match l, c, hs, bad with
      | [], c, hs, bad => simp at c
      | t :: r, c, hs, bad =>
        have s1 : (0 : Int) < ((t :: r).length : Int) := by rw [List.length_cons]; omega
        refine Ev.up ?_
        simp only [spec_BlockDepth.l0, if_pos s1, Int.le_refl, if_true]
        refine Ev.bind (sTokenOk_ev _ _ (hs t (by simp))) ?_
        rw [show (rd_T50 (t :: r) 0).f0 = t.f0 from rfl, show (rd_T50 (t :: r) 0).f1 = t.f1 from rfl]
        cases tokOk t.f0 t.f1 with
        | false => exact bad _ _ _
        | true => simp only [if_true, decide_eq_true (show ((t :: r).length : Int) > 60 by omega)]; exact bad _ _ _
    · unfold blkOk
      rw [decide_eq_false (show ¬ (l.length : Int) ≤ 60 by omega), Bool.false_and]
      rfl
theorem flatV_of {l : List S50} (hok : blkOk l = true) : FB 3 l (flatV l) := by
  unfold blkOk at hok
  simp only [Bool.and_eq_true, decide_eq_true_eq] at hok
  obtain ⟨mid, rest', o, e, f, g⟩ := FB.of (l.length + 1) l none 0 (by omega) (by omega) (by omega) hok.2.2 (fun t r e z => by
    have h3 := hok.2.2
    rw [e] at h3
    simp only [blkGo, if_pos z, repOk, Bool.false_and] at h3
    cases h3)
  obtain ⟨rfl, _⟩ : rest' = [] ∧ (0 : Int) = 0 := by
    rcases g with g | ⟨_, _, _, _, g, _⟩
    · exact g
    · omega
  rw [List.append_nil] at e
  subst e
  have h := f.impl (l.length + 1) [] [] (by simp) (fun t r h => by cases h)
  rw [List.append_nil] at h
  unfold flatV
  rw [h]
  exact f
theorem mem_repL {t : S50} : ∀ (n : Nat) (i : List S50), t ∈ repL n i → t ∈ i
  | 0, i, h => by cases h
  | n + 1, i, h => by
    rcases List.mem_append.1 h with h | h
    · exact h
    · exact mem_repL n i h
theorem FB.mem {d : Nat} {l o : List S50} (h : FB d l o) : ∀ t ∈ o, t ∈ l := by
  induction h with
  | nil d => intro t ht; cases ht
  | @one d x r o h1 h2 h ih =>
    intro t ht
    rcases List.mem_cons.1 ht with h | h
    · rw [h]; exact List.mem_cons_self
    · exact List.mem_cons_of_mem _ (ih t h)
  | @blk d x R E m i r o ht h0 h9 hR hE hm hr ihm ihr =>
    intro t hx
    rcases List.mem_append.1 hx with h | h
    · have := ihm t (mem_repL _ _ h); simp [this]
    · have := ihr t h; simp [this]
theorem flattenV_mem (l : List S50) : ∀ t ∈ (flattenV l).1, t ∈ l := by
  unfold flattenV
  split
  · rename_i h
    split
    · intro t ht; cases ht
    · exact (flatV_of h).mem
  · intro t ht; cases ht
theorem sFlatten_ev (l : List S50) (hl : l.length ≤ 2000000) (hs : ∀ t ∈ l, t.f0.size ≤ 2000000) : Ev (fun k => spec_FlattenBlocks.f k l) (flattenV l) := by
  obtain ⟨r, hr, hb⟩ := sDepth_ev l hl hs
  have hB : Ev (fun k => spec_BlocksOk.f k l) (blkOk l) := by
    simp only [spec_BlocksOk.f]
    refine Ev.bind hr ?_
    exact Ev.val hb
  simp only [spec_FlattenBlocks.f, spec_FlatLength.f]
  unfold flattenV
  cases hok : blkOk l with
  | false =>
    rw [hok] at hB
    refine Ev.bind (a := -1) (Ev.bind hB (Ev.now _)) ?_
    simp only [l01In_eq, Option.bind_some]
    exact Ev.now _
  | true =>
    rw [hok] at hB
    have f := flatV_of hok
    have hok2 := hok
    unfold blkOk at hok2
    simp only [Bool.and_eq_true, decide_eq_true_eq] at hok2
    generalize flatV l = o at f ⊢
    have hF : Ev (fun k => spec_l06Flat.f k l) o := by
      refine Ev.up ?_
      simp only [spec_l06Flat.f]
      have h4 : l.length * 9 ^ 3 ≤ 60 * 729 := Nat.mul_le_mul (by omega) (by decide)
      have := f.spec l [] [] rfl (by omega) (by decide) (by simp only [List.length_nil]; omega)
      simpa using this
    refine Ev.bind (a := (o.length : Int)) (Ev.bind hB (Ev.bind hF (Ev.now _))) ?_
    simp only [l01In_eq, Option.bind_some, if_true]
    by_cases z : (o.length : Int) > 200
    · rw [if_pos z]
      have : inB (o.length : Int) 0 200 = false := Bool.eq_false_iff.2 (fun h => by have := inB_iff.1 h; omega)
      simp only [this, Bool.false_eq_true, if_false]
      exact Ev.now _
    · rw [if_neg z]
      have : inB (o.length : Int) 0 200 = true := inB_iff.2 ⟨by omega, by omega⟩
      simp only [this, if_true]
      exact Ev.bind hF (Ev.now _)
end Go.Proofs.YtjkgponlahfnjaaGreat.Ex
namespace Go.Proofs.YtjkgponlahfnjaaGreat.Ex
open Go.RowKit Go.Proofs.YtjkgponlahfnjaaGreatW.PrintWords Go.Proofs.YtjkgponlahfnjaaGreatW.PrintLast Go.Proofs.YtjkgponlahfnjaaGreatW.PrintMore
open Go.Proofs.YtjkgponlahfnjaaGreat.QFnExactRunPage Go.Proofs.YtjkgponlahfnjaaGreat.Pure Go.Proofs.YtjkgponlahfnjaaGreat.Plain
def szTk (nm : ByteArray) (L : Int) : Int := if L - nm.size < 0 then -1 else L - nm.size
theorem szTk_tells (nm : ByteArray) (L : Int) (h0 : 0 ≤ L) (h1 : L ≤ 1048576) : szTk nm L = -1 ∨ (0 ≤ szTk nm L ∧ szTk nm L ≤ L ∧ nm.size ≤ 1048576) := by
  unfold szTk
  split
  · exact .inl rfl
  · exact .inr ⟨by omega, by omega, by omega⟩
theorem szToken_eq (nm : ByteArray) (n L : Int) (hz : nm.size ≤ maxLen) (h0 : 0 ≤ L) (h1 : L ≤ 1048576) : laws_szToken.f nm n L = some (szTk nm L) := by
  rw [maxLen_eq] at hz
  unfold laws_szToken.f szTk
  rw [wrap_id (by omega) (by omega)]
  split <;> rfl
def szTS (l : List S35) (a : Int) : Int := if szN l.length a < 0 then -1 else szL (fun x a => szTk x.f0 a) l (szN l.length a)
theorem szTS_tells (l : List S35) (a : Int) (h0 : 0 ≤ a) (h1 : a ≤ 1048576) : szTS l a = -1 ∨ (0 ≤ szTS l a ∧ (l.length : Int) ≤ a ∧ ∀ x ∈ l, x.f0.size ≤ 1048576) := by
  unfold szTS
  rcases szN_tells l.length a h0 with h | ⟨h2, h3, h4⟩
  · rw [h]; exact .inl rfl
  · rw [if_neg (by omega)]
    rcases szL_tells (f := fun (x : S35) a => szTk x.f0 a) (P := fun x => x.f0.size ≤ 1048576) (fun x a h0 h1 => szTk_tells x.f0 a h0 h1) l _ h2 (by omega) with h | ⟨h5, h6, h7⟩
    · exact .inl h
    · exact .inr ⟨h5, h4, h7⟩
theorem szTokenS_ev (l : List S35) (a : Int) (h : l.length ≤ maxLen) (hx : ∀ x ∈ l, x.f0.size ≤ maxLen) (h0 : 0 ≤ a) (h1 : a ≤ 1048576) : Ev (fun k => laws_szTokenS.f k l a) (szTS l a) := by
  have h' := h
  rw [maxLen_eq] at h'
  simp only [laws_szTokenS.f]
  rw [wrap_id (by omega) (by omega)]
  have hn : szN l.length a = if a - (l.length : Int) < 0 then -1 else a - (l.length : Int) := rfl
  unfold szTS
  rw [hn]
  by_cases c : a - (l.length : Int) < 0
  · simp only [if_pos c]; exact Ev.val rfl
  · simp only [if_neg c]
    refine ev_loop l (F := fun k s i => laws_szTokenS.l0 k l s i) (fun _ _ s => 0 ≤ s ∧ s ≤ 1048576) (fun _ r s => szL (fun x a => szTk x.f0 a) r s) ?_ ?_ (a - (l.length : Int)) ⟨by omega, by omega⟩
    · intro s _
      simp only [laws_szTokenS.l0, end_lt, if_false, szL]
      exact Ev.now _
    · rintro pre x rest s e ⟨hs0, hs1⟩ ih
      have hxx := hx x (by rw [e]; simp)
      subst e
      simp only [laws_szTokenS.l0, mid_lt, mid_nn, mid_wrap h, if_true, rd_T35, Int.toNat_natCast, mid_get, szToken_eq x.f0 _ s hxx hs0 hs1, Option.bind_some, szL]
      rcases szTk_tells x.f0 s hs0 hs1 with hn | ⟨h2, h3, h4⟩
      · rw [hn]; exact Ev.now _
      · have c2 : ¬ szTk x.f0 s < 0 := by omega
        simp only [if_neg c2]
        exact ih _ ⟨h2, by omega⟩
def tTk (r : S35) : S50 := ⟨r.f0, r.f1⟩
theorem toTokenS_ev (l : List S35) (h : (l.length : Int) ≤ 1048576) : Ev (fun k => laws_toTokenS.f k l) (l.map tTk) := by
  have hm : l.length ≤ maxLen := by rw [maxLen_eq]; omega
  simp only [laws_toTokenS.f]
  refine Ev.ite (fun _ => Ev.ite (fun _ => ?_) (fun c => absurd (by omega) c)) (fun c => absurd (by omega) c)
  exact ev_fill l tTk (F := fun k s i => laws_toTokenS.l0 k l s i) (fun s => by
    simp only [laws_toTokenS.l0, end_lt, if_false]
    exact Ev.now _) (fun pre x rest s r e hs h => by
    subst e
    simp only [laws_toTokenS.l0, hs, mid_lt, mid_nn, mid_wrap hm, if_true, rd_T35, Int.toNat_natCast, mid_get, laws_toToken.f, Option.bind_some]
    exact h) _ (by simp)
theorem eqTokenS_ev (l : List S50) (hm : l.length ≤ maxLen) : Ev (fun k => laws_eqTokenS.f k l l) true := by
  simp only [laws_eqTokenS.f, if_true]
  refine ev_loop0 l (F := fun k i => laws_eqTokenS.l0 k l l i) (fun _ _ => true) ?_ (fun pre x rest e h => ?_)
  · simp only [laws_eqTokenS.l0, end_lt, if_false]; exact Ev.now _
  · subst e
    simp only [laws_eqTokenS.l0, mid_lt, mid_nn, mid_wrap hm, if_true, laws_eqToken.f, Option.bind_some]
    exact h
theorem markText_ev (a : Int) (h0 : 0 ≤ a) (h1 : a ≤ 9223372036854775807) : ∃ z, Ev (fun k => laws_markText.f k a) z := by
  simp only [laws_markText.f]
  by_cases c : a ≤ 0
  · simp only [if_pos c]; exact ⟨_, Ev.now _⟩
  · simp only [if_neg c]
    have main : ∀ (n : Nat) (x : Int) (s : ByteArray), 0 ≤ x → x < 10 ^ n → x ≤ 9223372036854775807 → s.size + n ≤ 100 → ∃ z, Ev (fun k => laws_markText.l0 k x s) z := by
      intro n
      induction n with
      | zero =>
        intro x s hx0 hx1 hx2 hs
        refine ⟨(⟨#[109]⟩ : ByteArray) ++ s, Ev.up ?_⟩
        simp only [laws_markText.l0, if_neg (show ¬ x > 0 by omega), if_pos (show 1 + s.size ≤ 9223372036854775807 by omega)]
        exact Ev.now _
      | succ n ih =>
        intro x s hx0 hx1 hx2 hs
        by_cases hx : x > 0
        · have hd : Int.tdiv x 10 = x / 10 := Int.tdiv_eq_ediv_of_nonneg hx0
          have hz : ∀ v : Int, (strOfNums [v]).size = 1 := fun v => rfl
          obtain ⟨z, hz2⟩ := ih (x / 10) (strOfNums [wrap64 (48 + Int.tmod x 10) % 256] ++ s) (by omega) (by rw [Int.pow_succ] at hx1; omega) (by omega) (by rw [ByteArray.size_append, hz]; omega)
          refine ⟨z, Ev.up ?_⟩
          have hw : wrap64 (Int.tdiv x 10) = x / 10 := by rw [hd, wrap_id (by omega) (by omega)]
          simp only [laws_markText.l0, if_pos hx, Option.bind_some, hz, if_pos (show 1 + s.size ≤ 9223372036854775807 by omega), hw]
          exact hz2
        · refine ⟨(⟨#[109]⟩ : ByteArray) ++ s, Ev.up ?_⟩
          simp only [laws_markText.l0, if_neg hx, if_pos (show 1 + s.size ≤ 9223372036854775807 by omega)]
          exact Ev.now _
    exact main 19 a _ h0 (by omega) h1 (by decide)
theorem markTokenS_ev (l : List S50) (hm : (l.length : Int) ≤ 1048576) : ∃ l', Ev (fun k => laws_markTokenS.f k l 1) (1 + 2 * l.length, l') := by
  simp only [laws_markTokenS.f]
  have main : ∀ (n : Nat) (done rest : List S50), rest.length = n → done.length + rest.length = l.length → ∃ l', Ev (fun k => laws_markTokenS.l0 k (done ++ rest) (1 + 2 * done.length) (done.length : Int)) (1 + 2 * (l.length : Int), l') := by
    intro n
    induction n with
    | zero =>
      intro done rest hn hl
      have : rest = [] := List.eq_nil_of_length_eq_zero hn
      subst this
      refine ⟨done, Ev.up ?_⟩
      simp only [List.append_nil, laws_markTokenS.l0, end_lt, if_false]
      exact Ev.val (by simp at hl; rw [hl])
    | succ n ih =>
      intro done rest hn hl
      match rest, hn, hl with
      | x :: r, hn, hl =>
        rw [List.length_cons] at hn hl
        obtain ⟨z, hz⟩ := markText_ev (1 + 2 * (done.length : Int)) (by omega) (by omega)
        obtain ⟨l', hl'⟩ := ih (done ++ [⟨z, 1 + 2 * (done.length : Int) + 1⟩]) r (by omega) (by simp; omega)
        refine ⟨l', Ev.up ?_⟩
        have w1 : wrap64 (1 + 2 * (done.length : Int) + 1) = 1 + 2 * done.length + 1 := wrap_id (by omega) (by omega)
        have w2 : wrap64 (1 + 2 * (done.length : Int) + 1 + 1) = 1 + 2 * ((done ++ [(⟨z, 1 + 2 * (done.length : Int) + 1⟩ : S50)]).length : Int) := by rw [wrap_id (by omega) (by omega)]; simp; omega
        have w3 : wrap64 ((done.length : Int) + 1) = ((done ++ [(⟨z, 1 + 2 * (done.length : Int) + 1⟩ : S50)]).length : Int) := by rw [wrap_id (by omega) (by omega)]; simp
        simp only [laws_markTokenS.l0, mid_lt, mid_nn, if_true, w1, w2, w3]
        refine Ev.bind hz ?_
        simp only [Option.bind_some, Int.toNat_natCast, rd_T50, mid_get]
        have s1 : ∀ (y y' : S50), (done ++ y :: r).set done.length y' = done ++ y' :: r := fun y y' => by simp
        simp only [s1, mid_get]
        simpa using hl'
  have := main l.length [] l rfl (by simp)
  simpa using this
end Go.Proofs.YtjkgponlahfnjaaGreat.Ex
namespace Go.Proofs.YtjkgponlahfnjaaGreat.Ex
open Go.RowKit Go.Proofs.YtjkgponlahfnjaaGreatW.PrintWords Go.Proofs.YtjkgponlahfnjaaGreatW.PrintLast Go.Proofs.YtjkgponlahfnjaaGreatW.PrintMore
open Go.Proofs.YtjkgponlahfnjaaGreat.QFnExactRunPage Go.Proofs.YtjkgponlahfnjaaGreat.Pure Go.Proofs.YtjkgponlahfnjaaGreat.Plain
attribute [local go_sem] Tryz.underlying46 Tryz.underlying42 Tryz.underlying50
def page0 : Pg := ⟨⟨[], ⟨0, 1, 0, 0⟩, [], 0, ⟨0, 0, 32, 32⟩⟩, [], []⟩
theorem page0_ok : okP page0 = true := by decide
def runV (p : Pg) (i : Int) : List S50 → Pg × Int
  | [] => (p, i)
  | t :: r => if (exec p t.f0 t.f1).2 = true then runV (exec p t.f0 t.f1).1 (i + 1) r else (p, i)
theorem runV_ok : ∀ (l : List S50) (p : Pg) (i : Int), okP p = true → okP (runV p i l).1 = true
  | [], p, i, h => h
  | t :: r, p, i, h => by
    unfold runV
    split
    · exact runV_ok r _ _ (exec_ok (by assumption))
    · exact h
def pgZ : Pg := ⟨⟨[], ⟨0, 0, 0, 0⟩, [], 0, ⟨0, 0, 0, 0⟩⟩, [], []⟩
def runPageV (l : List S50) : Pg × Int := if (flattenV l).2 = true then runV page0 0 (flattenV l).1 else (pgZ, -1)
theorem runPageV_n (l : List S50) : pgN 1048576 (runPageV l).1 := by
  unfold runPageV
  split
  · exact pgN_mono (okP_small (runV_ok _ _ _ page0_ok)).1 (by decide)
  · exact ⟨by decide, by decide, by decide, (fun x hx => by cases hx), by decide, (fun x hx => by cases hx)⟩
theorem Rw.nil (w : World) (B : Nat) : Rw w B (fun _ => 9) (.slice none 0 0) (.slice none 0 0) (.slice none 0 0) (.slice none 0 0) [] [] [] [] := ⟨Kd.R_nil _ _ _ _ _, Kd.R_nil _ _ _ _ _, Kd.S_nil _ _ _ _ _, Kd.S_nil _ _ _ _ _⟩
theorem inew_c {w : World} : Calls Tryz.prog 57 #[] w (fun e w' => ∃ x, e = .returned x ∧ NewP w page0 x w') := by
  have HB := aM (Below.refl w.heap.size w)
  go_enter Tryz.func57, Tryz.ntmps57
  go_wp2_with (first | ((with_reducible refine gD 0 ?_); refine bxE #[.slice none 0 0, .int .i64 0, .int .i64 0, .int .i64 0, .int .i64 0, .slice none 0 0, .int .i64 0, .int .i64 0, .int .i64 0, .int .i64 0, .int .i64 0, .slice none 0 0, .slice none 0 0] 46 ?_; intro a hg w4 a2 hb; have f1 := gE hg; replace HB := hB hb; clear hb hg) | ((with_reducible refine gC 93 ?_); refine cM (some 1) Tryz.func93 (impl_Identity.calls _ _ _ _ _ rfl) ?_; rintro e w1 ⟨rfl, hb⟩; refine ⟨_, rfl, ?_⟩; replace a2 := kB_ a hb; replace HB := hB hb; clear hb) | ((with_reducible refine gC 109 ?_); refine cM (some 2) Tryz.func109 (impl_pageBox.calls _ _ _ _ _ rfl) ?_; rintro e w2 ⟨rfl, hb⟩; refine ⟨_, rfl, ?_⟩; replace a2 := kB_ a hb; replace HB := hB hb; clear hb; have hz := cz13 a2))
  refine bodyPost_ret (results_cell_row rfl _ _ a 46 #[.slice none 0 0, .int .i64 0, .int .i64 1, .int .i64 0, .int .i64 0, .slice none 0 0, .int .i64 0, .int .i64 0, .int .i64 0, .int .i64 32, .int .i64 32, .slice none 0 0, .slice none 0 0] (0, 0) _ rfl (kR a2) Tryz.underlying46 rfl (by kernel_rfl)) rfl ?_
  exact ⟨_, rfl, bS, _, _, _, _, _, rfl, Rw.nil _ _⟩
theorem snew_c {w : World} : Calls Tryz.prog 55 #[] w (fun e w' => ∃ x, e = .returned x ∧ NewP w page0 x w') := by
  have HB := aM (Below.refl w.heap.size w)
  go_enter Tryz.func55, Tryz.ntmps55
  go_wp2_with (first | ((with_reducible refine gD 0 ?_); refine bxE #[.slice none 0 0, .int .i64 0, .int .i64 0, .int .i64 0, .int .i64 0, .slice none 0 0, .int .i64 0, .int .i64 0, .int .i64 0, .int .i64 0, .int .i64 0, .slice none 0 0, .slice none 0 0] 46 ?_; intro a hg w4 a2 hb; have f1 := gE hg; replace HB := hB hb; clear hb hg) | ((with_reducible refine gC 74 ?_); refine cM (some 1) Tryz.func74 (spec_Identity.calls _ _ _ _ _ rfl) ?_; rintro e w1 ⟨rfl, hb⟩; refine ⟨_, rfl, ?_⟩; replace a2 := kB_ a hb; replace HB := hB hb; clear hb) | ((with_reducible refine gC 106 ?_); refine cM (some 2) Tryz.func106 (spec_l07Full.calls _ _ _ _ _ rfl) ?_; rintro e w2 ⟨rfl, hb⟩; refine ⟨_, rfl, ?_⟩; replace a2 := kB_ a hb; replace HB := hB hb; clear hb; have hz := cz13 a2))
  refine bodyPost_ret (results_cell_row rfl _ _ a 46 #[.slice none 0 0, .int .i64 0, .int .i64 1, .int .i64 0, .int .i64 0, .slice none 0 0, .int .i64 0, .int .i64 0, .int .i64 0, .int .i64 32, .int .i64 32, .slice none 0 0, .slice none 0 0] (0, 0) _ rfl (kR a2) Tryz.underlying46 rfl (by kernel_rfl)) rfl ?_
  exact ⟨_, rfl, bS, _, _, _, _, _, rfl, Rw.nil _ _⟩
end Go.Proofs.YtjkgponlahfnjaaGreat.Ex
