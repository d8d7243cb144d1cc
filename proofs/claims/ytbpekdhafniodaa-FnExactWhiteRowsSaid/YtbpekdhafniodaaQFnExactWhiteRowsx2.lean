-- Made out of the translation by a program of this session (a changed copy of the print). Not trusted: Lean checks it.
import Derived.Test.YtbpekdhafniodaaQFnExactWhiteRowsx0
import Derived.Test.YtbpekdhafniodaaQFnExactWhiteRowsx1
namespace Go.Proofs.Ytbpekdhafniodaa.QFnExactWhiteRows
open Go.RowKit Go.Proofs.YtbpekdhafniodaaW.PrintWords Go.Proofs.YtbpekdhafniodaaW.PrintLast Go.Proofs.YtbpekdhafniodaaW.PrintMore
attribute [local go_sem] max2_int min2_int max_two min_two max_three min_three max_four min_four   -- for this text's walks alone
set_option linter.unusedVariables false
set_option linter.unusedSimpArgs false
set_option maxHeartbeats 8000000
set_option maxRecDepth 100000

/-! ### laws_heldIntS: function 72 -/
def laws_heldIntS.l0 : Nat → List Int → Int → Int → Option (Int)
  | 0, _, _, _ => none
  | k + 1, x0, x1, x5 => if x5 < (x0.length : Int) then (if 0 ≤ x5 then (if (rd x0 x5) = x1 then (laws_heldIntS.l0 k x0 (wrap64 (x1 + 1)) (wrap64 (x5 + 1))) else (some (-1))) else (none)) else (some x1)
def laws_heldIntS.f (k : Nat) (l0 : List Int) (a1 : Int) : Option (Int) := laws_heldIntS.l0 k l0 a1 0
theorem laws_heldIntS.calls (k : Nat) (A0 : Option Addr) (c0 : Nat) (l0 : List Int) (a1 : Int) (r : Int) (w : World) (hr0 : Kd.C (Kd.int .i64) w A0 l0.length l0) (hc0 : l0.length ≤ c0) (h : laws_heldIntS.f k l0 a1 = some r) :
    Calls Try.prog 72 #[.slice A0 l0.length c0, .int .i64 a1] w fun e w' => e = .returned (.int .i64 r) ∧ Drawn0 w w' := by
  have HR0 := Aside0.mk hr0
  have HC0 := Aside0.mk hc0
  clear hr0 hc0
  have H : (laws_heldIntS.l0 k l0 a1 0) = some r := h
  clear h
  have H' := Aside0.mk H
  clear H
  go_enter Try.func72, Try.ntmps72
  go_wp2
  go_loopg [1, 5] k (fun kq v1 v5 w' => ∃ (x1_1 : Int) (x5_1 : Int), v1 = .int .i64 x1_1 ∧ v5 = .int .i64 x5_1 ∧ Aside0 (laws_heldIntS.l0 kq l0 x1_1 x5_1 = some r) ∧ Aside0 (kq ≤ k) ∧ Drawn0 w w')
  case atStart => exact ⟨(a1), (0), (by first | rfl | (simp; done) | (simp [*]; done)), (by first | rfl | (simp; done) | (simp [*]; done)), H', ⟨Nat.le_refl _⟩, by repeat (first | exact Drawn0.refl _ | apply Drawn0.step)⟩
  case round =>
    clear H'
    try clear p2
    obtain ⟨x1_1, x5_1, rfl, rfl, HA, HK1, ⟨m1, rfl⟩⟩ := hrel
    cases gk with
    | zero => exact absurd HA.out (by simp [laws_heldIntS.l0])
    | succ k1 =>
      have H := HA.out
      clear HA
      simp only [laws_heldIntS.l0] at H
      by_cases c3 : x5_1 < (l0.length : Int)
      · rw [if_pos c3] at H
        have c3b0 : decide (x5_1 < (l0.length : Int)) = true := decide_eq_true c3
        clear c3
        by_cases c4 : 0 ≤ x5_1
        · rw [if_pos c4] at H
          have c4b0 : decide (0 ≤ x5_1) = true := decide_eq_true c4
          clear c4
          by_cases c5 : (rd l0 x5_1) = x1_1
          · rw [if_pos c5] at H
            have c5b0 : ((rd l0 x5_1) == x1_1) = true := beq_iff_eq.mpr c5
            have c5b1 : ((rd l0 x5_1) != x1_1) = false := bne_eq_false_iff_eq.mpr c5
            clear c5
            have H' := Aside0.mk H
            clear H
            have p129 : 0 ≤ (x5_1 : Int) := of_decide_eq_true (by first | (with_reducible assumption) | assumption)
            have q129 : x5_1 < (l0.length : Int) := of_decide_eq_true (by first | (with_reducible assumption) | assumption)
            obtain ⟨ad129, e129, hx129_0⟩ := Kd.at_int HR0.out x5_1 p129 q129
            cases e129
            replace p129 := eq_true p129
            replace q129 := eq_true q129
            go_wp2
            go_roundg k1
            case measure => have := HK1.out; omega
            case rel => exact ⟨(wrap64 (x1_1 + 1)), (wrap64 (x5_1 + 1)), (by first | rfl | (simp; done) | (simp [*]; done)), (by first | rfl | (simp; done) | (simp [*]; done)), H', ⟨by have := HK1.out; omega⟩, by repeat (first | exact Drawn0.refl _ | apply Drawn0.step)⟩
          · rw [if_neg c5] at H
            have c5b0 : ((rd l0 x5_1) == x1_1) = false := beq_eq_false_iff_ne.mpr c5
            have c5b1 : ((rd l0 x5_1) != x1_1) = true := bne_iff_ne.mpr c5
            obtain rfl := Option.some.inj H
            have p129 : 0 ≤ (x5_1 : Int) := of_decide_eq_true (by first | (with_reducible assumption) | assumption)
            have q129 : x5_1 < (l0.length : Int) := of_decide_eq_true (by first | (with_reducible assumption) | assumption)
            obtain ⟨ad129, e129, hx129_0⟩ := Kd.at_int HR0.out x5_1 p129 q129
            cases e129
            replace p129 := eq_true p129
            replace q129 := eq_true q129
            go_wp2
            go_ret
            exact ⟨by first | rfl | (simp; done) | (simp [*]; done), by repeat (first | exact Drawn0.refl _ | apply Drawn0.step)⟩
        · rw [if_neg c4] at H
          exact absurd H (by simp)
      · rw [if_neg c3] at H
        have c3b0 : decide (x5_1 < (l0.length : Int)) = false := decide_eq_false c3
        clear c3
        obtain rfl := Option.some.inj H
        go_wp2
        go_ret
        exact ⟨by first | rfl | (simp; done) | (simp [*]; done), by repeat (first | exact Drawn0.refl _ | apply Drawn0.step)⟩

/-! ### laws_heldIntSS: function 52 -/
def laws_heldIntSS.l0 : Nat → List (List Int) → Int → Int → Option (Int)
  | 0, _, _, _ => none
  | k + 1, x0, x1, x5 => if x5 < (x0.length : Int) then (if 0 ≤ x5 then ((laws_heldIntS.f k (rd_L1 x0 x5) x1).bind fun t131 => (if t131 < 0 then (some (-1)) else (laws_heldIntSS.l0 k x0 t131 (wrap64 (x5 + 1))))) else (none)) else (some x1)
def laws_heldIntSS.f (k : Nat) (l0 : List (List Int)) (a1 : Int) : Option (Int) := laws_heldIntSS.l0 k l0 a1 0
theorem laws_heldIntSS.calls (k : Nat) (A0 : Option Addr) (c0 : Nat) (l0 : List (List Int)) (a1 : Int) (r : Int) (w : World) (hr0 : Kd.C (Kd.slice 3 (Kd.int .i64)) w A0 l0.length l0) (hc0 : l0.length ≤ c0) (h : laws_heldIntSS.f k l0 a1 = some r) :
    Calls Try.prog 52 #[.slice A0 l0.length c0, .int .i64 a1] w fun e w' => e = .returned (.int .i64 r) ∧ Drawn0 w w' := by
  have HR0 := Aside0.mk hr0
  have HC0 := Aside0.mk hc0
  clear hr0 hc0
  have H : (laws_heldIntSS.l0 k l0 a1 0) = some r := h
  clear h
  have H' := Aside0.mk H
  clear H
  go_enter Try.func52, Try.ntmps52
  go_wp2
  go_loopg [1, 5] k (fun kq v1 v5 w' => ∃ (x1_1 : Int) (x5_1 : Int), v1 = .int .i64 x1_1 ∧ v5 = .int .i64 x5_1 ∧ Aside0 (laws_heldIntSS.l0 kq l0 x1_1 x5_1 = some r) ∧ Aside0 (kq ≤ k) ∧ Drawn0 w w')
  case atStart => exact ⟨(a1), (0), (by first | rfl | (simp; done) | (simp [*]; done)), (by first | rfl | (simp; done) | (simp [*]; done)), H', ⟨Nat.le_refl _⟩, by repeat (first | exact Drawn0.refl _ | apply Drawn0.step)⟩
  case round =>
    clear H'
    try clear p2
    obtain ⟨x1_1, x5_1, rfl, rfl, HA, HK1, ⟨m1, rfl⟩⟩ := hrel
    cases gk with
    | zero => exact absurd HA.out (by simp [laws_heldIntSS.l0])
    | succ k1 =>
      have H := HA.out
      clear HA
      simp only [laws_heldIntSS.l0] at H
      by_cases c3 : x5_1 < (l0.length : Int)
      · rw [if_pos c3] at H
        have c3b0 : decide (x5_1 < (l0.length : Int)) = true := decide_eq_true c3
        clear c3
        by_cases c4 : 0 ≤ x5_1
        · rw [if_pos c4] at H
          have c4b0 : decide (0 ≤ x5_1) = true := decide_eq_true c4
          clear c4
          replace H := bN H
          obtain ⟨t131, A5, H⟩ := H
          by_cases c6 : t131 < 0
          · rw [if_pos c6] at H
            have c6b0 : decide (t131 < 0) = true := decide_eq_true c6
            clear c6
            obtain rfl := Option.some.inj H
            have p130 : 0 ≤ (x5_1 : Int) := of_decide_eq_true (by first | (with_reducible assumption) | assumption)
            have q130 : x5_1 < (l0.length : Int) := of_decide_eq_true (by first | (with_reducible assumption) | assumption)
            obtain ⟨ad130, A130_0, c130_0, e130, hx130_0, hl130_0, hi130_0⟩ := at_L1 HR0.out x5_1 p130 q130
            cases e130
            have HR130_0 := Aside0.mk hi130_0
            have HC130_0 := Aside0.mk hl130_0
            clear hi130_0 hl130_0
            replace p130 := eq_true p130
            replace q130 := eq_true q130
            go_wp2_with (first | ((with_reducible refine gC 72 ?_); refine cL (some 17) Try.func72 #[.slice A130_0 (rd_L1 l0 x5_1).length c130_0, .int .i64 x1_1] ?_; (with_reducible refine (laws_heldIntS.calls k1 _ _ (rd_L1 l0 x5_1) x1_1 t131 _ ?side1 ?side2 A5.out).mono ?_); (case side1 => repeat (first | exact HR130_0.out | (with_reducible refine Kd.C_alloc ?_ _) | (with_reducible refine Kd.C_drewN ?_ _) | (with_reducible refine Kd.C_drew ?_))); (case side2 => exact HC130_0.out); rintro e w' ⟨rfl, ⟨nd, rfl⟩⟩; refine ⟨_, rfl, ?_⟩))
            go_ret
            exact ⟨by first | rfl | (simp; done) | (simp [*]; done), by repeat (first | exact Drawn0.refl _ | apply Drawn0.step)⟩
          · rw [if_neg c6] at H
            have c6b0 : decide (t131 < 0) = false := decide_eq_false c6
            clear c6
            have H' := Aside0.mk H
            clear H
            have p130 : 0 ≤ (x5_1 : Int) := of_decide_eq_true (by first | (with_reducible assumption) | assumption)
            have q130 : x5_1 < (l0.length : Int) := of_decide_eq_true (by first | (with_reducible assumption) | assumption)
            obtain ⟨ad130, A130_0, c130_0, e130, hx130_0, hl130_0, hi130_0⟩ := at_L1 HR0.out x5_1 p130 q130
            cases e130
            have HR130_0 := Aside0.mk hi130_0
            have HC130_0 := Aside0.mk hl130_0
            clear hi130_0 hl130_0
            replace p130 := eq_true p130
            replace q130 := eq_true q130
            go_wp2_with (first | ((with_reducible refine gC 72 ?_); refine cL (some 17) Try.func72 #[.slice A130_0 (rd_L1 l0 x5_1).length c130_0, .int .i64 x1_1] ?_; (with_reducible refine (laws_heldIntS.calls k1 _ _ (rd_L1 l0 x5_1) x1_1 t131 _ ?side1 ?side2 A5.out).mono ?_); (case side1 => repeat (first | exact HR130_0.out | (with_reducible refine Kd.C_alloc ?_ _) | (with_reducible refine Kd.C_drewN ?_ _) | (with_reducible refine Kd.C_drew ?_))); (case side2 => exact HC130_0.out); rintro e w' ⟨rfl, ⟨nd, rfl⟩⟩; refine ⟨_, rfl, ?_⟩))
            go_roundg k1
            case measure => have := HK1.out; omega
            case rel => exact ⟨(t131), (wrap64 (x5_1 + 1)), (by first | rfl | (simp; done) | (simp [*]; done)), (by first | rfl | (simp; done) | (simp [*]; done)), H', ⟨by have := HK1.out; omega⟩, by repeat (first | exact Drawn0.refl _ | apply Drawn0.step)⟩
        · rw [if_neg c4] at H
          exact absurd H (by simp)
      · rw [if_neg c3] at H
        have c3b0 : decide (x5_1 < (l0.length : Int)) = false := decide_eq_false c3
        clear c3
        obtain rfl := Option.some.inj H
        go_wp2
        go_ret
        exact ⟨by first | rfl | (simp; done) | (simp [*]; done), by repeat (first | exact Drawn0.refl _ | apply Drawn0.step)⟩

/-! ### laws_FnExactWhiteRows: function 13 -/
def laws_FnExactWhiteRows.f (k : Nat) (a0 : Int) : Option (Bool) := (spec_WhiteRows.f k a0).bind fun t132 => ((impl_WhiteRows.f k a0).bind fun t135 => ((laws_eqIntSS.f k t135 t132).bind fun t138 => (if t138 = true then ((laws_markIntSS.f k t135 1).bind fun bt139 => ((laws_heldIntSS.f k bt139.2 1).bind fun t141 => (if t141 < 0 then (some false) else (if t141 = bt139.1 then ((impl_WhiteRows.f k a0).bind fun t142 => ((laws_eqIntSS.f k t142 t132).bind fun t145 => (if t145 = true then ((laws_heldIntSS.f k bt139.2 1).bind fun t146 => (if t146 < 0 then (some false) else (if t146 = bt139.1 then (some true) else (some false)))) else (some false)))) else (some false))))) else (some false))))
theorem laws_FnExactWhiteRows.calls (k : Nat) (a0 : Int) (r : Bool) (w : World) (h : laws_FnExactWhiteRows.f k a0 = some r) :
    Calls Try.prog 13 #[.int .i64 a0] w fun e w' => e = .returned (.bool r) ∧ Below w.heap.size w w' := by
  have HB := Aside0.mk (Below.refl w.heap.size w)
  have H : ((spec_WhiteRows.f k a0).bind fun t132 => ((impl_WhiteRows.f k a0).bind fun t135 => ((laws_eqIntSS.f k t135 t132).bind fun t138 => (if t138 = true then ((laws_markIntSS.f k t135 1).bind fun bt139 => ((laws_heldIntSS.f k bt139.2 1).bind fun t141 => (if t141 < 0 then (some false) else (if t141 = bt139.1 then ((impl_WhiteRows.f k a0).bind fun t142 => ((laws_eqIntSS.f k t142 t132).bind fun t145 => (if t145 = true then ((laws_heldIntSS.f k bt139.2 1).bind fun t146 => (if t146 < 0 then (some false) else (if t146 = bt139.1 then (some true) else (some false)))) else (some false)))) else (some false))))) else (some false))))) = some r := h
  clear h
  replace H := bN H
  obtain ⟨t132, A2, H⟩ := H
  replace H := bN H
  obtain ⟨t135, A3, H⟩ := H
  replace H := bN H
  obtain ⟨t138, A4, H⟩ := H
  by_cases c5 : t138 = true
  · subst c5
    rw [if_pos rfl] at H
    replace H := bN H
    obtain ⟨⟨t139, t140⟩, A6, H⟩ := H
    replace H := bN H
    obtain ⟨t141, A7, H⟩ := H
    by_cases c8 : t141 < 0
    · rw [if_pos c8] at H
      have c8b0 : decide (t141 < 0) = true := decide_eq_true c8
      clear c8
      obtain rfl := Option.some.inj H
      go_enter Try.func13, Try.ntmps13
      go_wp2_with (first | ((with_reducible refine gC 49 ?_); refine cL (some 9) Try.func49 #[.int .i64 a0] ?_; (with_reducible refine (spec_WhiteRows.calls k a0 t132 _ A2.out).mono ?_); rintro e w9 ⟨v133, rfl, ho0, hb⟩; refine ⟨_, rfl, ?_⟩; obtain ⟨b134, HZ134, hz134⟩ := S_born ho0; have HL134 := Aside0.mk (show w.heap.size ≤ b134 from by rw [HZ134.out]; exact (below_size bS)); have HO134 := Aside0.mk (hz134); replace HB := hB hb; (try clear hb); (try clear hb2); (try clear hk); (try clear hi); (try clear ho0)) | ((with_reducible refine gC 50 ?_); refine cL (some 11) Try.func50 #[.int .i64 a0] ?_; (with_reducible refine (impl_WhiteRows.calls k a0 t135 _ A3.out).mono ?_); rintro e w10 ⟨v136, rfl, ho0, hb⟩; refine ⟨_, rfl, ?_⟩; obtain ⟨b137, HZ137, hz137⟩ := S_born ho0; have HL137 := Aside0.mk (show w.heap.size ≤ b137 from by rw [HZ137.out]; exact (below_size bS)); have HO137 := Aside0.mk (hz137); replace HO134 := Aside0.mk (S_oldB (by (with_reducible repeat (first | apply Kd.S_alloc | apply Kd.S_drewN | apply Kd.S_drew)); exact HO134.out) hb HZ137.out); replace HB := hB hb; (try clear hb); (try clear hb2); (try clear hk); (try clear hi); (try clear ho0); obtain ⟨Ao11, co11, eo11⟩ := Kd.S_slice HO137.out; subst eo11; obtain ⟨Ao12, co12, eo12⟩ := Kd.S_slice HO134.out; subst eo12) | ((with_reducible refine gC 30 ?_); refine cL (some 14) Try.func30 #[.slice Ao11 t135.length co11, .slice Ao12 t132.length co12] ?_; (with_reducible refine (laws_eqIntSS.calls k _ _ t135 _ _ t132 true _ ?side1 ?side2 ?side3 ?side4 A4.out).mono ?_); (case side1 => exact cS (Kd.S_reads' HO137.out).2.2); (case side2 => exact (Kd.S_reads' HO137.out).2.1); (case side3 => exact cS (Kd.S_reads' HO134.out).2.2); (case side4 => exact (Kd.S_reads' HO134.out).2.1); rintro e w' ⟨rfl, ⟨nd, rfl⟩⟩; refine ⟨_, rfl, ?_⟩) | ((with_reducible refine gC 51 ?_); refine cL (some 18) Try.func51 #[.slice Ao11 t135.length co11, .int .i64 1] ?_; (with_reducible refine (laws_markIntSS.calls k (fun k_ => (w.heap.size ≤ k_ ∧ ∃ q_, q_ ∈ 47 :: (Kd.slice 3 (Kd.int .i64)).E ∧ ∃ c_, w10.heap[k_]? = some (.cells c_ q_ (0, 0))) ∧ b137 ≤ k_ ∧ True) (.slice Ao11 t135.length co11) t135 1 t139 t140 w _ ?side1 ?side2 A6.out).mono ?_); (case side1 => repeat (first | (with_reducible first | exact HB.out | apply below_alloc | apply pw_below_drewN | apply below_drew1) | exact HB.out)); (case side2 => (with_reducible repeat (first | apply Kd.S_alloc | apply Kd.S_drewN | apply Kd.S_drew)); exact Kd.S_lower (Kd.S_mono (Kd.S_bound HO137.out) (fun k_ h_ => ⟨⟨Nat.le_trans HL137.out h_.2.1, h_.2.2.2⟩, h_.2.1, trivial⟩)) HL137.out); rintro e w13 ⟨rfl, hy0, hb, hkp⟩; refine ⟨_, rfl, ?_⟩; replace HO134 := Aside0.mk (Kd.S_mono (ok' := fun k_ => k_ < b137) (Kd.S_keptB ((S_not (fun k_ => (w.heap.size ≤ k_ ∧ ∃ q_, q_ ∈ 47 :: (Kd.slice 3 (Kd.int .i64)).E ∧ ∃ c_, w10.heap[k_]? = some (.cells c_ q_ (0, 0))) ∧ b137 ≤ k_ ∧ True) HO134.out (fun k_ h_ e_ => Nat.not_le.2 (h_.1.2) e_.2.1))) hkp (fun k_ hk_ hs_ => (hk_.2) hs_)) (fun k_ hk_ => hk_.1.1.2)); replace HO137 := Aside0.mk (Kd.S_mono (ok' := fun _ => True) hy0 (fun _ _ => trivial)); replace HB := Aside0.mk (hb); (try clear hb); (try clear hkp); (try clear hy0)) | ((with_reducible refine gC 52 ?_); refine goesL_ (some 21) rfl rfl Try.func52 (by kernel_rfl) rfl #[.slice Ao11 t140.length co11, .int .i64 1] rfl (by (try simp only [List.map_toArray, List.map_cons, List.map_nil]); first | done | (rw [show t140.length = t135.length from (Kd.S_reads' HO137.out).1.symm] <;> rfl) | rfl | (simp only [List.length_drop, List.length_take]; rfl)) ?_; (with_reducible refine (laws_heldIntSS.calls k _ _ t140 1 t141 _ ?side1 ?side2 A7.out).mono ?_); (case side1 => exact cS (Kd.S_reads' HO137.out).2.2); (case side2 => rw [show t140.length = t135.length from (Kd.S_reads' HO137.out).1.symm]; exact (Kd.S_reads' HO137.out).2.1); rintro e w' ⟨rfl, ⟨nd, rfl⟩⟩; refine ⟨_, rfl, ?_⟩))
      go_ret
      exact ⟨eS, bS⟩
    · rw [if_neg c8] at H
      have c8b0 : decide (t141 < 0) = false := decide_eq_false c8
      clear c8
      by_cases c14 : t141 = t139
      · rw [if_pos c14] at H
        have c14b0 : (t141 == t139) = true := beq_iff_eq.mpr c14
        have c14b1 : (t141 != t139) = false := bne_eq_false_iff_eq.mpr c14
        clear c14
        replace H := bN H
        obtain ⟨t142, A15, H⟩ := H
        replace H := bN H
        obtain ⟨t145, A16, H⟩ := H
        by_cases c17 : t145 = true
        · subst c17
          rw [if_pos rfl] at H
          replace H := bN H
          obtain ⟨t146, A18, H⟩ := H
          by_cases c19 : t146 < 0
          · rw [if_pos c19] at H
            have c19b0 : decide (t146 < 0) = true := decide_eq_true c19
            clear c19
            obtain rfl := Option.some.inj H
            go_enter Try.func13, Try.ntmps13
            go_wp2_with (first | ((with_reducible refine gC 49 ?_); refine cL (some 9) Try.func49 #[.int .i64 a0] ?_; (with_reducible refine (spec_WhiteRows.calls k a0 t132 _ A2.out).mono ?_); rintro e w20 ⟨v133, rfl, ho0, hb⟩; refine ⟨_, rfl, ?_⟩; obtain ⟨b134, HZ134, hz134⟩ := S_born ho0; have HL134 := Aside0.mk (show w.heap.size ≤ b134 from by rw [HZ134.out]; exact (below_size bS)); have HO134 := Aside0.mk (hz134); replace HB := hB hb; (try clear hb); (try clear hb2); (try clear hk); (try clear hi); (try clear ho0)) | ((with_reducible refine gC 50 ?_); refine cL (some 11) Try.func50 #[.int .i64 a0] ?_; (with_reducible refine (impl_WhiteRows.calls k a0 t135 _ A3.out).mono ?_); rintro e w21 ⟨v136, rfl, ho0, hb⟩; refine ⟨_, rfl, ?_⟩; obtain ⟨b137, HZ137, hz137⟩ := S_born ho0; have HL137 := Aside0.mk (show w.heap.size ≤ b137 from by rw [HZ137.out]; exact (below_size bS)); have HO137 := Aside0.mk (hz137); replace HO134 := Aside0.mk (S_oldB (by (with_reducible repeat (first | apply Kd.S_alloc | apply Kd.S_drewN | apply Kd.S_drew)); exact HO134.out) hb HZ137.out); replace HB := hB hb; (try clear hb); (try clear hb2); (try clear hk); (try clear hi); (try clear ho0); obtain ⟨Ao22, co22, eo22⟩ := Kd.S_slice HO137.out; subst eo22; obtain ⟨Ao23, co23, eo23⟩ := Kd.S_slice HO134.out; subst eo23) | ((with_reducible refine gC 30 ?_); refine cL (some 14) Try.func30 #[.slice Ao22 t135.length co22, .slice Ao23 t132.length co23] ?_; (with_reducible refine (laws_eqIntSS.calls k _ _ t135 _ _ t132 true _ ?side1 ?side2 ?side3 ?side4 A4.out).mono ?_); (case side1 => exact cS (Kd.S_reads' HO137.out).2.2); (case side2 => exact (Kd.S_reads' HO137.out).2.1); (case side3 => exact cS (Kd.S_reads' HO134.out).2.2); (case side4 => exact (Kd.S_reads' HO134.out).2.1); rintro e w' ⟨rfl, ⟨nd, rfl⟩⟩; refine ⟨_, rfl, ?_⟩) | ((with_reducible refine gC 51 ?_); refine cL (some 18) Try.func51 #[.slice Ao22 t135.length co22, .int .i64 1] ?_; (with_reducible refine (laws_markIntSS.calls k (fun k_ => (w.heap.size ≤ k_ ∧ ∃ q_, q_ ∈ 47 :: (Kd.slice 3 (Kd.int .i64)).E ∧ ∃ c_, w21.heap[k_]? = some (.cells c_ q_ (0, 0))) ∧ b137 ≤ k_ ∧ True) (.slice Ao22 t135.length co22) t135 1 t139 t140 w _ ?side1 ?side2 A6.out).mono ?_); (case side1 => repeat (first | (with_reducible first | exact HB.out | apply below_alloc | apply pw_below_drewN | apply below_drew1) | exact HB.out)); (case side2 => (with_reducible repeat (first | apply Kd.S_alloc | apply Kd.S_drewN | apply Kd.S_drew)); exact Kd.S_lower (Kd.S_mono (Kd.S_bound HO137.out) (fun k_ h_ => ⟨⟨Nat.le_trans HL137.out h_.2.1, h_.2.2.2⟩, h_.2.1, trivial⟩)) HL137.out); rintro e w24 ⟨rfl, hy0, hb, hkp⟩; refine ⟨_, rfl, ?_⟩; replace HO134 := Aside0.mk (Kd.S_mono (ok' := fun k_ => k_ < b137) (Kd.S_keptB ((S_not (fun k_ => (w.heap.size ≤ k_ ∧ ∃ q_, q_ ∈ 47 :: (Kd.slice 3 (Kd.int .i64)).E ∧ ∃ c_, w21.heap[k_]? = some (.cells c_ q_ (0, 0))) ∧ b137 ≤ k_ ∧ True) HO134.out (fun k_ h_ e_ => Nat.not_le.2 (h_.1.2) e_.2.1))) hkp (fun k_ hk_ hs_ => (hk_.2) hs_)) (fun k_ hk_ => hk_.1.1.2)); replace HO137 := Aside0.mk (Kd.S_mono (ok' := fun _ => True) hy0 (fun _ _ => trivial)); replace HB := Aside0.mk (hb); (try clear hb); (try clear hkp); (try clear hy0)) | ((with_reducible refine gC 52 ?_); refine goesL_ (some 21) rfl rfl Try.func52 (by kernel_rfl) rfl #[.slice Ao22 t140.length co22, .int .i64 1] rfl (by (try simp only [List.map_toArray, List.map_cons, List.map_nil]); first | done | (rw [show t140.length = t135.length from (Kd.S_reads' HO137.out).1.symm] <;> rfl) | rfl | (simp only [List.length_drop, List.length_take]; rfl)) ?_; (with_reducible refine (laws_heldIntSS.calls k _ _ t140 1 t141 _ ?side1 ?side2 A7.out).mono ?_); (case side1 => exact cS (Kd.S_reads' HO137.out).2.2); (case side2 => rw [show t140.length = t135.length from (Kd.S_reads' HO137.out).1.symm]; exact (Kd.S_reads' HO137.out).2.1); rintro e w' ⟨rfl, ⟨nd, rfl⟩⟩; refine ⟨_, rfl, ?_⟩) | ((with_reducible refine gC 50 ?_); refine cL (some 28) Try.func50 #[.int .i64 a0] ?_; (with_reducible refine (impl_WhiteRows.calls k a0 t142 _ A15.out).mono ?_); rintro e w25 ⟨v143, rfl, ho0, hb⟩; refine ⟨_, rfl, ?_⟩; obtain ⟨b144, HZ144, hz144⟩ := S_born ho0; have HL144 := Aside0.mk (show w.heap.size ≤ b144 from by rw [HZ144.out]; exact (below_size bS)); have HO144 := Aside0.mk (hz144); replace HO134 := Aside0.mk (S_oldB (by (with_reducible repeat (first | apply Kd.S_alloc | apply Kd.S_drewN | apply Kd.S_drew)); exact HO134.out) hb HZ144.out); replace HO137 := Aside0.mk (S_oldB (by (with_reducible repeat (first | apply Kd.S_alloc | apply Kd.S_drewN | apply Kd.S_drew)); exact HO137.out) hb HZ144.out); replace HB := hB hb; (try clear hb); (try clear hb2); (try clear hk); (try clear hi); (try clear ho0); obtain ⟨Ao26, co26, eo26⟩ := Kd.S_slice HO144.out; subst eo26) | ((with_reducible refine gC 30 ?_); refine cL (some 31) Try.func30 #[.slice Ao26 t142.length co26, .slice Ao23 t132.length co23] ?_; (with_reducible refine (laws_eqIntSS.calls k _ _ t142 _ _ t132 true _ ?side1 ?side2 ?side3 ?side4 A16.out).mono ?_); (case side1 => exact cS (Kd.S_reads' HO144.out).2.2); (case side2 => exact (Kd.S_reads' HO144.out).2.1); (case side3 => exact cS (Kd.S_reads' HO134.out).2.2); (case side4 => exact (Kd.S_reads' HO134.out).2.1); rintro e w' ⟨rfl, ⟨nd, rfl⟩⟩; refine ⟨_, rfl, ?_⟩) | ((with_reducible refine gC 52 ?_); refine goesL_ (some 35) rfl rfl Try.func52 (by kernel_rfl) rfl #[.slice Ao22 t140.length co22, .int .i64 1] rfl (by (try simp only [List.map_toArray, List.map_cons, List.map_nil]); first | done | (rw [show t140.length = t135.length from (Kd.S_reads' HO137.out).1.symm] <;> rfl) | rfl | (simp only [List.length_drop, List.length_take]; rfl)) ?_; (with_reducible refine (laws_heldIntSS.calls k _ _ t140 1 t146 _ ?side1 ?side2 A18.out).mono ?_); (case side1 => exact cS (Kd.S_reads' HO137.out).2.2); (case side2 => rw [show t140.length = t135.length from (Kd.S_reads' HO137.out).1.symm]; exact (Kd.S_reads' HO137.out).2.1); rintro e w' ⟨rfl, ⟨nd, rfl⟩⟩; refine ⟨_, rfl, ?_⟩))
            go_ret
            exact ⟨eS, bS⟩
          · rw [if_neg c19] at H
            have c19b0 : decide (t146 < 0) = false := decide_eq_false c19
            clear c19
            by_cases c27 : t146 = t139
            · rw [if_pos c27] at H
              have c27b0 : (t146 == t139) = true := beq_iff_eq.mpr c27
              have c27b1 : (t146 != t139) = false := bne_eq_false_iff_eq.mpr c27
              clear c27
              obtain rfl := Option.some.inj H
              go_enter Try.func13, Try.ntmps13
              go_wp2_with (first | ((with_reducible refine gC 49 ?_); refine cL (some 9) Try.func49 #[.int .i64 a0] ?_; (with_reducible refine (spec_WhiteRows.calls k a0 t132 _ A2.out).mono ?_); rintro e w28 ⟨v133, rfl, ho0, hb⟩; refine ⟨_, rfl, ?_⟩; obtain ⟨b134, HZ134, hz134⟩ := S_born ho0; have HL134 := Aside0.mk (show w.heap.size ≤ b134 from by rw [HZ134.out]; exact (below_size bS)); have HO134 := Aside0.mk (hz134); replace HB := hB hb; (try clear hb); (try clear hb2); (try clear hk); (try clear hi); (try clear ho0)) | ((with_reducible refine gC 50 ?_); refine cL (some 11) Try.func50 #[.int .i64 a0] ?_; (with_reducible refine (impl_WhiteRows.calls k a0 t135 _ A3.out).mono ?_); rintro e w29 ⟨v136, rfl, ho0, hb⟩; refine ⟨_, rfl, ?_⟩; obtain ⟨b137, HZ137, hz137⟩ := S_born ho0; have HL137 := Aside0.mk (show w.heap.size ≤ b137 from by rw [HZ137.out]; exact (below_size bS)); have HO137 := Aside0.mk (hz137); replace HO134 := Aside0.mk (S_oldB (by (with_reducible repeat (first | apply Kd.S_alloc | apply Kd.S_drewN | apply Kd.S_drew)); exact HO134.out) hb HZ137.out); replace HB := hB hb; (try clear hb); (try clear hb2); (try clear hk); (try clear hi); (try clear ho0); obtain ⟨Ao30, co30, eo30⟩ := Kd.S_slice HO137.out; subst eo30; obtain ⟨Ao31, co31, eo31⟩ := Kd.S_slice HO134.out; subst eo31) | ((with_reducible refine gC 30 ?_); refine cL (some 14) Try.func30 #[.slice Ao30 t135.length co30, .slice Ao31 t132.length co31] ?_; (with_reducible refine (laws_eqIntSS.calls k _ _ t135 _ _ t132 true _ ?side1 ?side2 ?side3 ?side4 A4.out).mono ?_); (case side1 => exact cS (Kd.S_reads' HO137.out).2.2); (case side2 => exact (Kd.S_reads' HO137.out).2.1); (case side3 => exact cS (Kd.S_reads' HO134.out).2.2); (case side4 => exact (Kd.S_reads' HO134.out).2.1); rintro e w' ⟨rfl, ⟨nd, rfl⟩⟩; refine ⟨_, rfl, ?_⟩) | ((with_reducible refine gC 51 ?_); refine cL (some 18) Try.func51 #[.slice Ao30 t135.length co30, .int .i64 1] ?_; (with_reducible refine (laws_markIntSS.calls k (fun k_ => (w.heap.size ≤ k_ ∧ ∃ q_, q_ ∈ 47 :: (Kd.slice 3 (Kd.int .i64)).E ∧ ∃ c_, w29.heap[k_]? = some (.cells c_ q_ (0, 0))) ∧ b137 ≤ k_ ∧ True) (.slice Ao30 t135.length co30) t135 1 t139 t140 w _ ?side1 ?side2 A6.out).mono ?_); (case side1 => repeat (first | (with_reducible first | exact HB.out | apply below_alloc | apply pw_below_drewN | apply below_drew1) | exact HB.out)); (case side2 => (with_reducible repeat (first | apply Kd.S_alloc | apply Kd.S_drewN | apply Kd.S_drew)); exact Kd.S_lower (Kd.S_mono (Kd.S_bound HO137.out) (fun k_ h_ => ⟨⟨Nat.le_trans HL137.out h_.2.1, h_.2.2.2⟩, h_.2.1, trivial⟩)) HL137.out); rintro e w32 ⟨rfl, hy0, hb, hkp⟩; refine ⟨_, rfl, ?_⟩; replace HO134 := Aside0.mk (Kd.S_mono (ok' := fun k_ => k_ < b137) (Kd.S_keptB ((S_not (fun k_ => (w.heap.size ≤ k_ ∧ ∃ q_, q_ ∈ 47 :: (Kd.slice 3 (Kd.int .i64)).E ∧ ∃ c_, w29.heap[k_]? = some (.cells c_ q_ (0, 0))) ∧ b137 ≤ k_ ∧ True) HO134.out (fun k_ h_ e_ => Nat.not_le.2 (h_.1.2) e_.2.1))) hkp (fun k_ hk_ hs_ => (hk_.2) hs_)) (fun k_ hk_ => hk_.1.1.2)); replace HO137 := Aside0.mk (Kd.S_mono (ok' := fun _ => True) hy0 (fun _ _ => trivial)); replace HB := Aside0.mk (hb); (try clear hb); (try clear hkp); (try clear hy0)) | ((with_reducible refine gC 52 ?_); refine goesL_ (some 21) rfl rfl Try.func52 (by kernel_rfl) rfl #[.slice Ao30 t140.length co30, .int .i64 1] rfl (by (try simp only [List.map_toArray, List.map_cons, List.map_nil]); first | done | (rw [show t140.length = t135.length from (Kd.S_reads' HO137.out).1.symm] <;> rfl) | rfl | (simp only [List.length_drop, List.length_take]; rfl)) ?_; (with_reducible refine (laws_heldIntSS.calls k _ _ t140 1 t141 _ ?side1 ?side2 A7.out).mono ?_); (case side1 => exact cS (Kd.S_reads' HO137.out).2.2); (case side2 => rw [show t140.length = t135.length from (Kd.S_reads' HO137.out).1.symm]; exact (Kd.S_reads' HO137.out).2.1); rintro e w' ⟨rfl, ⟨nd, rfl⟩⟩; refine ⟨_, rfl, ?_⟩) | ((with_reducible refine gC 50 ?_); refine cL (some 28) Try.func50 #[.int .i64 a0] ?_; (with_reducible refine (impl_WhiteRows.calls k a0 t142 _ A15.out).mono ?_); rintro e w33 ⟨v143, rfl, ho0, hb⟩; refine ⟨_, rfl, ?_⟩; obtain ⟨b144, HZ144, hz144⟩ := S_born ho0; have HL144 := Aside0.mk (show w.heap.size ≤ b144 from by rw [HZ144.out]; exact (below_size bS)); have HO144 := Aside0.mk (hz144); replace HO134 := Aside0.mk (S_oldB (by (with_reducible repeat (first | apply Kd.S_alloc | apply Kd.S_drewN | apply Kd.S_drew)); exact HO134.out) hb HZ144.out); replace HO137 := Aside0.mk (S_oldB (by (with_reducible repeat (first | apply Kd.S_alloc | apply Kd.S_drewN | apply Kd.S_drew)); exact HO137.out) hb HZ144.out); replace HB := hB hb; (try clear hb); (try clear hb2); (try clear hk); (try clear hi); (try clear ho0); obtain ⟨Ao34, co34, eo34⟩ := Kd.S_slice HO144.out; subst eo34) | ((with_reducible refine gC 30 ?_); refine cL (some 31) Try.func30 #[.slice Ao34 t142.length co34, .slice Ao31 t132.length co31] ?_; (with_reducible refine (laws_eqIntSS.calls k _ _ t142 _ _ t132 true _ ?side1 ?side2 ?side3 ?side4 A16.out).mono ?_); (case side1 => exact cS (Kd.S_reads' HO144.out).2.2); (case side2 => exact (Kd.S_reads' HO144.out).2.1); (case side3 => exact cS (Kd.S_reads' HO134.out).2.2); (case side4 => exact (Kd.S_reads' HO134.out).2.1); rintro e w' ⟨rfl, ⟨nd, rfl⟩⟩; refine ⟨_, rfl, ?_⟩) | ((with_reducible refine gC 52 ?_); refine goesL_ (some 35) rfl rfl Try.func52 (by kernel_rfl) rfl #[.slice Ao30 t140.length co30, .int .i64 1] rfl (by (try simp only [List.map_toArray, List.map_cons, List.map_nil]); first | done | (rw [show t140.length = t135.length from (Kd.S_reads' HO137.out).1.symm] <;> rfl) | rfl | (simp only [List.length_drop, List.length_take]; rfl)) ?_; (with_reducible refine (laws_heldIntSS.calls k _ _ t140 1 t146 _ ?side1 ?side2 A18.out).mono ?_); (case side1 => exact cS (Kd.S_reads' HO137.out).2.2); (case side2 => rw [show t140.length = t135.length from (Kd.S_reads' HO137.out).1.symm]; exact (Kd.S_reads' HO137.out).2.1); rintro e w' ⟨rfl, ⟨nd, rfl⟩⟩; refine ⟨_, rfl, ?_⟩))
              go_ret
              exact ⟨eS, bS⟩
            · rw [if_neg c27] at H
              have c27b0 : (t146 == t139) = false := beq_eq_false_iff_ne.mpr c27
              have c27b1 : (t146 != t139) = true := bne_iff_ne.mpr c27
              obtain rfl := Option.some.inj H
              go_enter Try.func13, Try.ntmps13
              go_wp2_with (first | ((with_reducible refine gC 49 ?_); refine cL (some 9) Try.func49 #[.int .i64 a0] ?_; (with_reducible refine (spec_WhiteRows.calls k a0 t132 _ A2.out).mono ?_); rintro e w35 ⟨v133, rfl, ho0, hb⟩; refine ⟨_, rfl, ?_⟩; obtain ⟨b134, HZ134, hz134⟩ := S_born ho0; have HL134 := Aside0.mk (show w.heap.size ≤ b134 from by rw [HZ134.out]; exact (below_size bS)); have HO134 := Aside0.mk (hz134); replace HB := hB hb; (try clear hb); (try clear hb2); (try clear hk); (try clear hi); (try clear ho0)) | ((with_reducible refine gC 50 ?_); refine cL (some 11) Try.func50 #[.int .i64 a0] ?_; (with_reducible refine (impl_WhiteRows.calls k a0 t135 _ A3.out).mono ?_); rintro e w36 ⟨v136, rfl, ho0, hb⟩; refine ⟨_, rfl, ?_⟩; obtain ⟨b137, HZ137, hz137⟩ := S_born ho0; have HL137 := Aside0.mk (show w.heap.size ≤ b137 from by rw [HZ137.out]; exact (below_size bS)); have HO137 := Aside0.mk (hz137); replace HO134 := Aside0.mk (S_oldB (by (with_reducible repeat (first | apply Kd.S_alloc | apply Kd.S_drewN | apply Kd.S_drew)); exact HO134.out) hb HZ137.out); replace HB := hB hb; (try clear hb); (try clear hb2); (try clear hk); (try clear hi); (try clear ho0); obtain ⟨Ao37, co37, eo37⟩ := Kd.S_slice HO137.out; subst eo37; obtain ⟨Ao38, co38, eo38⟩ := Kd.S_slice HO134.out; subst eo38) | ((with_reducible refine gC 30 ?_); refine cL (some 14) Try.func30 #[.slice Ao37 t135.length co37, .slice Ao38 t132.length co38] ?_; (with_reducible refine (laws_eqIntSS.calls k _ _ t135 _ _ t132 true _ ?side1 ?side2 ?side3 ?side4 A4.out).mono ?_); (case side1 => exact cS (Kd.S_reads' HO137.out).2.2); (case side2 => exact (Kd.S_reads' HO137.out).2.1); (case side3 => exact cS (Kd.S_reads' HO134.out).2.2); (case side4 => exact (Kd.S_reads' HO134.out).2.1); rintro e w' ⟨rfl, ⟨nd, rfl⟩⟩; refine ⟨_, rfl, ?_⟩) | ((with_reducible refine gC 51 ?_); refine cL (some 18) Try.func51 #[.slice Ao37 t135.length co37, .int .i64 1] ?_; (with_reducible refine (laws_markIntSS.calls k (fun k_ => (w.heap.size ≤ k_ ∧ ∃ q_, q_ ∈ 47 :: (Kd.slice 3 (Kd.int .i64)).E ∧ ∃ c_, w36.heap[k_]? = some (.cells c_ q_ (0, 0))) ∧ b137 ≤ k_ ∧ True) (.slice Ao37 t135.length co37) t135 1 t139 t140 w _ ?side1 ?side2 A6.out).mono ?_); (case side1 => repeat (first | (with_reducible first | exact HB.out | apply below_alloc | apply pw_below_drewN | apply below_drew1) | exact HB.out)); (case side2 => (with_reducible repeat (first | apply Kd.S_alloc | apply Kd.S_drewN | apply Kd.S_drew)); exact Kd.S_lower (Kd.S_mono (Kd.S_bound HO137.out) (fun k_ h_ => ⟨⟨Nat.le_trans HL137.out h_.2.1, h_.2.2.2⟩, h_.2.1, trivial⟩)) HL137.out); rintro e w39 ⟨rfl, hy0, hb, hkp⟩; refine ⟨_, rfl, ?_⟩; replace HO134 := Aside0.mk (Kd.S_mono (ok' := fun k_ => k_ < b137) (Kd.S_keptB ((S_not (fun k_ => (w.heap.size ≤ k_ ∧ ∃ q_, q_ ∈ 47 :: (Kd.slice 3 (Kd.int .i64)).E ∧ ∃ c_, w36.heap[k_]? = some (.cells c_ q_ (0, 0))) ∧ b137 ≤ k_ ∧ True) HO134.out (fun k_ h_ e_ => Nat.not_le.2 (h_.1.2) e_.2.1))) hkp (fun k_ hk_ hs_ => (hk_.2) hs_)) (fun k_ hk_ => hk_.1.1.2)); replace HO137 := Aside0.mk (Kd.S_mono (ok' := fun _ => True) hy0 (fun _ _ => trivial)); replace HB := Aside0.mk (hb); (try clear hb); (try clear hkp); (try clear hy0)) | ((with_reducible refine gC 52 ?_); refine goesL_ (some 21) rfl rfl Try.func52 (by kernel_rfl) rfl #[.slice Ao37 t140.length co37, .int .i64 1] rfl (by (try simp only [List.map_toArray, List.map_cons, List.map_nil]); first | done | (rw [show t140.length = t135.length from (Kd.S_reads' HO137.out).1.symm] <;> rfl) | rfl | (simp only [List.length_drop, List.length_take]; rfl)) ?_; (with_reducible refine (laws_heldIntSS.calls k _ _ t140 1 t141 _ ?side1 ?side2 A7.out).mono ?_); (case side1 => exact cS (Kd.S_reads' HO137.out).2.2); (case side2 => rw [show t140.length = t135.length from (Kd.S_reads' HO137.out).1.symm]; exact (Kd.S_reads' HO137.out).2.1); rintro e w' ⟨rfl, ⟨nd, rfl⟩⟩; refine ⟨_, rfl, ?_⟩) | ((with_reducible refine gC 50 ?_); refine cL (some 28) Try.func50 #[.int .i64 a0] ?_; (with_reducible refine (impl_WhiteRows.calls k a0 t142 _ A15.out).mono ?_); rintro e w40 ⟨v143, rfl, ho0, hb⟩; refine ⟨_, rfl, ?_⟩; obtain ⟨b144, HZ144, hz144⟩ := S_born ho0; have HL144 := Aside0.mk (show w.heap.size ≤ b144 from by rw [HZ144.out]; exact (below_size bS)); have HO144 := Aside0.mk (hz144); replace HO134 := Aside0.mk (S_oldB (by (with_reducible repeat (first | apply Kd.S_alloc | apply Kd.S_drewN | apply Kd.S_drew)); exact HO134.out) hb HZ144.out); replace HO137 := Aside0.mk (S_oldB (by (with_reducible repeat (first | apply Kd.S_alloc | apply Kd.S_drewN | apply Kd.S_drew)); exact HO137.out) hb HZ144.out); replace HB := hB hb; (try clear hb); (try clear hb2); (try clear hk); (try clear hi); (try clear ho0); obtain ⟨Ao41, co41, eo41⟩ := Kd.S_slice HO144.out; subst eo41) | ((with_reducible refine gC 30 ?_); refine cL (some 31) Try.func30 #[.slice Ao41 t142.length co41, .slice Ao38 t132.length co38] ?_; (with_reducible refine (laws_eqIntSS.calls k _ _ t142 _ _ t132 true _ ?side1 ?side2 ?side3 ?side4 A16.out).mono ?_); (case side1 => exact cS (Kd.S_reads' HO144.out).2.2); (case side2 => exact (Kd.S_reads' HO144.out).2.1); (case side3 => exact cS (Kd.S_reads' HO134.out).2.2); (case side4 => exact (Kd.S_reads' HO134.out).2.1); rintro e w' ⟨rfl, ⟨nd, rfl⟩⟩; refine ⟨_, rfl, ?_⟩) | ((with_reducible refine gC 52 ?_); refine goesL_ (some 35) rfl rfl Try.func52 (by kernel_rfl) rfl #[.slice Ao37 t140.length co37, .int .i64 1] rfl (by (try simp only [List.map_toArray, List.map_cons, List.map_nil]); first | done | (rw [show t140.length = t135.length from (Kd.S_reads' HO137.out).1.symm] <;> rfl) | rfl | (simp only [List.length_drop, List.length_take]; rfl)) ?_; (with_reducible refine (laws_heldIntSS.calls k _ _ t140 1 t146 _ ?side1 ?side2 A18.out).mono ?_); (case side1 => exact cS (Kd.S_reads' HO137.out).2.2); (case side2 => rw [show t140.length = t135.length from (Kd.S_reads' HO137.out).1.symm]; exact (Kd.S_reads' HO137.out).2.1); rintro e w' ⟨rfl, ⟨nd, rfl⟩⟩; refine ⟨_, rfl, ?_⟩))
              go_ret
              exact ⟨eS, bS⟩
        · obtain rfl := Bool.eq_false_iff.mpr c17
          rw [if_neg nF] at H
          obtain rfl := Option.some.inj H
          go_enter Try.func13, Try.ntmps13
          go_wp2_with (first | ((with_reducible refine gC 49 ?_); refine cL (some 9) Try.func49 #[.int .i64 a0] ?_; (with_reducible refine (spec_WhiteRows.calls k a0 t132 _ A2.out).mono ?_); rintro e w42 ⟨v133, rfl, ho0, hb⟩; refine ⟨_, rfl, ?_⟩; obtain ⟨b134, HZ134, hz134⟩ := S_born ho0; have HL134 := Aside0.mk (show w.heap.size ≤ b134 from by rw [HZ134.out]; exact (below_size bS)); have HO134 := Aside0.mk (hz134); replace HB := hB hb; (try clear hb); (try clear hb2); (try clear hk); (try clear hi); (try clear ho0)) | ((with_reducible refine gC 50 ?_); refine cL (some 11) Try.func50 #[.int .i64 a0] ?_; (with_reducible refine (impl_WhiteRows.calls k a0 t135 _ A3.out).mono ?_); rintro e w43 ⟨v136, rfl, ho0, hb⟩; refine ⟨_, rfl, ?_⟩; obtain ⟨b137, HZ137, hz137⟩ := S_born ho0; have HL137 := Aside0.mk (show w.heap.size ≤ b137 from by rw [HZ137.out]; exact (below_size bS)); have HO137 := Aside0.mk (hz137); replace HO134 := Aside0.mk (S_oldB (by (with_reducible repeat (first | apply Kd.S_alloc | apply Kd.S_drewN | apply Kd.S_drew)); exact HO134.out) hb HZ137.out); replace HB := hB hb; (try clear hb); (try clear hb2); (try clear hk); (try clear hi); (try clear ho0); obtain ⟨Ao44, co44, eo44⟩ := Kd.S_slice HO137.out; subst eo44; obtain ⟨Ao45, co45, eo45⟩ := Kd.S_slice HO134.out; subst eo45) | ((with_reducible refine gC 30 ?_); refine cL (some 14) Try.func30 #[.slice Ao44 t135.length co44, .slice Ao45 t132.length co45] ?_; (with_reducible refine (laws_eqIntSS.calls k _ _ t135 _ _ t132 true _ ?side1 ?side2 ?side3 ?side4 A4.out).mono ?_); (case side1 => exact cS (Kd.S_reads' HO137.out).2.2); (case side2 => exact (Kd.S_reads' HO137.out).2.1); (case side3 => exact cS (Kd.S_reads' HO134.out).2.2); (case side4 => exact (Kd.S_reads' HO134.out).2.1); rintro e w' ⟨rfl, ⟨nd, rfl⟩⟩; refine ⟨_, rfl, ?_⟩) | ((with_reducible refine gC 51 ?_); refine cL (some 18) Try.func51 #[.slice Ao44 t135.length co44, .int .i64 1] ?_; (with_reducible refine (laws_markIntSS.calls k (fun k_ => (w.heap.size ≤ k_ ∧ ∃ q_, q_ ∈ 47 :: (Kd.slice 3 (Kd.int .i64)).E ∧ ∃ c_, w43.heap[k_]? = some (.cells c_ q_ (0, 0))) ∧ b137 ≤ k_ ∧ True) (.slice Ao44 t135.length co44) t135 1 t139 t140 w _ ?side1 ?side2 A6.out).mono ?_); (case side1 => repeat (first | (with_reducible first | exact HB.out | apply below_alloc | apply pw_below_drewN | apply below_drew1) | exact HB.out)); (case side2 => (with_reducible repeat (first | apply Kd.S_alloc | apply Kd.S_drewN | apply Kd.S_drew)); exact Kd.S_lower (Kd.S_mono (Kd.S_bound HO137.out) (fun k_ h_ => ⟨⟨Nat.le_trans HL137.out h_.2.1, h_.2.2.2⟩, h_.2.1, trivial⟩)) HL137.out); rintro e w46 ⟨rfl, hy0, hb, hkp⟩; refine ⟨_, rfl, ?_⟩; replace HO134 := Aside0.mk (Kd.S_mono (ok' := fun k_ => k_ < b137) (Kd.S_keptB ((S_not (fun k_ => (w.heap.size ≤ k_ ∧ ∃ q_, q_ ∈ 47 :: (Kd.slice 3 (Kd.int .i64)).E ∧ ∃ c_, w43.heap[k_]? = some (.cells c_ q_ (0, 0))) ∧ b137 ≤ k_ ∧ True) HO134.out (fun k_ h_ e_ => Nat.not_le.2 (h_.1.2) e_.2.1))) hkp (fun k_ hk_ hs_ => (hk_.2) hs_)) (fun k_ hk_ => hk_.1.1.2)); replace HO137 := Aside0.mk (Kd.S_mono (ok' := fun _ => True) hy0 (fun _ _ => trivial)); replace HB := Aside0.mk (hb); (try clear hb); (try clear hkp); (try clear hy0)) | ((with_reducible refine gC 52 ?_); refine goesL_ (some 21) rfl rfl Try.func52 (by kernel_rfl) rfl #[.slice Ao44 t140.length co44, .int .i64 1] rfl (by (try simp only [List.map_toArray, List.map_cons, List.map_nil]); first | done | (rw [show t140.length = t135.length from (Kd.S_reads' HO137.out).1.symm] <;> rfl) | rfl | (simp only [List.length_drop, List.length_take]; rfl)) ?_; (with_reducible refine (laws_heldIntSS.calls k _ _ t140 1 t141 _ ?side1 ?side2 A7.out).mono ?_); (case side1 => exact cS (Kd.S_reads' HO137.out).2.2); (case side2 => rw [show t140.length = t135.length from (Kd.S_reads' HO137.out).1.symm]; exact (Kd.S_reads' HO137.out).2.1); rintro e w' ⟨rfl, ⟨nd, rfl⟩⟩; refine ⟨_, rfl, ?_⟩) | ((with_reducible refine gC 50 ?_); refine cL (some 28) Try.func50 #[.int .i64 a0] ?_; (with_reducible refine (impl_WhiteRows.calls k a0 t142 _ A15.out).mono ?_); rintro e w47 ⟨v143, rfl, ho0, hb⟩; refine ⟨_, rfl, ?_⟩; obtain ⟨b144, HZ144, hz144⟩ := S_born ho0; have HL144 := Aside0.mk (show w.heap.size ≤ b144 from by rw [HZ144.out]; exact (below_size bS)); have HO144 := Aside0.mk (hz144); replace HO134 := Aside0.mk (S_oldB (by (with_reducible repeat (first | apply Kd.S_alloc | apply Kd.S_drewN | apply Kd.S_drew)); exact HO134.out) hb HZ144.out); replace HO137 := Aside0.mk (S_oldB (by (with_reducible repeat (first | apply Kd.S_alloc | apply Kd.S_drewN | apply Kd.S_drew)); exact HO137.out) hb HZ144.out); replace HB := hB hb; (try clear hb); (try clear hb2); (try clear hk); (try clear hi); (try clear ho0); obtain ⟨Ao48, co48, eo48⟩ := Kd.S_slice HO144.out; subst eo48) | ((with_reducible refine gC 30 ?_); refine cL (some 31) Try.func30 #[.slice Ao48 t142.length co48, .slice Ao45 t132.length co45] ?_; (with_reducible refine (laws_eqIntSS.calls k _ _ t142 _ _ t132 false _ ?side1 ?side2 ?side3 ?side4 A16.out).mono ?_); (case side1 => exact cS (Kd.S_reads' HO144.out).2.2); (case side2 => exact (Kd.S_reads' HO144.out).2.1); (case side3 => exact cS (Kd.S_reads' HO134.out).2.2); (case side4 => exact (Kd.S_reads' HO134.out).2.1); rintro e w' ⟨rfl, ⟨nd, rfl⟩⟩; refine ⟨_, rfl, ?_⟩))
          go_ret
          exact ⟨eS, bS⟩
      · rw [if_neg c14] at H
        have c14b0 : (t141 == t139) = false := beq_eq_false_iff_ne.mpr c14
        have c14b1 : (t141 != t139) = true := bne_iff_ne.mpr c14
        obtain rfl := Option.some.inj H
        go_enter Try.func13, Try.ntmps13
        go_wp2_with (first | ((with_reducible refine gC 49 ?_); refine cL (some 9) Try.func49 #[.int .i64 a0] ?_; (with_reducible refine (spec_WhiteRows.calls k a0 t132 _ A2.out).mono ?_); rintro e w49 ⟨v133, rfl, ho0, hb⟩; refine ⟨_, rfl, ?_⟩; obtain ⟨b134, HZ134, hz134⟩ := S_born ho0; have HL134 := Aside0.mk (show w.heap.size ≤ b134 from by rw [HZ134.out]; exact (below_size bS)); have HO134 := Aside0.mk (hz134); replace HB := hB hb; (try clear hb); (try clear hb2); (try clear hk); (try clear hi); (try clear ho0)) | ((with_reducible refine gC 50 ?_); refine cL (some 11) Try.func50 #[.int .i64 a0] ?_; (with_reducible refine (impl_WhiteRows.calls k a0 t135 _ A3.out).mono ?_); rintro e w50 ⟨v136, rfl, ho0, hb⟩; refine ⟨_, rfl, ?_⟩; obtain ⟨b137, HZ137, hz137⟩ := S_born ho0; have HL137 := Aside0.mk (show w.heap.size ≤ b137 from by rw [HZ137.out]; exact (below_size bS)); have HO137 := Aside0.mk (hz137); replace HO134 := Aside0.mk (S_oldB (by (with_reducible repeat (first | apply Kd.S_alloc | apply Kd.S_drewN | apply Kd.S_drew)); exact HO134.out) hb HZ137.out); replace HB := hB hb; (try clear hb); (try clear hb2); (try clear hk); (try clear hi); (try clear ho0); obtain ⟨Ao51, co51, eo51⟩ := Kd.S_slice HO137.out; subst eo51; obtain ⟨Ao52, co52, eo52⟩ := Kd.S_slice HO134.out; subst eo52) | ((with_reducible refine gC 30 ?_); refine cL (some 14) Try.func30 #[.slice Ao51 t135.length co51, .slice Ao52 t132.length co52] ?_; (with_reducible refine (laws_eqIntSS.calls k _ _ t135 _ _ t132 true _ ?side1 ?side2 ?side3 ?side4 A4.out).mono ?_); (case side1 => exact cS (Kd.S_reads' HO137.out).2.2); (case side2 => exact (Kd.S_reads' HO137.out).2.1); (case side3 => exact cS (Kd.S_reads' HO134.out).2.2); (case side4 => exact (Kd.S_reads' HO134.out).2.1); rintro e w' ⟨rfl, ⟨nd, rfl⟩⟩; refine ⟨_, rfl, ?_⟩) | ((with_reducible refine gC 51 ?_); refine cL (some 18) Try.func51 #[.slice Ao51 t135.length co51, .int .i64 1] ?_; (with_reducible refine (laws_markIntSS.calls k (fun k_ => (w.heap.size ≤ k_ ∧ ∃ q_, q_ ∈ 47 :: (Kd.slice 3 (Kd.int .i64)).E ∧ ∃ c_, w50.heap[k_]? = some (.cells c_ q_ (0, 0))) ∧ b137 ≤ k_ ∧ True) (.slice Ao51 t135.length co51) t135 1 t139 t140 w _ ?side1 ?side2 A6.out).mono ?_); (case side1 => repeat (first | (with_reducible first | exact HB.out | apply below_alloc | apply pw_below_drewN | apply below_drew1) | exact HB.out)); (case side2 => (with_reducible repeat (first | apply Kd.S_alloc | apply Kd.S_drewN | apply Kd.S_drew)); exact Kd.S_lower (Kd.S_mono (Kd.S_bound HO137.out) (fun k_ h_ => ⟨⟨Nat.le_trans HL137.out h_.2.1, h_.2.2.2⟩, h_.2.1, trivial⟩)) HL137.out); rintro e w53 ⟨rfl, hy0, hb, hkp⟩; refine ⟨_, rfl, ?_⟩; replace HO134 := Aside0.mk (Kd.S_mono (ok' := fun k_ => k_ < b137) (Kd.S_keptB ((S_not (fun k_ => (w.heap.size ≤ k_ ∧ ∃ q_, q_ ∈ 47 :: (Kd.slice 3 (Kd.int .i64)).E ∧ ∃ c_, w50.heap[k_]? = some (.cells c_ q_ (0, 0))) ∧ b137 ≤ k_ ∧ True) HO134.out (fun k_ h_ e_ => Nat.not_le.2 (h_.1.2) e_.2.1))) hkp (fun k_ hk_ hs_ => (hk_.2) hs_)) (fun k_ hk_ => hk_.1.1.2)); replace HO137 := Aside0.mk (Kd.S_mono (ok' := fun _ => True) hy0 (fun _ _ => trivial)); replace HB := Aside0.mk (hb); (try clear hb); (try clear hkp); (try clear hy0)) | ((with_reducible refine gC 52 ?_); refine goesL_ (some 21) rfl rfl Try.func52 (by kernel_rfl) rfl #[.slice Ao51 t140.length co51, .int .i64 1] rfl (by (try simp only [List.map_toArray, List.map_cons, List.map_nil]); first | done | (rw [show t140.length = t135.length from (Kd.S_reads' HO137.out).1.symm] <;> rfl) | rfl | (simp only [List.length_drop, List.length_take]; rfl)) ?_; (with_reducible refine (laws_heldIntSS.calls k _ _ t140 1 t141 _ ?side1 ?side2 A7.out).mono ?_); (case side1 => exact cS (Kd.S_reads' HO137.out).2.2); (case side2 => rw [show t140.length = t135.length from (Kd.S_reads' HO137.out).1.symm]; exact (Kd.S_reads' HO137.out).2.1); rintro e w' ⟨rfl, ⟨nd, rfl⟩⟩; refine ⟨_, rfl, ?_⟩))
        go_ret
        exact ⟨eS, bS⟩
  · obtain rfl := Bool.eq_false_iff.mpr c5
    rw [if_neg nF] at H
    obtain rfl := Option.some.inj H
    go_enter Try.func13, Try.ntmps13
    go_wp2_with (first | ((with_reducible refine gC 49 ?_); refine cL (some 9) Try.func49 #[.int .i64 a0] ?_; (with_reducible refine (spec_WhiteRows.calls k a0 t132 _ A2.out).mono ?_); rintro e w54 ⟨v133, rfl, ho0, hb⟩; refine ⟨_, rfl, ?_⟩; obtain ⟨b134, HZ134, hz134⟩ := S_born ho0; have HL134 := Aside0.mk (show w.heap.size ≤ b134 from by rw [HZ134.out]; exact (below_size bS)); have HO134 := Aside0.mk (hz134); replace HB := hB hb; (try clear hb); (try clear hb2); (try clear hk); (try clear hi); (try clear ho0)) | ((with_reducible refine gC 50 ?_); refine cL (some 11) Try.func50 #[.int .i64 a0] ?_; (with_reducible refine (impl_WhiteRows.calls k a0 t135 _ A3.out).mono ?_); rintro e w55 ⟨v136, rfl, ho0, hb⟩; refine ⟨_, rfl, ?_⟩; obtain ⟨b137, HZ137, hz137⟩ := S_born ho0; have HL137 := Aside0.mk (show w.heap.size ≤ b137 from by rw [HZ137.out]; exact (below_size bS)); have HO137 := Aside0.mk (hz137); replace HO134 := Aside0.mk (S_oldB (by (with_reducible repeat (first | apply Kd.S_alloc | apply Kd.S_drewN | apply Kd.S_drew)); exact HO134.out) hb HZ137.out); replace HB := hB hb; (try clear hb); (try clear hb2); (try clear hk); (try clear hi); (try clear ho0); obtain ⟨Ao56, co56, eo56⟩ := Kd.S_slice HO137.out; subst eo56; obtain ⟨Ao57, co57, eo57⟩ := Kd.S_slice HO134.out; subst eo57) | ((with_reducible refine gC 30 ?_); refine cL (some 14) Try.func30 #[.slice Ao56 t135.length co56, .slice Ao57 t132.length co57] ?_; (with_reducible refine (laws_eqIntSS.calls k _ _ t135 _ _ t132 false _ ?side1 ?side2 ?side3 ?side4 A4.out).mono ?_); (case side1 => exact cS (Kd.S_reads' HO137.out).2.2); (case side2 => exact (Kd.S_reads' HO137.out).2.1); (case side3 => exact cS (Kd.S_reads' HO134.out).2.2); (case side4 => exact (Kd.S_reads' HO134.out).2.1); rintro e w' ⟨rfl, ⟨nd, rfl⟩⟩; refine ⟨_, rfl, ?_⟩))
    go_ret
    exact ⟨eS, bS⟩

end Go.Proofs.Ytbpekdhafniodaa.QFnExactWhiteRows
