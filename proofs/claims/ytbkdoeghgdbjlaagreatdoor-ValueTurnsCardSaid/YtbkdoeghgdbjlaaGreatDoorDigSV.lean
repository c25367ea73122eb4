/- Which decimal a text means: the reference; with which one a text begins: both. -/
import Derived.Test.YtbkdoeghgdbjlaaGreatDoorDigUV
set_option linter.unusedVariables false
set_option linter.unusedSimpArgs false
set_option maxRecDepth 100000
namespace Go.Den.EV
open Go Go.Proofs
theorem digit_g (l : List UInt8) (i : Nat) : D 93 [.sc (.string (B l)), .sc (.int .i64 (i : Int))] = some (.sc (.bool (isDp l i))) := by
  rw [f93_eq 0, isDp_eq]
  by_cases h : i < l.length
  · have c1 : decide ((i : Int) < ((B l).size : Int)) = true := by rw [decide_eq_true_eq, B_size]; omega
    have c2 : (0 : Int) ≤ (i : Int) := by omega
    have c3 : (i : Int) < ((B l).size : Int) := by rw [B_size]; omega
    rw [dif_pos h, c1, B_bt h]
    have e1 : decide ((l[i].toNat : Int) ≥ 48) = decide (48 ≤ l[i].toNat) := decide_eq_decide.2 (by omega)
    have e2 : decide ((l[i].toNat : Int) ≤ 57) = decide (l[i].toNat ≤ 57) := decide_eq_decide.2 (by omega)
    rw [e1, e2]
    simp only [if_pos c2, if_pos c3, bs, tb, if_true, bA]
    rfl
  · have c1 : decide ((i : Int) < ((B l).size : Int)) = false := by rw [decide_eq_false_iff_not, B_size]; omega
    rw [dif_neg h, c1]
    rfl
theorem dval_g {b : UInt8} (hd : isD b = true) : IntKind.i64.wrap (IntKind.i64.wrap (b.toNat : Int) - 48) = ((b.toNat - 48 : Nat) : Int) := by
  have hb : 48 ≤ b.toNat ∧ b.toNat ≤ 57 := by unfold isD at hd; simpa using hd
  rw [w64 (x := (b.toNat : Int)) (by omega) (by omega), w64 (by omega) (by omega)]; omega
theorem more_g {v c : Nat} (hc : c ≤ 9) : D 110 [.agg [.sc (.int .i64 (gotN v).1), .sc (.bool (gotN v).2)], .sc (.int .i64 (c : Int))] = some (pvGa (gotN (v * 10 + c))) := by
  rw [f110_eq 0]
  by_cases hv : (v : Int) ≤ 9223372036854775807
  · rw [gotN_yes hv]
    have m1 : May (v : Int) := by unfold May; omega
    have m2 : May (c : Int) := by unfold May; omega
    refine im (show ¬ (!true) = true by decide) (cb (rscl_ev m1 (by decide) (by decide)) rfl ?_)
    by_cases h3 : (v : Int) * 10 ≤ 9223372036854775807
    · have em : mulS (v : Int) 10 = ((v : Int) * 10, true) := mulS_yes ⟨m1, by decide, by unfold May; omega⟩
      rw [em]
      refine im (by show ¬ (!true) = true; decide) (cb (radd_ev (a := (v : Int) * 10) (by unfold I64; omega) m2.i) rfl ?_)
      by_cases h4 : ((v * 10 + c : Nat) : Int) ≤ 9223372036854775807
      · rw [gotN_yes h4]
        have ea : addS ((v : Int) * 10) (c : Int) = ((v : Int) * 10 + (c : Int), true) := addS_yes ⟨by unfold May; omega, m2, by unfold May; omega⟩
        rw [ea]
        exact congrArg (fun z => some (pvGa (z, true))) (by omega)
      · rw [gotN_no h4]
        have ea : addS ((v : Int) * 10) (c : Int) = (0, false) := addS_no (by unfold May; omega)
        rw [ea]
        rfl
    · rw [gotN_no (by omega)]
      have em : mulS (v : Int) 10 = (0, false) := mulS_no (by unfold May; omega)
      rw [em]
      exact ip (by show (!false) = true; decide) rfl
  · rw [gotN_no hv, gotN_no (by omega)]
    exact ip (by decide) rfl
theorem rread_l3 {m : Bool} (d : Nat) : ∀ (b v : Nat), b + d = 4 → f66.l3a 0 m (b : Int) 0 false (gotN v).1 (gotN v).2 = some (pvGa (finN m (v * 10 ^ d))) := by
  induction d with
  | zero =>
    intro b v h
    rw [f66.l3a_eq]
    refine im (by rw [decide_eq_true_eq]; omega) ?_
    rw [Nat.pow_zero, Nat.mul_one]
    unfold finN
    by_cases hv : (v : Int) ≤ 9223372036854775807
    · rw [gotN_yes hv, if_pos hv]
      cases m
      · exact im (by decide) rfl
      · refine ip rfl ?_
        rw [w64 (by omega) (by omega), Int.zero_sub]; rfl
    · rw [gotN_no hv, if_neg hv]
      cases m
      · exact im (by decide) rfl
      · exact ip rfl rfl
  | succ d ih =>
    intro b v h
    rw [f66.l3a_eq]
    refine ip (by rw [decide_eq_true_eq]; omega) (cb (more_g (v := v) (c := 0) (by decide)) rfl ?_)
    rw [nx (i := b) (n := 4) (by omega) (by decide)]
    have := ih (b + 1) (v * 10 + 0) (by omega)
    rw [show v * 10 ^ (d + 1) = (v * 10 + 0) * 10 ^ d by rw [Nat.pow_succ, Nat.add_zero, Nat.mul_assoc, Nat.mul_comm (10 ^ d)]]
    exact this
theorem rread_end {m : Bool} {w : List UInt8} {b : Option Nat} {v : Nat} {i : Nat} (hi : i = w.length) : f66.l1a 0 (B w) m (bI b) (i : Int) 0 false (gotN v).1 (gotN v).2 = some (pvGa (finL (w == []) m (some (b, v)))) := by
  rw [f66.l1a_eq]
  refine im (by rw [decide_eq_true_eq, B_size]; omega) ?_
  rw [bO, bO, finL_some]
  by_cases hc : (w == []) = true ∨ b = some 0 ∨ 4 < b.getD 0
  · rw [if_pos hc]
    refine ip ?_ rfl
    rw [tb, tb, B_size]
    simp only [Bool.or_eq_true, beq_iff_eq, decide_eq_true_eq]
    rcases hc with h | h | h
    · left; left
      have : w = [] := by simpa using h
      rw [this]; rfl
    · left; right; rw [h]; rfl
    · right
      rcases b with _ | b
      · exact absurd h (by decide)
      · have h2 : 4 < b := h
        show (b : Int) > 4; omega
  · rw [if_neg hc]
    refine im ?_ ?_
    · rw [tb, tb, B_size]
      simp only [Bool.or_eq_true, beq_iff_eq, decide_eq_true_eq]
      intro h
      apply hc
      rcases h with (h | h) | h
      · left
        have : w = [] := List.eq_nil_of_length_eq_zero (by omega)
        rw [this]; rfl
      · right; left
        rcases b with _ | b
        · exact absurd h (by decide)
        · have h2 : (b : Int) = 0 := h
          rw [show b = 0 by omega]
      · right; right
        rcases b with _ | b
        · exact absurd h (by decide)
        · have h2 : (b : Int) > 4 := h
          show 4 < b; omega
    · have e : (if 0 > bI b then 0 else bI b) = ((b.getD 0 : Nat) : Int) := by
        rcases b with _ | b
        · rfl
        · show (if 0 > (b : Int) then 0 else (b : Int)) = (b : Int)
          rw [if_neg (by omega)]
      rw [e]
      refine rread_l3 (4 - b.getD 0) (b.getD 0) v ?_
      have : ¬ 4 < b.getD 0 := fun h => hc (Or.inr (Or.inr h))
      omega
theorem rread_l1 {m : Bool} {w : List UInt8} (hw : w.length ≤ 1000) (d : Nat) : ∀ (i : Nat) (b : Option Nat) (v : Nat), i + d = w.length → b.getD 0 ≤ i →
    f66.l1a 0 (B w) m (bI b) (i : Int) 0 false (gotN v).1 (gotN v).2 = some (pvGa (finL (w == []) m (scanL (w.drop i) (decide (0 < i)) b v))) := by
  induction d with
  | zero =>
    intro i b v h _
    rw [List.drop_eq_nil_of_le (by omega), scanL]
    exact rread_end (by omega)
  | succ d ih =>
    intro i b v h hb
    have hi : i < w.length := by omega
    have c2 : (0 : Int) ≤ (i : Int) := by omega
    have c3 : (i : Int) < ((B w).size : Int) := by rw [B_size]; omega
    rw [f66.l1a_eq]
    refine ip (by rw [decide_eq_true_eq]; exact c3) (ip c2 (ip c3 ?_))
    rw [bA, bA]
    rw [List.drop_eq_getElem_cons hi, scanL]
    have hD := digit_g w i
    rw [isDp_eq, dif_pos hi] at hD
    have ho : decide (bI b < 0) = decide (b = none) := by
      rcases b with _ | b
      · rfl
      · rw [decide_eq_false (show ¬ bI (some b) < 0 by show ¬ (b : Int) < 0; omega)]; rfl
    have hz : decide ((i : Int) > 0) = decide (0 < i) := decide_eq_decide.2 (by omega)
    by_cases hp : w[i] = 46 ∧ b = none ∧ decide (0 < i) = true
    · rw [if_pos hp]
      obtain ⟨h1, rfl, h3⟩ := hp
      refine ip (show ((((bt (B w) (i : Int)) == 46) && decide (bI none < 0)) && decide ((i : Int) > 0)) = true by rw [bt46 hi, h1, ho, hz, h3]; rfl) ?_
      rw [nx hi (by omega)]
      have := ih (i + 1) (some 0) v (by omega) (Nat.zero_le _)
      rw [decide_eq_true (show 0 < i + 1 by omega)] at this
      exact this
    · rw [if_neg hp]
      refine im (show ¬ ((((bt (B w) (i : Int)) == 46) && decide (bI b < 0)) && decide ((i : Int) > 0)) = true from fun hh => hp (by
        rw [bt46 hi, ho, hz] at hh
        simp only [Bool.and_eq_true, beq_iff_eq, decide_eq_true_eq] at hh
        exact ⟨hh.1.1, hh.1.2, by rw [decide_eq_true_eq]; exact hh.2⟩)) (cb hD rfl ?_)
      by_cases hd : isD w[i] = true
      · rw [if_pos hd]
        refine im (by rw [hd]; decide) ?_
        have hdv := dval_g hd
        have hr : 48 ≤ w[i].toNat ∧ w[i].toNat ≤ 57 := by unfold isD at hd; simpa using hd
        have j : ∀ b2 : Option Nat, b2.getD 0 ≤ i + 1 → f66.j2a 0 (B w) m (bI b2) (i : Int) 0 false (gotN v).1 (gotN v).2 = some (pvGa (finL (w == []) m (scanL (w.drop (i + 1)) true b2 (v * 10 + (w[i].toNat - 48))))) := by
          intro b2 hb2
          rw [f66.j2a_eq]
          refine ip c2 (ip c3 ?_)
          rw [B_bt hi, hdv, nx hi (by omega)]
          refine cb (more_g (v := v) (c := w[i].toNat - 48) (by omega)) rfl ?_
          have := ih (i + 1) b2 (v * 10 + (w[i].toNat - 48)) (by omega) hb2
          rw [decide_eq_true (show 0 < i + 1 by omega)] at this
          exact this
        rcases b with _ | b
        · exact im (by decide) (j none (Nat.zero_le _))
        · have hb2 : b ≤ i := hb
          refine ip (show decide ((b : Int) ≥ 0) = true by rw [decide_eq_true_eq]; omega) ?_
          rw [show IntKind.i64.wrap (bI (some b) + 1) = bI (some (b + 1)) from (w64 (x := (b : Int) + 1) (by omega) (by omega)).trans (by show (b : Int) + 1 = ((b + 1 : Nat) : Int); omega)]
          exact j (some (b + 1)) (by show b + 1 ≤ i + 1; omega)
      · rw [if_neg hd]
        exact ip (show (!(isD w[i])) = true by simpa using hd) rfl
theorem rread_ev (l : List UInt8) (hl : l.length ≤ 1000000) : D 66 [.sc (.string (B l))] = some (pvGa (readL l)) := by
  rw [f66_eq 0]
  by_cases h40 : l.length ≤ 40
  · refine im (by rw [decide_eq_true_eq, B_size]; omega) ?_
    rw [← fin_read (l := l) (by omega)]
    have hb := body_len l
    have main := rread_l1 (m := minusL l) (w := bodyL l) (by omega) (bodyL l).length 0 none 0 (Nat.zero_add _) (Nat.zero_le _)
    rw [List.drop_zero] at main
    have jm : f66.j0a 0 (B (bodyL l)) (minusL l) 0 false = some (pvGa (finL (bodyL l == []) (minusL l) (scanL (bodyL l) (decide (0 < 0)) none 0))) := by
      rw [f66.j0a_eq]
      exact main
    rcases l with _ | ⟨b, l⟩
    · exact jm
    · obtain ⟨e1, e2⟩ := minus_eq b l
      have c1 : decide (((B (b :: l)).size : Int) > 0) = true := by rw [B_size, List.length_cons, decide_eq_true_eq]; omega
      have c2 : (0 : Int) < ((B (b :: l)).size : Int) := by rw [B_size, List.length_cons]; omega
      have h0 : bt (B (b :: l)) 0 = (b.toNat : Int) := B_bt (l := b :: l) (i := 0) (by simp)
      rw [c1, h0, if_pos c2]
      simp only [bs, tb, if_true]
      rw [e1, e2] at jm
      rw [e1, e2]
      by_cases hm : ((b.toNat : Int) == 45) = true
      · rw [if_pos hm] at jm ⊢
        refine ip hm (ip (by omega) (ip (Int.le_refl _) (ip (by rw [B_size, List.length_cons]; omega) ?_)))
        have e3 : (B (b :: l)).extract 1 (((B (b :: l)).size : Int).toNat) = B l := by
          rw [B_extract, Int.toNat_natCast, B_size]; simp
        rw [e3]
        exact jm
      · rw [if_neg hm] at jm ⊢
        exact im hm jm
  · rw [show readL l = (0, false) from if_neg (fun hh => h40 hh.1)]
    exact ip (by rw [decide_eq_true_eq, B_size]; omega) rfl
end Go.Den.EV
