/- The decimal with which a text begins: both. -/
import Derived.Test.YtbkdoeghgdbjlaaDoorDigSL
set_option linter.unusedVariables false
set_option linter.unusedSimpArgs false
set_option maxRecDepth 100000
namespace Go.Den.EL
open Go Go.Proofs
def pvT (g : Int × Int × Bool) : PV := .tup [.sc (.int .i64 g.1), .sc (.int .i64 g.2.1), .sc (.bool g.2.2)]
def pvTa (g : Int × Int × Bool) : PV := .agg [.sc (.int .i64 g.1), .sc (.int .i64 g.2.1), .sc (.bool g.2.2)]
theorem lead_j2 {l : List UInt8} (hl : l.length ≤ 1000000) {n : Nat} (hn : n ≤ l.length) : f41.j2a 0 (B l) (n : Int) = some (pvT (leadR l n)) := by
  rw [f41.j2a_eq]
  have := take_len l n
  refine ip (by omega) (ip (by rw [B_size]; omega) (ip (by omega) ?_))
  rw [take_ext]
  refine cb (read_ev (l := l.take n) (by omega)) rfl ?_
  unfold leadR
  by_cases h : (readL (l.take n)).2 = true
  · rw [if_pos h]
    exact im (show ¬ (!(readL (l.take n)).2) = true by rw [h]; decide) rfl
  · rw [if_neg h]
    exact ip (show (!(readL (l.take n)).2) = true by simpa using h) rfl
theorem lead_l1 {l : List UInt8} (hl : l.length ≤ 1000000) {n : Nat} (hn : n < l.length) (d : Nat) : ∀ e : Nat, e + d = n + 5 → e ≤ l.length →
    f41.l1a 0 (B l) (n : Int) (e : Int) = some (pvT (leadR l (e + runD d (l.drop e)))) := by
  have e4 : IntKind.i64.wrap ((n : Int) + 4) = (n : Int) + 4 := w64 (by omega) (by omega)
  induction d with
  | zero =>
    intro e h he
    rw [f41.l1a_eq, e4]
    have c : decide ((e : Int) ≤ (n : Int) + 4) = false := by rw [decide_eq_false_iff_not]; omega
    rw [c]
    simp only [bs, tb, Bool.false_eq_true, if_false]
    exact lead_j2 hl he
  | succ d ih =>
    intro e h he
    rw [f41.l1a_eq, e4]
    have c : decide ((e : Int) ≤ (n : Int) + 4) = true := by rw [decide_eq_true_eq]; omega
    rw [c]
    simp only [pdigit_g, bs, shb, tb, if_true]
    rw [runD_step]
    by_cases hd : isDp l e = true
    · have h1 := dp_lt hd
      rw [if_pos hd]
      refine ip hd ?_
      rw [nx h1 (by omega), ← Nat.add_assoc]
      exact ih (e + 1) (by omega) (by omega)
    · rw [if_neg hd]
      exact im hd (lead_j2 hl he)
theorem lead_mid {l : List UInt8} (hl : l.length ≤ 1000000) {n : Nat} (hn : n ≤ l.length) {c : Bool} (hc : c = false) : (if c = true then f41.l0a 0 (B l) (IntKind.i64.wrap ((n : Int) + 1)) else
    Option.bind (α := PV) (if decide ((n : Int) > 0) = true then some (.sc (.bool (decide ((n : Int) < ((B l).size : Int))))) else some (.sc (.bool false))) fun r5 =>
    Option.bind (α := PV) (if r5.toBool = true then Option.bind (α := PV) (Option.bind (α := PV) (if 0 ≤ (n : Int) then if (n : Int) < ((B l).size : Int) then some (.sc (.bool ((bt (B l) (n : Int)) == 46))) else none else none) fun r6 => some (.sc (.bool r6.toBool))) fun r7 => some (.sc (.bool r7.toBool)) else some (.sc (.bool false))) fun r8 =>
    Option.bind (α := PV) (if r8.toBool = true then Option.bind (α := PV) (Option.bind (α := PV) (Option.bind (α := PV) ((D 61 [.sc (.string (B l)), .sc (.int .i64 (IntKind.i64.wrap ((n : Int) + 1)))]).bind fun r9 => if hasSh .bool r9 = true then some (.sc (.bool r9.toBool)) else none) fun r10 => some (.sc (.bool r10.toBool))) fun r11 => some (.sc (.bool r11.toBool))) fun r12 => some (.sc (.bool r12.toBool)) else some (.sc (.bool false))) fun r13 =>
    if r13.toBool = true then f41.l1a 0 (B l) (n : Int) (IntKind.i64.wrap ((n : Int) + 1)) else f41.j2a 0 (B l) (n : Int)) = some (pvT (leadR l (leadN l n))) := by
  subst hc
  refine im (by decide) ?_
  have e1 : IntKind.i64.wrap ((n : Int) + 1) = ((n + 1 : Nat) : Int) := by rw [w64 (by omega) (by omega)]; rfl
  rw [e1, pdigit_g]
  unfold leadN
  by_cases h0 : 0 < n
  · have c0 : decide ((n : Int) > 0) = true := by rw [decide_eq_true_eq]; omega
    rw [c0]
    by_cases h1 : n < l.length
    · have c1 : decide ((n : Int) < ((B l).size : Int)) = true := by rw [decide_eq_true_eq, B_size]; omega
      have c2 : (0 : Int) ≤ (n : Int) := by omega
      have c3 : (n : Int) < ((B l).size : Int) := by rw [B_size]; omega
      rw [c1, bt46 h1]
      simp only [bs, tb, shb, if_true, if_pos c2, if_pos c3]
      by_cases h2 : l[n] = 46
      · have e2 : (l[n] == 46) = true := by rw [h2]; rfl
        rw [e2]
        simp only [bs, tb, if_true]
        have hh : (l.drop n).head? = some 46 := by rw [List.drop_eq_getElem_cons h1, h2]; rfl
        by_cases h3 : isDp l (n + 1) = true
        · rw [if_pos ⟨h0, hh, h3⟩]
          refine ip h3 ?_
          have := dp_lt h3
          exact lead_l1 hl h1 4 (n + 1) (by omega) (by omega)
        · rw [if_neg (fun z => h3 z.2.2)]
          exact im h3 (lead_j2 hl hn)
      · have e2 : (l[n] == 46) = false := beq_eq_false_iff_ne.2 h2
        rw [e2]
        simp only [bs, tb, Bool.false_eq_true, if_false]
        rw [if_neg (fun z => h2 (by have := z.2.1; rw [List.drop_eq_getElem_cons h1] at this; exact Option.some.inj this))]
        exact lead_j2 hl hn
    · have c1 : decide ((n : Int) < ((B l).size : Int)) = false := by rw [decide_eq_false_iff_not, B_size]; omega
      rw [c1]
      simp only [bs, tb, if_true, Bool.false_eq_true, if_false]
      rw [if_neg (fun z => by have := z.2.1; rw [List.drop_eq_nil_of_le (by omega)] at this; cases this)]
      exact lead_j2 hl hn
  · have c0 : decide ((n : Int) > 0) = false := by rw [decide_eq_false_iff_not]; omega
    rw [c0]
    simp only [bs, tb, Bool.false_eq_true, if_false]
    rw [if_neg (fun z => h0 z.1)]
    exact lead_j2 hl hn
theorem lead_l0 {l : List UInt8} (hl : l.length ≤ 1000000) (d : Nat) : ∀ i : Nat, i + d = 30 → i ≤ l.length → f41.l0a 0 (B l) (i : Int) = some (pvT (leadR l (leadN l (i + runD d (l.drop i))))) := by
  induction d with
  | zero =>
    intro i h hi
    rw [f41.l0a_eq]
    have c : decide ((i : Int) < 30) = false := by rw [decide_eq_false_iff_not]; omega
    rw [c]
    exact lead_mid hl hi rfl
  | succ d ih =>
    intro i h hi
    rw [f41.l0a_eq]
    have c : decide ((i : Int) < 30) = true := by rw [decide_eq_true_eq]; omega
    rw [c, pdigit_g]
    rw [runD_step]
    by_cases hd : isDp l i = true
    · have h1 := dp_lt hd
      rw [if_pos hd, hd]
      simp only [bs, shb, tb, if_true]
      rw [nx h1 (by omega), ← Nat.add_assoc]
      exact ih (i + 1) (by omega) (by omega)
    · have hd' : isDp l i = false := by simpa using hd
      rw [if_neg hd, hd']
      exact lead_mid hl hi rfl
theorem leadR_L (l : List UInt8) : leadR l (leadN l (0 + runD 30 (l.drop 0))) = leadL l := by
  rw [Nat.zero_add, List.drop_zero]; rfl
theorem lead_ev {l : List UInt8} (hl : l.length ≤ 1000000) : D 41 [.sc (.string (B l))] = some (pvT (leadL l)) := by
  rw [f41_eq 0]
  have := lead_l0 hl 30 0 rfl (Nat.zero_le _)
  rw [leadR_L] at this
  exact this
end Go.Den.EL
