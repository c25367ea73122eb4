/- Powers: what power.Power and the reference answer, and that it is the same. -/
import Derived.Test.YtmagefemmhfkaaaQAddF
import Derived.Test.YtmagefemmhfkaaaPBx23
import Derived.Test.YtmagefemmhfkaaaPBx25
import Derived.Test.YtmagefemmhfkaaaPBx5
import Derived.Test.YtmagefemmhfkaaaPBx6
import Derived.Test.YtmagefemmhfkaaaPBx24
import Derived.Test.YtmagefemmhfkaaaPBx24
import Derived.Test.YtmagefemmhfkaaaPBx29
namespace Go.Proofs.Ytmagefemmhfkaaa.Q
open Go Go.RowKit Go.Proofs.Ytmagefemmhfkaaa.PA Go.Proofs.YtmagefemmhfkaaaW.PrintWords Go.Proofs.YtmagefemmhfkaaaW.PrintLast Go.Proofs.YtmagefemmhfkaaaW.PrintMore
set_option linter.unusedVariables false
set_option linter.unusedSimpArgs false

def mulP (a b : Int) : Int × Bool := scaledP a b 10000
def mulR (a b : Int) : Int × Bool := scaledR a b 10000
theorem mul_ev {a b : Int} (ha : I64 a) (hb : I64 b) : Ev (fun k => dec_Mul.f k a b) (mulP a b) :=
  Ev.congr (fun k => by rw [dec_Mul.f]) (Ev.bind (scaled_ev ha.1 ha.2 hb.1 hb.2 (by decide) (by decide)) (Ev.now _))
theorem rmul_ev {a b : Int} (ha : I64 a) (hb : I64 b) : Ev (fun k => oculusref08_Mul.f k a b) (mulR a b) :=
  Ev.congr (fun k => by rw [oculusref08_Mul.f]) (Ev.bind (rscaled_ev ha.1 ha.2 hb.1 hb.2 (by decide) (by decide)) (Ev.now _))
theorem div_ev {a b : Int} (ha : I64 a) (hb : I64 b) : Ev (fun k => dec_Div.f k a b) (scaledP a 10000 b) :=
  Ev.congr (fun k => by rw [dec_Div.f]) (Ev.bind (scaled_ev ha.1 ha.2 (by decide) (by decide) hb.1 hb.2) (Ev.now _))
theorem rdiv_ev {a b : Int} (ha : I64 a) (hb : I64 b) : Ev (fun k => oculusref08_Div.f k a b) (scaledR a 10000 b) :=
  Ev.congr (fun k => by rw [oculusref08_Div.f]) (Ev.bind (rscaled_ev ha.1 ha.2 (by decide) (by decide) hb.1 hb.2) (Ev.now _))

theorem sg_may {a b c q : Int} (h0 : 0 ≤ q) (h1 : q ≤ 9223372036854775807) : May (sg a b c q) := by unfold sg May; split <;> omega
theorem sg_abs (a b c : Int) {q : Int} (h0 : 0 ≤ q) : ((sg a b c q).natAbs : Int) = q := by unfold sg; split <;> omega
theorem up_nonneg {n m : Int} (hn : 0 ≤ n) (hm : 0 ≤ m) : 0 ≤ upP n m ∧ 0 ≤ upR n m := by
  have := Int.ediv_nonneg hn hm
  unfold upP upR; constructor <;> split <;> omega
theorem scaledP_may (a b c : Int) : May (scaledP a b c).1 := by
  unfold scaledP
  split
  · rename_i h
    have hp := abs_prod h.1 h.2.1
    have hu := (up_nonneg hp.1 (show (0 : Int) ≤ c.natAbs by omega)).1
    split
    · decide
    · split
      · decide
      · exact sg_may hu (by omega)
  · decide
theorem scaledR_may (a b c : Int) : May (scaledR a b c).1 := by
  unfold scaledR
  split
  · rename_i h
    have hp := abs_prod h.1 h.2.1
    have hu := (up_nonneg hp.1 (show (0 : Int) ≤ c.natAbs by omega)).2
    split
    · decide
    · split
      · decide
      · exact sg_may hu (by omega)
  · decide

/-- p, multiplied by x n times. -/
def powN (mul : Int → Int → Int × Bool) : Nat → Int → Int → Int × Bool
  | 0, p, _ => (p, true)
  | n + 1, p, x => if (mul p x).2 = true then powN mul n (mul p x).1 x else (0, false)
theorem scaledR_false {a b c : Int} (h : ¬ (scaledR a b c).2 = true) : scaledR a b c = (0, false) := by
  unfold scaledR at h ⊢
  by_cases h1 : May a ∧ May b ∧ May c ∧ c ≠ 0
  · rw [if_pos h1] at h ⊢
    by_cases h2 : (a.natAbs * b.natAbs : Int) / c.natAbs > 9223372036854775807
    · rw [if_pos h2]
    · rw [if_neg h2] at h ⊢
      by_cases h3 : upR (a.natAbs * b.natAbs) c.natAbs > 9223372036854775807
      · rw [if_pos h3]
      · rw [if_neg h3] at h; exact absurd rfl h
  · rw [if_neg h1]
theorem powR_may (n : Nat) : ∀ p x, May p → May (powN mulR n p x).1 := by
  induction n with
  | zero => intro p x h; exact h
  | succ n ih =>
    intro p x h
    unfold powN
    split
    · exact ih _ _ (scaledR_may ..)
    · decide
theorem powP_may (n : Nat) : ∀ p x, May p → May (powN mulP n p x).1 := by
  induction n with
  | zero => intro p x h; exact h
  | succ n ih =>
    intro p x h
    unfold powN
    split
    · exact ih _ _ (scaledP_may ..)
    · decide
theorem pow_l0 {x : Int} (hx : May x) (n : Nat) : ∀ p i K : Int, May p → K - i = n → 0 ≤ i → K ≤ 1000 → Ev (fun k => power_Power.l0 k x p K i) (powN mulP n p x) := by
  induction n with
  | zero =>
    intro p i K hp h0 hi hK
    show Ev (fun k => power_Power.l0 k x p K i) (p, true)
    refine Ev.step (fun k => by rw [power_Power.l0]) ?_
    exact Ev.neg (by omega) (Ev.now _)
  | succ n ih =>
    intro p i K hp h0 hi hK
    refine Ev.step (fun k => by rw [power_Power.l0]) (Ev.pos (by omega) (Ev.bind (mul_ev hp.i hx.i) ?_))
    unfold powN
    by_cases h : (mulP p x).2 = true
    · rw [if_pos h]
      refine Ev.pos h ?_
      rw [w64 (by omega) (by omega)]
      exact ih _ _ _ (scaledP_may ..) (by omega) (by omega) hK
    · rw [if_neg h]
      exact Ev.neg h (Ev.now _)

/-- The power of a whole exponent. -/
def powS (mul div : Int → Int → Int × Bool) (x n : Int) : Int × Bool :=
  if May x ∧ May n ∧ n.tmod 10000 = 0 ∧ -1000 ≤ n.tdiv 10000 ∧ n.tdiv 10000 ≤ 1000 then
    (if n < 0 then (if (powN mul (n.tdiv 10000).natAbs 10000 x).2 = true then div 10000 (powN mul (n.tdiv 10000).natAbs 10000 x).1 else (0, false)) else powN mul (n.tdiv 10000).natAbs 10000 x)
  else (0, false)
def divP (a b : Int) : Int × Bool := scaledP a 10000 b
def divR (a b : Int) : Int × Bool := scaledR a 10000 b

theorem power_no {x n : Int} (hx : I64 x) (hn : I64 n) (h : ¬ (May x ∧ May n ∧ n.tmod 10000 = 0 ∧ -1000 ≤ n.tdiv 10000 ∧ n.tdiv 10000 ≤ 1000)) : Ev (fun k => power_Power.f k x n) (0, false) := by
  have no : Ev (fun k => power_Power.j0 k x n true) (0, false) := Ev.step (fun k => by rw [power_Power.j0]) (Ev.pos rfl (Ev.now _))
  refine Ev.step (fun k => by rw [power_Power.f]) (Ev.some_bind (may_f hx.1 hx.2) ?_)
  refine Ev.ite (fun h1 => ?_) (fun _ => no)
  refine Ev.some_bind (whole_f hn) ?_
  refine Ev.ite (fun h2 => ?_) (fun _ => no)
  have h2' := of_decide_eq_true h2
  refine Ev.some_bind (units_f hn) ?_
  rw [if_pos h2'.2]
  refine Ev.ite (fun _ => no) (fun h3 => ?_)
  refine Ev.some_bind (units_f hn) ?_
  rw [if_pos h2'.2]
  by_cases h4 : n.tdiv 10000 > 1000
  · rw [decide_eq_true h4]; exact no
  · exact absurd ⟨of_decide_eq_true h1, h2'.2, h2'.1, by omega, by omega⟩ h
theorem power_in {x n : Int} {r : Int × Bool} (h : May x ∧ May n ∧ n.tmod 10000 = 0 ∧ -1000 ≤ n.tdiv 10000 ∧ n.tdiv 10000 ≤ 1000)
    (k : Ev (fun k => if n.tdiv 10000 < 0 then ((power_Power.f k x (wrap64 (-n))).bind fun b => (if b.2 = true then ((dec_Div.f k 10000 b.1).bind fun c => (some (c.1, c.2))) else (some (0, false)))) else (power_Power.l0 k x 10000 (n.tdiv 10000) 0)) r) :
    Ev (fun k => power_Power.f k x n) r := by
  have hx := h.1.i
  have hn := h.2.1.i
  refine Ev.step (fun k => by rw [power_Power.f]) (Ev.some_bind (may_f hx.1 hx.2) (Ev.pos (decide_eq_true h.1) ?_))
  refine Ev.some_bind (whole_f hn) (Ev.pos (decide_eq_true ⟨h.2.2.1, h.2.1⟩) ?_)
  refine Ev.some_bind (units_f hn) ?_
  rw [if_pos h.2.1]
  refine Ev.neg (by omega) (Ev.some_bind (units_f hn) ?_)
  rw [if_pos h.2.1, decide_eq_false (by omega)]
  refine Ev.step (fun k => by rw [power_Power.j0]) (Ev.neg (by decide) (Ev.some_bind (units_f hn) ?_))
  rw [if_pos h.2.1]
  exact k
theorem power_pos {x n : Int} (h : May x ∧ May n ∧ n.tmod 10000 = 0 ∧ -1000 ≤ n.tdiv 10000 ∧ n.tdiv 10000 ≤ 1000) (h0 : 0 ≤ n.tdiv 10000) : Ev (fun k => power_Power.f k x n) (powN mulP (n.tdiv 10000).natAbs 10000 x) :=
  power_in h (Ev.neg (by omega) (pow_l0 h.1 _ 10000 0 _ (by decide) (by omega) (by decide) h.2.2.2.2))
theorem power_ev {x n : Int} (hx : I64 x) (hn : I64 n) : Ev (fun k => power_Power.f k x n) (powS mulP divP x n) := by
  unfold powS
  by_cases h : May x ∧ May n ∧ n.tmod 10000 = 0 ∧ -1000 ≤ n.tdiv 10000 ∧ n.tdiv 10000 ≤ 1000
  · rw [if_pos h]
    have t := tdm n (m := 10000) (by decide)
    by_cases hneg : n < 0
    · rw [if_pos hneg]
      refine power_in h (Ev.pos (by omega) ?_)
      have hm := h.2.1
      unfold May at hm
      rw [w64 (x := -n) (by omega) (by omega)]
      have e : (-n).tdiv 10000 = -(n.tdiv 10000) := Int.neg_tdiv ..
      have e2 : (-n).tmod 10000 = -(n.tmod 10000) := Int.neg_tmod ..
      have hp := power_pos (x := x) (n := -n) ⟨h.1, by unfold May; omega, by omega, by omega, by omega⟩ (by omega)
      rw [e, Int.natAbs_neg] at hp
      refine Ev.bind hp ?_
      refine Ev.ite (fun h1 => ?_) (fun h1 => ?_)
      · rw [if_pos h1]
        exact Ev.bind (div_ev (by unfold I64; omega) (powP_may _ _ _ (by decide)).i) (Ev.now _)
      · rw [if_neg h1]; exact Ev.now _
    · rw [if_neg hneg]
      exact power_pos h (by omega)
  · rw [if_neg h]; exact power_no hx hn h

theorem rpow_l0 {x n : Int} (hx : May x) (m : Nat) : ∀ p i K : Int, May p → K - i = m → 0 ≤ i → K ≤ 1000 →
    Ev (fun k => oculusref10_Power.l0 k x n K i p true) (if n < 0 then (if (powN mulR m p x).2 = true then divR 10000 (powN mulR m p x).1 else (0, false)) else powN mulR m p x) := by
  induction m with
  | zero =>
    intro p i K hp h0 hi hK
    refine Ev.step (fun k => by rw [oculusref10_Power.l0]) (Ev.neg (by omega) ?_)
    refine Ev.ite (fun h => ?_) (fun h => ?_)
    · rw [if_pos h]
      exact Ev.pos rfl (Ev.bind (rdiv_ev (by unfold I64; omega) hp.i) (Ev.now _))
    · rw [if_neg h]; exact Ev.now _
  | succ m ih =>
    intro p i K hp h0 hi hK
    refine Ev.step (fun k => by rw [oculusref10_Power.l0]) (Ev.pos (by omega) (Ev.pos rfl (Ev.bind (rmul_ev hp.i hx.i) ?_)))
    rw [u64i (x := i + 1) (by omega) (by omega)]
    unfold powN
    by_cases h : (mulR p x).2 = true
    · simp only [if_pos h]
      rw [h]
      exact ih _ _ _ (scaledR_may ..) (by omega) (by omega) hK
    · simp only [if_neg h]
      rw [show mulR p x = (0, false) from scaledR_false h]
      have stop : Ev (fun k => oculusref10_Power.l0 k x n K (i + 1) 0 false) (0, false) := by
        refine Ev.step (fun k => by rw [oculusref10_Power.l0]) ?_
        refine Ev.ite (fun _ => Ev.neg (by decide) ?_) (fun _ => ?_)
        · exact Ev.ite (fun _ => Ev.now _) (fun _ => Ev.now _)
        · exact Ev.ite (fun _ => Ev.neg (by decide) (Ev.now _)) (fun _ => Ev.now _)
      have e : (if n < 0 then (if (false : Bool) = true then divR 10000 0 else (0, false)) else ((0 : Int), false)) = (0, false) := by
        split <;> rfl
      rw [e]
      exact stop
theorem rwhole_f {x a b : Int} (hx : I64 x) : oculusref10_whole.f x a b = some (decide (May x ∧ x.tmod 10000 = 0 ∧ a ≤ x.tdiv 10000 ∧ x.tdiv 10000 ≤ b)) := by
  have t := tdm x (m := 10000) (by decide)
  unfold oculusref10_whole.f
  rw [rmay_f hx.1 hx.2, Option.bind_some]
  unfold I64 at hx
  rw [w64 (x := x.tdiv 10000) (by omega) (by omega)]
  by_cases h1 : May x
  · rw [if_pos (decide_eq_true h1)]
    by_cases h2 : x.tmod 10000 = 0
    · rw [if_pos h2]
      by_cases h3 : x.tdiv 10000 ≥ a
      · rw [if_pos h3]
        congr 2
        apply propext
        exact ⟨fun h => ⟨h1, h2, h3, h⟩, fun h => h.2.2.2⟩
      · rw [if_neg h3, decide_eq_false (fun h => h3 h.2.2.1)]
    · rw [if_neg h2, decide_eq_false (fun h => h2 h.2.1)]
  · rw [if_neg (by rw [decide_eq_false h1]; decide), decide_eq_false (fun h => h1 h.1)]
theorem rpower_ev {x n : Int} (hx : I64 x) (hn : I64 n) : Ev (fun k => oculusref10_Power.f k x n) (powS mulR divR x n) := by
  have no : ¬ (May x ∧ May n ∧ n.tmod 10000 = 0 ∧ -1000 ≤ n.tdiv 10000 ∧ n.tdiv 10000 ≤ 1000) → Ev (fun k => oculusref10_Power.j0 k x n true) (powS mulR divR x n) := fun h => by
    rw [powS, if_neg h]
    exact Ev.step (fun k => by rw [oculusref10_Power.j0]) (Ev.pos rfl (Ev.now _))
  refine Ev.congr (fun k => by rw [oculusref10_Power.f]) (Ev.some_bind (rmay_f hx.1 hx.2) ?_)
  refine Ev.ite (fun h1 => ?_) (fun h1 => no (fun h => h1 (decide_eq_true h.1)))
  refine Ev.some_bind (rwhole_f hn) ?_
  by_cases h2 : May n ∧ n.tmod 10000 = 0 ∧ -1000 ≤ n.tdiv 10000 ∧ n.tdiv 10000 ≤ 1000
  · rw [decide_eq_true h2, Bool.not_true]
    have h1' := of_decide_eq_true h1
    have t := tdm n (m := 10000) (by decide)
    refine Ev.step (fun k => by rw [oculusref10_Power.j0]) (Ev.neg (by decide) ?_)
    rw [w64 (x := n.tdiv 10000) (by omega) (by omega)]
    refine Ev.some_bind (abs_f _ (by omega) (by omega)) ?_
    rw [powS, if_pos ⟨h1', h2⟩]
    exact rpow_l0 h1' (n.tdiv 10000).natAbs 10000 0 _ (by decide) (by omega) (by decide) (by omega)
  · rw [decide_eq_false h2, Bool.not_false]
    exact no (fun h => h2 h.2)
theorem alive10 : Ev (fun k => oculuslaw10_alive.f k) true := Ev.of (fun k => oculuslaw10_alive.mono k) (k := 300) (by kernel_rfl)
end Go.Proofs.Ytmagefemmhfkaaa.Q
