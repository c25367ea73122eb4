/- bits.Div64 answers the quotient and the rest. -/
import Derived.Test.YtmagefemmhfkaaaQDecF
import Derived.Test.YtmagefemmhfkaaaQEvs
import Derived.Test.YtmagefemmhfkaaaPBx4
namespace Go.Proofs.Ytmagefemmhfkaaa.Q
open Go Go.RowKit Go.Proofs.Ytmagefemmhfkaaa.PA Go.Proofs.YtmagefemmhfkaaaW.PrintWords Go.Proofs.YtmagefemmhfkaaaW.PrintLast Go.Proofs.YtmagefemmhfkaaaW.PrintMore
set_option linter.unusedVariables false
set_option linter.unusedSimpArgs false

section
variable {y s yn1 yn0 u d e : Int} {r : Int × Int}
theorem div_l0 (hY1 : 2147483648 ≤ yn1) (hY1' : yn1 < 4294967296) (hy0 : 0 ≤ yn0) (hy0' : yn0 < 4294967296) (hu0 : 0 ≤ u) (hu : u < yn1 * 4294967296 + yn0) (hd0 : 0 ≤ d) (hd : d < 4294967296)
    (hj : Ev (fun k => bits_Div64.j2 k y s yn1 yn0 u d e ((u * 4294967296 + d) / (yn1 * 4294967296 + yn0))) r) (n : Nat) :
    ∀ q rh : Int, q - (u * 4294967296 + d) / (yn1 * 4294967296 + yn0) ≤ n → (u * 4294967296 + d) / (yn1 * 4294967296 + yn0) ≤ q → 0 ≤ q → q ≤ 4294967297 → rh = u - q * yn1 → 0 ≤ rh → rh < 4294967296 →
      Ev (fun k => bits_Div64.l0 k y s yn1 yn0 u d e q rh) r := by
  induction n with
  | zero =>
    intro q rh h1 h2 hq0 hq hr hr0 hrB
    have hn : ¬ (4294967296 ≤ q ∨ 4294967296 * rh + d < q * yn0) := fun hc => by
      have := digit_more (by omega) hy0 hd hu hr hc
      omega
    have hs := digit_stop (yn0 := yn0) (d := d) (by omega) hr (by omega)
    obtain rfl : q = (u * 4294967296 + d) / (yn1 * 4294967296 + yn0) := by omega
    have hp : 0 ≤ (u * 4294967296 + d) / (yn1 * 4294967296 + yn0) * yn0 := Int.mul_nonneg hq0 hy0
    refine Ev.step (fun k => by rw [bits_Div64.l0]) ?_
    refine Ev.neg (by omega) ?_
    rw [u64i (x := 4294967296 * rh) (by omega) (by omega), u64i (x := 4294967296 * rh + d) (by omega) (by omega), u64i (x := _ * yn0) hp (by omega), decide_eq_false (by omega)]
    refine Ev.step (fun k => by rw [bits_Div64.j1]) ?_
    exact Ev.neg (by decide) hj
  | succ n ih =>
    intro q rh h1 h2 hq0 hq hr hr0 hrB
    have hp : 0 ≤ q * yn0 := Int.mul_nonneg hq0 hy0
    have hp' : q * yn0 ≤ 4294967297 * 4294967295 := Int.mul_le_mul hq (by omega) hy0 (by decide)
    by_cases hn : 4294967296 ≤ q ∨ 4294967296 * rh + d < q * yn0
    · have hm := digit_more (by omega) hy0 hd hu hr hn
      have hq1 : 1 ≤ q := by
        rcases hn with h | h
        · omega
        · by_cases h0 : q = 0
          · subst h0; omega
          · omega
      have step : Ev (fun k => bits_Div64.j1 k y s yn1 yn0 u d e q rh true) r := by
        refine Ev.step (fun k => by rw [bits_Div64.j1]) ?_
        refine Ev.pos rfl ?_
        rw [u64i (x := rh + yn1) (by omega) (by omega), u64i (x := q - 1) (by omega) (by omega)]
        by_cases hb : rh + yn1 ≥ 4294967296
        · have := digit_break (by omega) hy0 hy0' hd0 hq1 hq hr hb
          obtain e' : q - 1 = (u * 4294967296 + d) / (yn1 * 4294967296 + yn0) := by omega
          refine Ev.pos hb ?_
          rw [e']; exact hj
        · refine Ev.neg hb ?_
          exact ih (q - 1) (rh + yn1) (by omega) hm (by omega) (by omega) (by rw [hr, Int.sub_mul, Int.one_mul]; omega) (by omega) (by omega)
      refine Ev.step (fun k => by rw [bits_Div64.l0]) ?_
      by_cases hB : q ≥ 4294967296
      · exact Ev.pos hB step
      · refine Ev.neg hB ?_
        rw [u64i (x := 4294967296 * rh) (by omega) (by omega), u64i (x := 4294967296 * rh + d) (by omega) (by omega), u64i (x := q * yn0) hp (by omega), decide_eq_true (by omega)]
        exact step
    · have hs := digit_stop (yn0 := yn0) (d := d) (by omega) hr (by omega)
      obtain e' : q = (u * 4294967296 + d) / (yn1 * 4294967296 + yn0) := by omega
      refine Ev.step (fun k => by rw [bits_Div64.l0]) ?_
      refine Ev.neg (by omega) ?_
      rw [u64i (x := 4294967296 * rh) (by omega) (by omega), u64i (x := 4294967296 * rh + d) (by omega) (by omega), u64i (x := q * yn0) hp (by omega), decide_eq_false (by omega)]
      refine Ev.step (fun k => by rw [bits_Div64.j1]) ?_
      refine Ev.neg (by decide) ?_
      rw [e']; exact hj
theorem div_l1 (t : Int) (hY1 : 2147483648 ≤ yn1) (hY1' : yn1 < 4294967296) (hy0 : 0 ≤ yn0) (hy0' : yn0 < 4294967296) (hu0 : 0 ≤ u) (hu : u < yn1 * 4294967296 + yn0) (hd0 : 0 ≤ d) (hd : d < 4294967296) (hs0 : 0 ≤ s) (n : Nat) :
    ∀ q rh : Int, q - (u * 4294967296 + d) / (yn1 * 4294967296 + yn0) ≤ n → (u * 4294967296 + d) / (yn1 * 4294967296 + yn0) ≤ q → 0 ≤ q → q ≤ 4294967297 → rh = u - q * yn1 → 0 ≤ rh → rh < 4294967296 →
      Ev (fun k => bits_Div64.l1 k y s yn1 yn0 d t rh u q) (IntKind.u64.wrap (IntKind.u64.wrap (t * 4294967296) + (u * 4294967296 + d) / (yn1 * 4294967296 + yn0)),
        shr .u64 (IntKind.u64.wrap (IntKind.u64.wrap (IntKind.u64.wrap (u * 4294967296) + d) - IntKind.u64.wrap ((u * 4294967296 + d) / (yn1 * 4294967296 + yn0) * y))) s) := by
  induction n with
  | zero =>
    intro q rh h1 h2 hq0 hq hr hr0 hrB
    have hn : ¬ (4294967296 ≤ q ∨ 4294967296 * rh + d < q * yn0) := fun hc => by
      have := digit_more (by omega) hy0 hd hu hr hc
      omega
    have hs := digit_stop (yn0 := yn0) (d := d) (by omega) hr (by omega)
    obtain rfl : q = (u * 4294967296 + d) / (yn1 * 4294967296 + yn0) := by omega
    have hp : 0 ≤ (u * 4294967296 + d) / (yn1 * 4294967296 + yn0) * yn0 := Int.mul_nonneg hq0 hy0
    refine Ev.step (fun k => by rw [bits_Div64.l1]) ?_
    refine Ev.neg (by omega) ?_
    rw [u64i (x := 4294967296 * rh) (by omega) (by omega), u64i (x := 4294967296 * rh + d) (by omega) (by omega), u64i (x := _ * yn0) hp (by omega), decide_eq_false (by omega)]
    refine Ev.step (fun k => by rw [bits_Div64.j4]) ?_
    exact Ev.neg (by decide) (Ev.pos hs0 (Ev.now _))
  | succ n ih =>
    intro q rh h1 h2 hq0 hq hr hr0 hrB
    have hp : 0 ≤ q * yn0 := Int.mul_nonneg hq0 hy0
    have hp' : q * yn0 ≤ 4294967297 * 4294967295 := Int.mul_le_mul hq (by omega) hy0 (by decide)
    by_cases hn : 4294967296 ≤ q ∨ 4294967296 * rh + d < q * yn0
    · have hm := digit_more (by omega) hy0 hd hu hr hn
      have hq1 : 1 ≤ q := by
        rcases hn with h | h
        · omega
        · by_cases h0 : q = 0
          · subst h0; omega
          · omega
      have step : Ev (fun k => bits_Div64.j4 k y s yn1 yn0 d t rh u q true) (IntKind.u64.wrap (IntKind.u64.wrap (t * 4294967296) + (u * 4294967296 + d) / (yn1 * 4294967296 + yn0)),
          shr .u64 (IntKind.u64.wrap (IntKind.u64.wrap (IntKind.u64.wrap (u * 4294967296) + d) - IntKind.u64.wrap ((u * 4294967296 + d) / (yn1 * 4294967296 + yn0) * y))) s) := by
        refine Ev.step (fun k => by rw [bits_Div64.j4]) ?_
        refine Ev.pos rfl ?_
        rw [u64i (x := rh + yn1) (by omega) (by omega), u64i (x := q - 1) (by omega) (by omega)]
        by_cases hb : rh + yn1 ≥ 4294967296
        · have := digit_break (by omega) hy0 hy0' hd0 hq1 hq hr hb
          obtain e' : q - 1 = (u * 4294967296 + d) / (yn1 * 4294967296 + yn0) := by omega
          refine Ev.pos hb (Ev.pos hs0 ?_)
          rw [e']; exact Ev.now _
        · refine Ev.neg hb ?_
          exact ih (q - 1) (rh + yn1) (by omega) hm (by omega) (by omega) (by rw [hr, Int.sub_mul, Int.one_mul]; omega) (by omega) (by omega)
      refine Ev.step (fun k => by rw [bits_Div64.l1]) ?_
      by_cases hB : q ≥ 4294967296
      · exact Ev.pos hB step
      · refine Ev.neg hB ?_
        rw [u64i (x := 4294967296 * rh) (by omega) (by omega), u64i (x := 4294967296 * rh + d) (by omega) (by omega), u64i (x := q * yn0) hp (by omega), decide_eq_true (by omega)]
        exact step
    · have hs := digit_stop (yn0 := yn0) (d := d) (by omega) hr (by omega)
      obtain e' : q = (u * 4294967296 + d) / (yn1 * 4294967296 + yn0) := by omega
      refine Ev.step (fun k => by rw [bits_Div64.l1]) ?_
      refine Ev.neg (by omega) ?_
      rw [u64i (x := 4294967296 * rh) (by omega) (by omega), u64i (x := 4294967296 * rh + d) (by omega) (by omega), u64i (x := q * yn0) hp (by omega), decide_eq_false (by omega)]
      refine Ev.step (fun k => by rw [bits_Div64.j4]) ?_
      refine Ev.neg (by decide) (Ev.pos hs0 ?_)
      rw [e']; exact Ev.now _
end
end Go.Proofs.Ytmagefemmhfkaaa.Q
