-- PRINTED for this claim by wip/xprint.py (a program of this session's over the kit's print). Lean checks it.
import Derived.Test.YtmagefemmhfkaaaPBx0
import Derived.Test.YtmagefemmhfkaaaPBx2
import Derived.Test.YtmagefemmhfkaaaPBx3
namespace Go.Proofs.Ytmagefemmhfkaaa.PA
open Go.RowKit Go.Proofs.YtmagefemmhfkaaaW.PrintWords Go.Proofs.YtmagefemmhfkaaaW.PrintLast Go.Proofs.YtmagefemmhfkaaaW.PrintMore
attribute [local go_sem] max2_int min2_int max_two min_two max_three min_three max_four min_four   -- for this text's walks alone
set_option linter.unusedVariables false
set_option linter.unusedSimpArgs false

/-! ### power_Sqrt: function 35 -/
def power_Sqrt.l0 : Nat → Int → Int → Int → Int → Option (Int × Bool)
  | 0, _, _, _, _ => none
  | k + 1, x4, x5, x6, x7 => if (IntKind.u64.wrap (x7 - x6)) > 1 then ((bits_Mul64.f (IntKind.u64.wrap (x6 + (IntKind.u64.wrap (Int.tdiv (IntKind.u64.wrap (x7 - x6)) 2)))) (IntKind.u64.wrap (x6 + (IntKind.u64.wrap (Int.tdiv (IntKind.u64.wrap (x7 - x6)) 2))))).bind fun bt332 => (if bt332.1 < x4 then (power_Sqrt.l0 k x4 x5 (IntKind.u64.wrap (x6 + (IntKind.u64.wrap (Int.tdiv (IntKind.u64.wrap (x7 - x6)) 2)))) x7) else (if bt332.1 = x4 then (if bt332.2 ≤ x5 then (power_Sqrt.l0 k x4 x5 (IntKind.u64.wrap (x6 + (IntKind.u64.wrap (Int.tdiv (IntKind.u64.wrap (x7 - x6)) 2)))) x7) else (power_Sqrt.l0 k x4 x5 x6 (IntKind.u64.wrap (x6 + (IntKind.u64.wrap (Int.tdiv (IntKind.u64.wrap (x7 - x6)) 2)))))) else (power_Sqrt.l0 k x4 x5 x6 (IntKind.u64.wrap (x6 + (IntKind.u64.wrap (Int.tdiv (IntKind.u64.wrap (x7 - x6)) 2)))))))) else (some (wrap64 (x6), true))
def power_Sqrt.f (k : Nat) (a0 : Int) : Option (Int × Bool) := if a0 < 0 then (some (0, false)) else ((bits_Mul64.f (IntKind.u64.wrap (a0)) 10000).bind fun bt330 => (power_Sqrt.l0 k bt330.1 bt330.2 0 1099511627776))
theorem power_Sqrt.mono_l : ∀ k, (∀ y0 y1 y2 y3, LeO (power_Sqrt.l0 k y0 y1 y2 y3) (power_Sqrt.l0 (k + 1) y0 y1 y2 y3))
  | 0 => fun _ _ _ _ r h => by simp [power_Sqrt.l0] at h
  | k + 1 => by
    have ih0 := power_Sqrt.mono_l k
    · intro y0 y1 y2 y3
      unfold power_Sqrt.l0
      repeat' first
      | (with_reducible exact ih0 _ _ _ _)
      | (with_reducible exact LeO.refl _)
      | (with_reducible exact LeO.none _)
      | (with_reducible refine LeO.ite ?_ ?_)
      | (with_reducible refine LeO.bind ?_ (fun _ => ?_))
      | exact ih0 _ _ _ _
      | exact LeO.none _
      | refine LeO.ite ?_ ?_
      | refine LeO.bind ?_ (fun _ => ?_)
theorem power_Sqrt.mono : ∀ a0 k, LeO (power_Sqrt.f k a0) (power_Sqrt.f (k + 1) a0) := by
  intro a0 k
  have ih0 := power_Sqrt.mono_l k
  unfold power_Sqrt.f
  repeat' first
      | (with_reducible exact ih0 _ _ _ _)
      | (with_reducible exact LeO.refl _)
      | (with_reducible exact LeO.none _)
      | (with_reducible refine LeO.ite ?_ ?_)
      | (with_reducible refine LeO.bind ?_ (fun _ => ?_))
      | exact ih0 _ _ _ _
      | exact LeO.none _
      | refine LeO.ite ?_ ?_
      | refine LeO.bind ?_ (fun _ => ?_)
set_option maxHeartbeats 8000000 in
set_option maxRecDepth 100000 in
theorem power_Sqrt.calls (k : Nat) (a0 : Int) (r1 : Int) (r2 : Bool) (w : World) (h : power_Sqrt.f k a0 = some (r1, r2)) :
    Calls Try.prog 35 #[.int .i64 a0] w fun e w' => e = .returned (.tuple #[.int .i64 r1, .bool r2]) ∧ Drawn0 w w' := by
  have H := h
  (try unfold power_Sqrt.f at H)
  clear h
  by_cases c2 : a0 < 0
  · rw [if_pos c2] at H
    have c2b0 : decide (a0 < 0) = true := decide_eq_true c2
    clear c2
    simp only [Option.some.injEq, Prod.mk.injEq] at H
    obtain ⟨rfl, rfl⟩ := H
    go_enter Try.func35, Try.ntmps35
    go_wp2
    go_ret2
    exact fin0
  · rw [if_neg c2] at H
    have c2b0 : decide (a0 < 0) = false := decide_eq_false c2
    clear c2
    replace H := Option.bind_eq_some_iff.mp H
    obtain ⟨⟨t330, t331⟩, A30, H⟩ := H
    (try dsimp only at H)
    have A3 := Aside0.mk A30
    clear A30
    have H' := Aside0.mk H
    clear H
    go_enter Try.func35, Try.ntmps35
    go_wp2_with (first | ((with_reducible refine gate_callee (f := 74) rfl ?_); refine goD (some 16) rfl Try.func74 (bits_Mul64.calls (IntKind.u64.wrap (a0)) 10000 t330 t331 _ A3.out) ?_; intro nd))
    go_loopg [6, 7] k (fun kq v6 v7 w' => ∃ (x6_1 : Int) (x7_1 : Int), v6 = .int .u64 x6_1 ∧ v7 = .int .u64 x7_1 ∧ Aside0 (power_Sqrt.l0 kq t330 t331 x6_1 x7_1 = some (r1, r2)) ∧ Aside0 (kq ≤ k) ∧ Drawn0 w w')
    case atStart => exact ⟨(0), (1099511627776), eqv, eqv, H', ⟨Nat.le_refl _⟩, drv⟩
    case round =>
      clear H'
      try clear c2
      try clear c2b0
      try clear p2
      try clear c3
      obtain ⟨x6_1, x7_1, rfl, rfl, HA, HK1, ⟨m1, rfl⟩⟩ := hrel
      cases gk with
      | zero => exact absurd HA.out (by simp [power_Sqrt.l0])
      | succ k1 =>
        have H := HA.out
        clear HA
        simp only [power_Sqrt.l0] at H
        by_cases c4 : (IntKind.u64.wrap (x7_1 - x6_1)) > 1
        · rw [if_pos c4] at H
          have c4b0 : decide (1 < (IntKind.u64.wrap (x7_1 - x6_1))) = true := decide_eq_true c4
          clear c4
          replace H := Option.bind_eq_some_iff.mp H
          obtain ⟨⟨t332, t333⟩, A50, H⟩ := H
          (try dsimp only at H)
          have A5 := Aside0.mk A50
          clear A50
          by_cases c6 : t332 < t330
          · rw [if_pos c6] at H
            have c6b0 : decide (t332 < t330) = true := decide_eq_true c6
            clear c6
            have H' := Aside0.mk H
            clear H
            go_wp2_with (first | ((with_reducible refine gate_callee (f := 74) rfl ?_); refine goD (some 32) rfl Try.func74 (bits_Mul64.calls (IntKind.u64.wrap (x6_1 + (IntKind.u64.wrap (Int.tdiv (IntKind.u64.wrap (x7_1 - x6_1)) 2)))) (IntKind.u64.wrap (x6_1 + (IntKind.u64.wrap (Int.tdiv (IntKind.u64.wrap (x7_1 - x6_1)) 2)))) t332 t333 _ A5.out) ?_; intro nd))
            go_roundg k1
            case measure => have := HK1.out; omega
            case rel => exact ⟨(IntKind.u64.wrap (x6_1 + (IntKind.u64.wrap (Int.tdiv (IntKind.u64.wrap (x7_1 - x6_1)) 2)))), (x7_1), eqv, eqv, H', ⟨by have := HK1.out; omega⟩, drv⟩
          · rw [if_neg c6] at H
            have c6b0 : decide (t332 < t330) = false := decide_eq_false c6
            clear c6
            by_cases c7 : t332 = t330
            · rw [if_pos c7] at H
              have c7b0 : (t332 == t330) = true := beq_iff_eq.mpr c7
              have c7b1 : (t332 != t330) = false := bne_eq_false_iff_eq.mpr c7
              clear c7
              by_cases c8 : t333 ≤ t331
              · rw [if_pos c8] at H
                have c8b0 : decide (t333 ≤ t331) = true := decide_eq_true c8
                clear c8
                have H' := Aside0.mk H
                clear H
                go_wp2_with (first | ((with_reducible refine gate_callee (f := 74) rfl ?_); refine goD (some 32) rfl Try.func74 (bits_Mul64.calls (IntKind.u64.wrap (x6_1 + (IntKind.u64.wrap (Int.tdiv (IntKind.u64.wrap (x7_1 - x6_1)) 2)))) (IntKind.u64.wrap (x6_1 + (IntKind.u64.wrap (Int.tdiv (IntKind.u64.wrap (x7_1 - x6_1)) 2)))) t332 t333 _ A5.out) ?_; intro nd))
                go_roundg k1
                case measure => have := HK1.out; omega
                case rel => exact ⟨(IntKind.u64.wrap (x6_1 + (IntKind.u64.wrap (Int.tdiv (IntKind.u64.wrap (x7_1 - x6_1)) 2)))), (x7_1), eqv, eqv, H', ⟨by have := HK1.out; omega⟩, drv⟩
              · rw [if_neg c8] at H
                have c8b0 : decide (t333 ≤ t331) = false := decide_eq_false c8
                clear c8
                have H' := Aside0.mk H
                clear H
                go_wp2_with (first | ((with_reducible refine gate_callee (f := 74) rfl ?_); refine goD (some 32) rfl Try.func74 (bits_Mul64.calls (IntKind.u64.wrap (x6_1 + (IntKind.u64.wrap (Int.tdiv (IntKind.u64.wrap (x7_1 - x6_1)) 2)))) (IntKind.u64.wrap (x6_1 + (IntKind.u64.wrap (Int.tdiv (IntKind.u64.wrap (x7_1 - x6_1)) 2)))) t332 t333 _ A5.out) ?_; intro nd))
                go_roundg k1
                case measure => have := HK1.out; omega
                case rel => exact ⟨(x6_1), (IntKind.u64.wrap (x6_1 + (IntKind.u64.wrap (Int.tdiv (IntKind.u64.wrap (x7_1 - x6_1)) 2)))), eqv, eqv, H', ⟨by have := HK1.out; omega⟩, drv⟩
            · rw [if_neg c7] at H
              have c7b0 : (t332 == t330) = false := beq_eq_false_iff_ne.mpr c7
              have c7b1 : (t332 != t330) = true := bne_iff_ne.mpr c7
              have H' := Aside0.mk H
              clear H
              go_wp2_with (first | ((with_reducible refine gate_callee (f := 74) rfl ?_); refine goD (some 32) rfl Try.func74 (bits_Mul64.calls (IntKind.u64.wrap (x6_1 + (IntKind.u64.wrap (Int.tdiv (IntKind.u64.wrap (x7_1 - x6_1)) 2)))) (IntKind.u64.wrap (x6_1 + (IntKind.u64.wrap (Int.tdiv (IntKind.u64.wrap (x7_1 - x6_1)) 2)))) t332 t333 _ A5.out) ?_; intro nd))
              go_roundg k1
              case measure => have := HK1.out; omega
              case rel => exact ⟨(x6_1), (IntKind.u64.wrap (x6_1 + (IntKind.u64.wrap (Int.tdiv (IntKind.u64.wrap (x7_1 - x6_1)) 2)))), eqv, eqv, H', ⟨by have := HK1.out; omega⟩, drv⟩
        · rw [if_neg c4] at H
          have c4b0 : decide (1 < (IntKind.u64.wrap (x7_1 - x6_1))) = false := decide_eq_false c4
          clear c4
          simp only [Option.some.injEq, Prod.mk.injEq] at H
          obtain ⟨rfl, rfl⟩ := H
          go_wp2
          go_ret2
          exact fin0

/-! ### power_wholes: function 75 -/
def power_wholes.f (a0 : Int) (a1 : Int) : Option (Bool) := (dec_Whole.f a0).bind fun t334 => (if t334 = true then ((dec_Whole.f a1).bind fun t335 => (if t335 = true then (if a0 ≥ 0 then (some (decide (a1 ≥ 0))) else (some false)) else (some false))) else (some false))
set_option maxHeartbeats 8000000 in
set_option maxRecDepth 100000 in
theorem power_wholes.calls (a0 : Int) (a1 : Int) (r : Bool) (w : World) (h : power_wholes.f a0 a1 = some r) :
    Calls Try.prog 75 #[.int .i64 a0, .int .i64 a1] w fun e w' => e = .returned (.bool r) ∧ Drawn0 w w' := by
  have H := h
  (try unfold power_wholes.f at H)
  clear h
  replace H := Option.bind_eq_some_iff.mp H
  obtain ⟨t334, A30, H⟩ := H
  (try dsimp only at H)
  have A3 := Aside0.mk A30
  clear A30
  by_cases c4 : t334 = true
  · subst c4
    rw [if_pos rfl] at H
    replace H := Option.bind_eq_some_iff.mp H
    obtain ⟨t335, A50, H⟩ := H
    (try dsimp only at H)
    have A5 := Aside0.mk A50
    clear A50
    by_cases c6 : t335 = true
    · subst c6
      rw [if_pos rfl] at H
      by_cases c7 : a0 ≥ 0
      · rw [if_pos c7] at H
        have c7b0 : decide (0 ≤ a0) = true := decide_eq_true c7
        clear c7
        obtain rfl := Option.some.inj H
        go_enter Try.func75, Try.ntmps75
        go_wp2_with (first | ((with_reducible refine gate_callee (f := 24) rfl ?_); refine goD (some 6) rfl Try.func24 (dec_Whole.calls a0 true _ A3.out) ?_; intro nd) | (go_at_call 24; (with_reducible refine (dec_Whole.calls a1 true _ A5.out).mono ?_); rintro e w' ⟨rfl, ⟨nd, rfl⟩⟩; (try clear A5)))
        go_ret
        exact fin0
      · rw [if_neg c7] at H
        have c7b0 : decide (0 ≤ a0) = false := decide_eq_false c7
        clear c7
        obtain rfl := Option.some.inj H
        go_enter Try.func75, Try.ntmps75
        go_wp2_with (first | ((with_reducible refine gate_callee (f := 24) rfl ?_); refine goD (some 6) rfl Try.func24 (dec_Whole.calls a0 true _ A3.out) ?_; intro nd) | (go_at_call 24; (with_reducible refine (dec_Whole.calls a1 true _ A5.out).mono ?_); rintro e w' ⟨rfl, ⟨nd, rfl⟩⟩; (try clear A5)))
        go_ret
        exact fin0
    · replace c6 := Bool.eq_false_iff.mpr c6
      subst c6
      rw [if_neg (show ¬ (false = true) by decide)] at H
      obtain rfl := Option.some.inj H
      go_enter Try.func75, Try.ntmps75
      go_wp2_with (first | ((with_reducible refine gate_callee (f := 24) rfl ?_); refine goD (some 6) rfl Try.func24 (dec_Whole.calls a0 true _ A3.out) ?_; intro nd) | (go_at_call 24; (with_reducible refine (dec_Whole.calls a1 false _ A5.out).mono ?_); rintro e w' ⟨rfl, ⟨nd, rfl⟩⟩; (try clear A5)))
      go_ret
      exact fin0
  · replace c4 := Bool.eq_false_iff.mpr c4
    subst c4
    rw [if_neg (show ¬ (false = true) by decide)] at H
    obtain rfl := Option.some.inj H
    go_enter Try.func75, Try.ntmps75
    go_wp2_with (first | ((with_reducible refine gate_callee (f := 24) rfl ?_); refine goD (some 6) rfl Try.func24 (dec_Whole.calls a0 false _ A3.out) ?_; intro nd))
    go_ret
    exact fin0

/-! ### power_gcd: function 76 -/
def power_gcd.l0 : Nat → Int → Int → Option (Int)
  | 0, _, _ => none
  | k + 1, x0, x1 => if x1 = 0 then (some x0) else (power_gcd.l0 k x1 (Int.tmod x0 x1))
def power_gcd.f (k : Nat) (a0 : Int) (a1 : Int) : Option (Int) := power_gcd.l0 k a0 a1
theorem power_gcd.mono_l : ∀ k, (∀ y0 y1, LeO (power_gcd.l0 k y0 y1) (power_gcd.l0 (k + 1) y0 y1))
  | 0 => fun _ _ r h => by simp [power_gcd.l0] at h
  | k + 1 => by
    have ih0 := power_gcd.mono_l k
    · intro y0 y1
      unfold power_gcd.l0
      repeat' first
      | (with_reducible exact ih0 _ _)
      | (with_reducible exact LeO.refl _)
      | (with_reducible exact LeO.none _)
      | (with_reducible refine LeO.ite ?_ ?_)
      | (with_reducible refine LeO.bind ?_ (fun _ => ?_))
      | exact ih0 _ _
      | exact LeO.none _
      | refine LeO.ite ?_ ?_
      | refine LeO.bind ?_ (fun _ => ?_)
theorem power_gcd.mono : ∀ a0 a1 k, LeO (power_gcd.f k a0 a1) (power_gcd.f (k + 1) a0 a1) := by
  intro a0 a1 k
  have ih0 := power_gcd.mono_l k
  unfold power_gcd.f
  repeat' first
      | (with_reducible exact ih0 _ _)
      | (with_reducible exact LeO.refl _)
      | (with_reducible exact LeO.none _)
      | (with_reducible refine LeO.ite ?_ ?_)
      | (with_reducible refine LeO.bind ?_ (fun _ => ?_))
      | exact ih0 _ _
      | exact LeO.none _
      | refine LeO.ite ?_ ?_
      | refine LeO.bind ?_ (fun _ => ?_)
set_option maxHeartbeats 8000000 in
set_option maxRecDepth 100000 in
theorem power_gcd.calls (k : Nat) (a0 : Int) (a1 : Int) (r : Int) (w : World) (h : power_gcd.f k a0 a1 = some r) :
    Calls Try.prog 76 #[.int .i64 a0, .int .i64 a1] w fun e w' => e = .returned (.int .i64 r) ∧ Drawn0 w w' := by
  have H := h
  (try unfold power_gcd.f at H)
  clear h
  have H' := Aside0.mk H
  clear H
  go_enter Try.func76, Try.ntmps76
  go_wp2
  repeat (go_quiet (fail); try go_wp2)
  go_loopg [0, 1] k (fun kq v0 v1 w' => ∃ (x0_1 : Int) (x1_1 : Int), v0 = .int .i64 x0_1 ∧ v1 = .int .i64 x1_1 ∧ Aside0 (power_gcd.l0 kq x0_1 x1_1 = some r) ∧ Aside0 (kq ≤ k) ∧ Drawn0 w w')
  case atStart => exact ⟨(a0), (a1), eqv, eqv, H', ⟨Nat.le_refl _⟩, drv⟩
  case round =>
    clear H'
    try clear p2
    obtain ⟨x0_1, x1_1, rfl, rfl, HA, HK1, ⟨m1, rfl⟩⟩ := hrel
    cases gk with
    | zero => exact absurd HA.out (by simp [power_gcd.l0])
    | succ k1 =>
      have H := HA.out
      clear HA
      simp only [power_gcd.l0] at H
      by_cases c3 : x1_1 = 0
      · rw [if_pos c3] at H
        have c3b0 : (x1_1 == 0) = true := beq_iff_eq.mpr c3
        have c3b1 : (x1_1 != 0) = false := bne_eq_false_iff_eq.mpr c3
        clear c3
        obtain rfl := Option.some.inj H
        go_wp2
        repeat (go_quiet (fail); try go_wp2)
        go_ret
        exact fin0
      · rw [if_neg c3] at H
        have c3b0 : (x1_1 == 0) = false := beq_eq_false_iff_ne.mpr c3
        have c3b1 : (x1_1 != 0) = true := bne_iff_ne.mpr c3
        have H' := Aside0.mk H
        clear H
        go_wp2
        repeat (go_quiet (fail); try go_wp2)
        go_roundg k1
        case measure => have := HK1.out; omega
        case rel => exact ⟨(x1_1), (Int.tmod x0_1 x1_1), eqv, eqv, H', ⟨by have := HK1.out; omega⟩, drv⟩

end Go.Proofs.Ytmagefemmhfkaaa.PA
