/- Texts that PowerRoots rests on. -/
import Derived.Test.YtmagefemmhfkaaaBPowerRootsp0
import Derived.Test.YtmagefemmhfkaaaBPowerRootsp1
import Derived.Test.YtmagefemmhfkaaaBPowerRootsp4

namespace Go.Proofs.Ytmagefemmhfkaaa.PA
open Go.RowKit Go.Proofs.YtmagefemmhfkaaaW.PrintWords Go.Proofs.YtmagefemmhfkaaaW.PrintLast Go.Proofs.YtmagefemmhfkaaaW.PrintMore
attribute [local go_sem] max2_int min2_int max_two min_two max_three min_three max_four min_four   -- for this text's walks alone
set_option linter.unusedVariables false
set_option linter.unusedSimpArgs false

/-! ### oculuslaw10_PowerRoots: function 8 -/
def oculuslaw10_PowerRoots.f (k : Nat) (a0 : Int) : Option (Bool) := (power_Sqrt.f k a0).bind fun bt370 => (if a0 < 0 then (if bt370.2 = true then (none) else (if bt370.1 = 0 then ((oculuslaw10_alive.f k).bind fun t372 => (some t372)) else (none))) else (if bt370.2 = true then (if bt370.1 < 0 then (none) else (if bt370.1 > 1099511627776 then (none) else ((oculusref10_Fits.f bt370.1 a0).bind fun t373 => (if t373 = true then ((oculusref10_Fits.f (wrap64 (bt370.1 + 1)) a0).bind fun t374 => (if t374 = true then (none) else ((power_Power.f k (wrap64 ((wrap64 (Int.tdiv bt370.1 10000)) * 10000)) 20000).bind fun bt375 => (if bt375.2 = true then ((power_Sqrt.f k bt375.1).bind fun bt377 => (if bt377.2 = true then (if bt377.1 = (wrap64 ((wrap64 (Int.tdiv bt370.1 10000)) * 10000)) then ((oculuslaw10_alive.f k).bind fun t379 => (some t379)) else (none)) else (none))) else ((oculuslaw10_alive.f k).bind fun t380 => (some t380)))))) else (none))))) else (none)))
theorem oculuslaw10_PowerRoots.mono : ∀ a0 k, LeO (oculuslaw10_PowerRoots.f k a0) (oculuslaw10_PowerRoots.f (k + 1) a0) := by
  intro a0 k
  unfold oculuslaw10_PowerRoots.f
  repeat' first
      | (with_reducible exact oculuslaw10_alive.mono _)
      | (with_reducible exact power_Power.mono _ _ _)
      | (with_reducible exact power_Sqrt.mono _ _)
      | (with_reducible exact LeO.refl _)
      | (with_reducible exact LeO.none _)
      | (with_reducible refine LeO.ite ?_ ?_)
      | (with_reducible refine LeO.bind ?_ (fun _ => ?_))
      | exact oculuslaw10_alive.mono _
      | exact power_Power.mono _ _ _
      | exact power_Sqrt.mono _ _
      | exact LeO.none _
      | refine LeO.ite ?_ ?_
      | refine LeO.bind ?_ (fun _ => ?_)
set_option maxHeartbeats 8000000 in
set_option maxRecDepth 100000 in
theorem oculuslaw10_PowerRoots.calls (k : Nat) (a0 : Int) (r : Bool) (w : World) (h : oculuslaw10_PowerRoots.f k a0 = some r) :
    Calls Try.prog 8 #[.int .i64 a0] w fun e w' => e = .returned (.bool r) ∧ Below w.heap.size w w' := by
  have HB := Aside0.mk (Below.refl w.heap.size w)
  have H := h
  (try unfold oculuslaw10_PowerRoots.f at H)
  clear h
  replace H := Option.bind_eq_some_iff.mp H
  obtain ⟨⟨t370, t371⟩, A20, H⟩ := H
  (try dsimp only at H)
  have A2 := Aside0.mk A20
  clear A20
  by_cases c3 : a0 < 0
  · rw [if_pos c3] at H
    have c3b0 : decide (a0 < 0) = true := decide_eq_true c3
    clear c3
    by_cases c4 : t371 = true
    · subst c4
      rw [if_pos rfl] at H
      exact absurd H (by simp)
    · replace c4 := Bool.eq_false_iff.mpr c4
      subst c4
      rw [if_neg (show ¬ (false = true) by decide)] at H
      by_cases c5 : t370 = 0
      · rw [if_pos c5] at H
        have c5b0 : (t370 == 0) = true := beq_iff_eq.mpr c5
        have c5b1 : (t370 != 0) = false := bne_eq_false_iff_eq.mpr c5
        clear c5
        replace H := Option.bind_eq_some_iff.mp H
        obtain ⟨t372, A60, H⟩ := H
        (try dsimp only at H)
        have A6 := Aside0.mk A60
        clear A60
        obtain rfl := Option.some.inj H
        go_enter Try.func8, Try.ntmps8
        go_wp2_with (first | ((with_reducible refine gate_callee (f := 35) rfl ?_); refine goD (some 12) rfl Try.func35 (power_Sqrt.calls k a0 t370 false _ A2.out) ?_; intro nd) | (go_at_call 34; (with_reducible refine (oculuslaw10_alive.calls k  t372 _ A6.out).mono ?_); refine monoK ?_; clear HB; intro w7 HB))
        go_ret
        exact finB
      · rw [if_neg c5] at H
        exact absurd H (by simp)
  · rw [if_neg c3] at H
    have c3b0 : decide (a0 < 0) = false := decide_eq_false c3
    clear c3
    by_cases c8 : t371 = true
    · subst c8
      rw [if_pos rfl] at H
      by_cases c9 : t370 < 0
      · rw [if_pos c9] at H
        exact absurd H (by simp)
      · rw [if_neg c9] at H
        have c9b0 : decide (t370 < 0) = false := decide_eq_false c9
        clear c9
        by_cases c10 : t370 > 1099511627776
        · rw [if_pos c10] at H
          exact absurd H (by simp)
        · rw [if_neg c10] at H
          have c10b0 : decide (1099511627776 < t370) = false := decide_eq_false c10
          clear c10
          replace H := Option.bind_eq_some_iff.mp H
          obtain ⟨t373, A110, H⟩ := H
          (try dsimp only at H)
          have A11 := Aside0.mk A110
          clear A110
          by_cases c12 : t373 = true
          · subst c12
            rw [if_pos rfl] at H
            replace H := Option.bind_eq_some_iff.mp H
            obtain ⟨t374, A130, H⟩ := H
            (try dsimp only at H)
            have A13 := Aside0.mk A130
            clear A130
            by_cases c14 : t374 = true
            · subst c14
              rw [if_pos rfl] at H
              exact absurd H (by simp)
            · replace c14 := Bool.eq_false_iff.mpr c14
              subst c14
              rw [if_neg (show ¬ (false = true) by decide)] at H
              replace H := Option.bind_eq_some_iff.mp H
              obtain ⟨⟨t375, t376⟩, A150, H⟩ := H
              (try dsimp only at H)
              have A15 := Aside0.mk A150
              clear A150
              by_cases c16 : t376 = true
              · subst c16
                rw [if_pos rfl] at H
                replace H := Option.bind_eq_some_iff.mp H
                obtain ⟨⟨t377, t378⟩, A170, H⟩ := H
                (try dsimp only at H)
                have A17 := Aside0.mk A170
                clear A170
                by_cases c18 : t378 = true
                · subst c18
                  rw [if_pos rfl] at H
                  by_cases c19 : t377 = (wrap64 ((wrap64 (Int.tdiv t370 10000)) * 10000))
                  · rw [if_pos c19] at H
                    have c19b0 : (t377 == (wrap64 ((wrap64 (Int.tdiv t370 10000)) * 10000))) = true := beq_iff_eq.mpr c19
                    have c19b1 : (t377 != (wrap64 ((wrap64 (Int.tdiv t370 10000)) * 10000))) = false := bne_eq_false_iff_eq.mpr c19
                    clear c19
                    replace H := Option.bind_eq_some_iff.mp H
                    obtain ⟨t379, A200, H⟩ := H
                    (try dsimp only at H)
                    have A20 := Aside0.mk A200
                    clear A200
                    obtain rfl := Option.some.inj H
                    go_enter Try.func8, Try.ntmps8
                    go_wp2_with (first | ((with_reducible refine gate_callee (f := 35) rfl ?_); refine goD (some 12) rfl Try.func35 (power_Sqrt.calls k a0 t370 true _ A2.out) ?_; intro nd) | (go_at_call 36; (with_reducible refine (oculusref10_Fits.calls t370 a0 true _ A11.out).mono ?_); refine monoK ?_; clear HB; intro w21 HB) | (go_at_call 36; (with_reducible refine (oculusref10_Fits.calls (wrap64 (t370 + 1)) a0 false _ A13.out).mono ?_); refine monoK ?_; clear HB; intro w22 HB) | ((with_reducible refine gate_callee (f := 32) rfl ?_); refine goD (some 53) rfl Try.func32 (power_Power.calls k (wrap64 ((wrap64 (Int.tdiv t370 10000)) * 10000)) 20000 t375 true _ A15.out) ?_; intro nd) | ((with_reducible refine gate_callee (f := 35) rfl ?_); refine goD (some 61) rfl Try.func35 (power_Sqrt.calls k t375 t377 true _ A17.out) ?_; intro nd) | (go_at_call 34; (with_reducible refine (oculuslaw10_alive.calls k  t379 _ A20.out).mono ?_); refine monoK ?_; clear HB; intro w23 HB))
                    go_ret
                    exact finB
                  · rw [if_neg c19] at H
                    exact absurd H (by simp)
                · replace c18 := Bool.eq_false_iff.mpr c18
                  subst c18
                  rw [if_neg (show ¬ (false = true) by decide)] at H
                  exact absurd H (by simp)
              · replace c16 := Bool.eq_false_iff.mpr c16
                subst c16
                rw [if_neg (show ¬ (false = true) by decide)] at H
                replace H := Option.bind_eq_some_iff.mp H
                obtain ⟨t380, A240, H⟩ := H
                (try dsimp only at H)
                have A24 := Aside0.mk A240
                clear A240
                obtain rfl := Option.some.inj H
                go_enter Try.func8, Try.ntmps8
                go_wp2_with (first | ((with_reducible refine gate_callee (f := 35) rfl ?_); refine goD (some 12) rfl Try.func35 (power_Sqrt.calls k a0 t370 true _ A2.out) ?_; intro nd) | (go_at_call 36; (with_reducible refine (oculusref10_Fits.calls t370 a0 true _ A11.out).mono ?_); refine monoK ?_; clear HB; intro w25 HB) | (go_at_call 36; (with_reducible refine (oculusref10_Fits.calls (wrap64 (t370 + 1)) a0 false _ A13.out).mono ?_); refine monoK ?_; clear HB; intro w26 HB) | ((with_reducible refine gate_callee (f := 32) rfl ?_); refine goD (some 53) rfl Try.func32 (power_Power.calls k (wrap64 ((wrap64 (Int.tdiv t370 10000)) * 10000)) 20000 t375 false _ A15.out) ?_; intro nd) | ((with_reducible refine gate_callee (f := 34) rfl ?_); refine goB (some 58) rfl Try.func34 (oculuslaw10_alive.calls k  t380 _ A24.out) ?_; clear HB; intro w27 HB))
                go_ret
                exact finB
          · replace c12 := Bool.eq_false_iff.mpr c12
            subst c12
            rw [if_neg (show ¬ (false = true) by decide)] at H
            exact absurd H (by simp)
    · replace c8 := Bool.eq_false_iff.mpr c8
      subst c8
      rw [if_neg (show ¬ (false = true) by decide)] at H
      exact absurd H (by simp)

/-- THE ONE PURE STATEMENT of oculuslaw10_PowerRoots: yours. -/
def oculuslaw10_PowerRoots.Pure : Prop := ∀ (a0 : Int), (Lit.int .i64 a0).wf = true → ∃ k, oculuslaw10_PowerRoots.f k a0 = some true
theorem oculuslaw10_PowerRoots.walk (P : oculuslaw10_PowerRoots.Pure) (a0 : Int) (w : World) (w0 : (Lit.int .i64 a0).wf = true) :
    Calls Try.prog 8 #[.int .i64 a0] w fun e w' => e = .returned (.bool true) ∧ Below w.heap.size w w' := by
  obtain ⟨k, h⟩ := P a0 w0
  refine (oculuslaw10_PowerRoots.calls k a0 true w h).mono ?_
  rintro e w' ⟨rfl, hd⟩
  exact ⟨rfl, hd⟩

/-! ### power_Gcd: function 37 -/
def power_Gcd.f (k : Nat) (a0 : Int) (a1 : Int) : Option (Int × Bool) := (power_wholes.f a0 a1).bind fun t381 => (if t381 = true then ((power_gcd.f k a0 a1).bind fun t382 => (some (t382, true))) else (some (0, false)))
theorem power_Gcd.mono : ∀ a0 a1 k, LeO (power_Gcd.f k a0 a1) (power_Gcd.f (k + 1) a0 a1) := by
  intro a0 a1 k
  unfold power_Gcd.f
  repeat' first
      | (with_reducible exact power_gcd.mono _ _ _)
      | (with_reducible exact LeO.refl _)
      | (with_reducible exact LeO.none _)
      | (with_reducible refine LeO.ite ?_ ?_)
      | (with_reducible refine LeO.bind ?_ (fun _ => ?_))
      | exact power_gcd.mono _ _ _
      | exact LeO.none _
      | refine LeO.ite ?_ ?_
      | refine LeO.bind ?_ (fun _ => ?_)
set_option maxHeartbeats 8000000 in
set_option maxRecDepth 100000 in
theorem power_Gcd.calls (k : Nat) (a0 : Int) (a1 : Int) (r1 : Int) (r2 : Bool) (w : World) (h : power_Gcd.f k a0 a1 = some (r1, r2)) :
    Calls Try.prog 37 #[.int .i64 a0, .int .i64 a1] w fun e w' => e = .returned (.tuple #[.int .i64 r1, .bool r2]) ∧ Drawn0 w w' := by
  have H := h
  (try unfold power_Gcd.f at H)
  clear h
  replace H := Option.bind_eq_some_iff.mp H
  obtain ⟨t381, A30, H⟩ := H
  (try dsimp only at H)
  have A3 := Aside0.mk A30
  clear A30
  by_cases c4 : t381 = true
  · subst c4
    rw [if_pos rfl] at H
    replace H := Option.bind_eq_some_iff.mp H
    obtain ⟨t382, A50, H⟩ := H
    (try dsimp only at H)
    have A5 := Aside0.mk A50
    clear A50
    simp only [Option.some.injEq, Prod.mk.injEq] at H
    obtain ⟨rfl, rfl⟩ := H
    go_enter Try.func37, Try.ntmps37
    go_wp2_with (first | ((with_reducible refine gate_callee (f := 75) rfl ?_); refine goD (some 8) rfl Try.func75 (power_wholes.calls a0 a1 true _ A3.out) ?_; intro nd) | ((with_reducible refine gate_callee (f := 76) rfl ?_); refine goD (some 12) rfl Try.func76 (power_gcd.calls k a0 a1 t382 _ A5.out) ?_; intro nd))
    go_ret2
    exact fin0
  · replace c4 := Bool.eq_false_iff.mpr c4
    subst c4
    rw [if_neg (show ¬ (false = true) by decide)] at H
    simp only [Option.some.injEq, Prod.mk.injEq] at H
    obtain ⟨rfl, rfl⟩ := H
    go_enter Try.func37, Try.ntmps37
    go_wp2_with (first | ((with_reducible refine gate_callee (f := 75) rfl ?_); refine goD (some 8) rfl Try.func75 (power_wholes.calls a0 a1 false _ A3.out) ?_; intro nd))
    go_ret2
    exact fin0

end Go.Proofs.Ytmagefemmhfkaaa.PA
