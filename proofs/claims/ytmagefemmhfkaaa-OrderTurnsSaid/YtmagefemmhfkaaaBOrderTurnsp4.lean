/- Texts that OrderTurns rests on. -/
import Derived.Test.YtmagefemmhfkaaaBOrderTurnsp0
import Derived.Test.YtmagefemmhfkaaaBOrderTurnsp3
import Derived.Test.YtmagefemmhfkaaaBOrderTurnsp2
import Derived.Test.YtmagefemmhfkaaaBOrderTurnsp1

namespace Go.Proofs.Ytmagefemmhfkaaa.PA
open Go.RowKit Go.Proofs.YtmagefemmhfkaaaW.PrintWords Go.Proofs.YtmagefemmhfkaaaW.PrintLast Go.Proofs.YtmagefemmhfkaaaW.PrintMore
attribute [local go_sem] max2_int min2_int max_two min_two max_three min_three max_four min_four
set_option linter.unusedVariables false
set_option linter.unusedSimpArgs false
def round_Odd.j0 : Nat → Int → Int → Option (Int × Bool)
  | 0, _, _ => none
  | k + 1, x0, x4 => (dec_Sub.f x0 x4).bind fun bt183 => (if bt183.2 = true then ((dec_Sign.f bt183.1).bind fun t185 => ((dec_Sign.f x4).bind fun t186 => (if (wrap64 (t185 * t186)) < 0 then (some (x4, true)) else ((round_Even.f k bt183.1).bind fun bt187 => (if bt187.2 = true then ((dec_Add.f bt187.1 x4).bind fun bt189 => (some (bt189.1, bt189.2))) else (some (0, false))))))) else (some (0, false)))
def round_Odd.f (k : Nat) (a0 : Int) : Option (Int × Bool) := if a0 < 0 then (round_Odd.j0 k a0 (-10000)) else (round_Odd.j0 k a0 10000)
theorem round_Odd.mono_l : ∀ k, (∀ y0 y1, LeO (round_Odd.j0 k y0 y1) (round_Odd.j0 (k + 1) y0 y1))
  | 0 => fun _ _ r h => by simp [round_Odd.j0] at h
  | k + 1 => by
    have ih0 := round_Odd.mono_l k
    · intro y0 y1
      unfold round_Odd.j0
      repeat' first
      | (with_reducible exact ih0 _ _)
      | (with_reducible exact round_Even.mono _ _)
      | (with_reducible exact LeO.refl _)
      | (with_reducible exact LeO.none _)
      | (with_reducible refine LeO.ite ?_ ?_)
      | (with_reducible refine LeO.bind ?_ (fun _ => ?_))
      | exact ih0 _ _
      | exact round_Even.mono _ _
      | exact LeO.none _
      | refine LeO.ite ?_ ?_
      | refine LeO.bind ?_ (fun _ => ?_)
theorem round_Odd.mono : ∀ a0 k, LeO (round_Odd.f k a0) (round_Odd.f (k + 1) a0) := by
  intro a0 k
  have ih0 := round_Odd.mono_l k
  unfold round_Odd.f
  repeat' first
      | (with_reducible exact ih0 _ _)
      | (with_reducible exact round_Even.mono _ _)
      | (with_reducible exact LeO.refl _)
      | (with_reducible exact LeO.none _)
      | (with_reducible refine LeO.ite ?_ ?_)
      | (with_reducible refine LeO.bind ?_ (fun _ => ?_))
      | exact ih0 _ _
      | exact round_Even.mono _ _
      | exact LeO.none _
      | refine LeO.ite ?_ ?_
      | refine LeO.bind ?_ (fun _ => ?_)
set_option maxHeartbeats 8000000 in
set_option maxRecDepth 100000 in
theorem round_Odd.calls (k : Nat) (a0 : Int) (r1 : Int) (r2 : Bool) (w : World) (h : round_Odd.f k a0 = some (r1, r2)) :
    Calls Try.prog 51 #[.int .i64 a0] w fun e w' => e = .returned (.tuple #[.int .i64 r1, .bool r2]) ∧ Below w.heap.size w w' := by
  have HB := Aside0.mk (Below.refl w.heap.size w)
  have H := h
  (try unfold round_Odd.f at H)
  clear h
  have HC2 := Aside0.mk H
  clear H
  go_enter Try.func51, Try.ntmps51
  go_upto_if 10 with (fail)
  go_cut [4] (fun v4 wc => ∃ (kq : Nat) (x4_1 : Int), v4 = .int .i64 x4_1 ∧ Aside0 (round_Odd.j0 kq a0 x4_1 = some (r1, r2)) ∧ Aside0 (kq ≤ k) ∧ Aside0 (Below w.heap.size w wc))
  case first =>
    have H := HC2.out
    clear HC2
    by_cases c3 : a0 < 0
    · rw [if_pos c3] at H
      have c3b0 : decide (a0 < 0) = true := decide_eq_true c3
      clear c3
      (first | rw [c3b0] | (simp only [i64_w, i32_w]; rw [c3b0]) | skip)
      have H' := Aside0.mk H
      clear H
      go_wp2
      go_meet
      case rel => exact ⟨_, (-10000), eqv, H', lev, blv⟩
    · rw [if_neg c3] at H
      have c3b0 : decide (a0 < 0) = false := decide_eq_false c3
      clear c3
      (first | rw [c3b0] | (simp only [i64_w, i32_w]; rw [c3b0]) | skip)
      have H' := Aside0.mk H
      clear H
      go_wp2
      go_meet
      case rel => exact ⟨_, (10000), eqv, H', lev, blv⟩
  case rest =>
    clear HC2
    try clear p2
    try clear c3
    try clear c3b0
    obtain ⟨kq, x4_1, rfl, HA, HJ1, HB⟩ := hcut
    cases kq with
    | zero => exact absurd HA.out (by simp [round_Odd.j0])
    | succ kj1 =>
      have H := HA.out
      clear HA
      simp only [round_Odd.j0] at H
      replace H := Option.bind_eq_some_iff.mp H
      obtain ⟨⟨t183, t184⟩, A40, H⟩ := H
      (try dsimp only at H)
      have A4 := Aside0.mk A40
      clear A40
      by_cases c5 : t184 = true
      · subst c5
        rw [if_pos rfl] at H
        replace H := Option.bind_eq_some_iff.mp H
        obtain ⟨t185, A60, H⟩ := H
        (try dsimp only at H)
        have A6 := Aside0.mk A60
        clear A60
        replace H := Option.bind_eq_some_iff.mp H
        obtain ⟨t186, A70, H⟩ := H
        (try dsimp only at H)
        have A7 := Aside0.mk A70
        clear A70
        by_cases c8 : (wrap64 (t185 * t186)) < 0
        · rw [if_pos c8] at H
          have c8b0 : decide ((wrap64 (t185 * t186)) < 0) = true := decide_eq_true c8
          clear c8
          simp only [Option.some.injEq, Prod.mk.injEq] at H
          obtain ⟨rfl, rfl⟩ := H
          go_wp2_with (first | ((with_reducible refine gate_callee (f := 29) rfl ?_); refine goD (some 16) rfl Try.func29 (dec_Sub.calls a0 x4_1 t183 true _ A4.out) ?_; intro nd) | ((with_reducible refine gate_callee (f := 26) rfl ?_); refine goD (some 22) rfl Try.func26 (dec_Sign.calls t183 t185 _ A6.out) ?_; intro nd) | ((with_reducible refine gate_callee (f := 26) rfl ?_); refine goD (some 24) rfl Try.func26 (dec_Sign.calls x4_1 t186 _ A7.out) ?_; intro nd))
          go_ret2
          exact finB
        · rw [if_neg c8] at H
          have c8b0 : decide ((wrap64 (t185 * t186)) < 0) = false := decide_eq_false c8
          clear c8
          replace H := Option.bind_eq_some_iff.mp H
          obtain ⟨⟨t187, t188⟩, A90, H⟩ := H
          (try dsimp only at H)
          have A9 := Aside0.mk A90
          clear A90
          by_cases c10 : t188 = true
          · subst c10
            rw [if_pos rfl] at H
            replace H := Option.bind_eq_some_iff.mp H
            obtain ⟨⟨t189, t190⟩, A110, H⟩ := H
            (try dsimp only at H)
            have A11 := Aside0.mk A110
            clear A110
            simp only [Option.some.injEq, Prod.mk.injEq] at H
            obtain ⟨rfl, rfl⟩ := H
            go_wp2_with (first | ((with_reducible refine gate_callee (f := 29) rfl ?_); refine goD (some 16) rfl Try.func29 (dec_Sub.calls a0 x4_1 t183 true _ A4.out) ?_; intro nd) | ((with_reducible refine gate_callee (f := 26) rfl ?_); refine goD (some 22) rfl Try.func26 (dec_Sign.calls t183 t185 _ A6.out) ?_; intro nd) | ((with_reducible refine gate_callee (f := 26) rfl ?_); refine goD (some 24) rfl Try.func26 (dec_Sign.calls x4_1 t186 _ A7.out) ?_; intro nd) | ((with_reducible refine gate_callee (f := 50) rfl ?_); refine goB (some 30) rfl Try.func50 (round_Even.calls kj1 t183 t187 true _ A9.out) ?_; clear HB; intro w12 HB) | ((with_reducible refine gate_callee (f := 27) rfl ?_); refine goD (some 37) rfl Try.func27 (dec_Add.calls t187 x4_1 t189 t190 _ A11.out) ?_; intro nd))
            go_ret2
            exact finB
          · replace c10 := Bool.eq_false_iff.mpr c10
            subst c10
            rw [if_neg (show ¬ (false = true) by decide)] at H
            simp only [Option.some.injEq, Prod.mk.injEq] at H
            obtain ⟨rfl, rfl⟩ := H
            go_wp2_with (first | ((with_reducible refine gate_callee (f := 29) rfl ?_); refine goD (some 16) rfl Try.func29 (dec_Sub.calls a0 x4_1 t183 true _ A4.out) ?_; intro nd) | ((with_reducible refine gate_callee (f := 26) rfl ?_); refine goD (some 22) rfl Try.func26 (dec_Sign.calls t183 t185 _ A6.out) ?_; intro nd) | ((with_reducible refine gate_callee (f := 26) rfl ?_); refine goD (some 24) rfl Try.func26 (dec_Sign.calls x4_1 t186 _ A7.out) ?_; intro nd) | ((with_reducible refine gate_callee (f := 50) rfl ?_); refine goB (some 30) rfl Try.func50 (round_Even.calls kj1 t183 t187 false _ A9.out) ?_; clear HB; intro w13 HB))
            go_ret2
            exact finB
      · replace c5 := Bool.eq_false_iff.mpr c5
        subst c5
        rw [if_neg (show ¬ (false = true) by decide)] at H
        simp only [Option.some.injEq, Prod.mk.injEq] at H
        obtain ⟨rfl, rfl⟩ := H
        go_wp2_with (first | ((with_reducible refine gate_callee (f := 29) rfl ?_); refine goD (some 16) rfl Try.func29 (dec_Sub.calls a0 x4_1 t183 false _ A4.out) ?_; intro nd))
        go_ret2
        exact finB
def oculuslaw09_alive.f (k : Nat)  : Option (Bool) := (round_Places.f k (-25000) 0 1).bind fun bt191 => ((round_Places.f k (-25000) 0 5).bind fun bt193 => ((round_Mod.f k (-70000) 30000).bind fun bt195 => ((round_Odd.f k 20000).bind fun bt197 => (if bt191.2 = true then (if bt193.2 = true then (if bt195.2 = true then (if bt197.2 = true then (if bt191.1 = (-30000) then (if bt193.1 = (-20000) then (if bt195.1 = 20000 then (some (bt197.1 == 30000)) else (none)) else (none)) else (none)) else (none)) else (none)) else (none)) else (none)))))
theorem oculuslaw09_alive.mono : ∀ k, LeO (oculuslaw09_alive.f k ) (oculuslaw09_alive.f (k + 1) ) := by
  intro  k
  unfold oculuslaw09_alive.f
  repeat' first
      | (with_reducible exact round_Mod.mono _ _ _)
      | (with_reducible exact round_Odd.mono _ _)
      | (with_reducible exact round_Places.mono _ _ _ _)
      | (with_reducible exact LeO.refl _)
      | (with_reducible exact LeO.none _)
      | (with_reducible refine LeO.ite ?_ ?_)
      | (with_reducible refine LeO.bind ?_ (fun _ => ?_))
      | exact round_Mod.mono _ _ _
      | exact round_Odd.mono _ _
      | exact round_Places.mono _ _ _ _
      | exact LeO.none _
      | refine LeO.ite ?_ ?_
      | refine LeO.bind ?_ (fun _ => ?_)
set_option maxHeartbeats 8000000 in
set_option maxRecDepth 100000 in
theorem oculuslaw09_alive.calls (k : Nat)  (r : Bool) (w : World) (h : oculuslaw09_alive.f k  = some r) :
    Calls Try.prog 16 #[] w fun e w' => e = .returned (.bool r) ∧ Below w.heap.size w w' := by
  have HB := Aside0.mk (Below.refl w.heap.size w)
  have H := h
  (try unfold oculuslaw09_alive.f at H)
  clear h
  replace H := Option.bind_eq_some_iff.mp H
  obtain ⟨⟨t191, t192⟩, A10, H⟩ := H
  (try dsimp only at H)
  have A1 := Aside0.mk A10
  clear A10
  replace H := Option.bind_eq_some_iff.mp H
  obtain ⟨⟨t193, t194⟩, A20, H⟩ := H
  (try dsimp only at H)
  have A2 := Aside0.mk A20
  clear A20
  replace H := Option.bind_eq_some_iff.mp H
  obtain ⟨⟨t195, t196⟩, A30, H⟩ := H
  (try dsimp only at H)
  have A3 := Aside0.mk A30
  clear A30
  replace H := Option.bind_eq_some_iff.mp H
  obtain ⟨⟨t197, t198⟩, A40, H⟩ := H
  (try dsimp only at H)
  have A4 := Aside0.mk A40
  clear A40
  by_cases c5 : t192 = true
  · subst c5
    rw [if_pos rfl] at H
    by_cases c6 : t194 = true
    · subst c6
      rw [if_pos rfl] at H
      by_cases c7 : t196 = true
      · subst c7
        rw [if_pos rfl] at H
        by_cases c8 : t198 = true
        · subst c8
          rw [if_pos rfl] at H
          by_cases c9 : t191 = (-30000)
          · rw [if_pos c9] at H
            have c9b0 : (t191 == (-30000)) = true := beq_iff_eq.mpr c9
            have c9b1 : (t191 != (-30000)) = false := bne_eq_false_iff_eq.mpr c9
            clear c9
            by_cases c10 : t193 = (-20000)
            · rw [if_pos c10] at H
              have c10b0 : (t193 == (-20000)) = true := beq_iff_eq.mpr c10
              have c10b1 : (t193 != (-20000)) = false := bne_eq_false_iff_eq.mpr c10
              clear c10
              by_cases c11 : t195 = 20000
              · rw [if_pos c11] at H
                have c11b0 : (t195 == 20000) = true := beq_iff_eq.mpr c11
                have c11b1 : (t195 != 20000) = false := bne_eq_false_iff_eq.mpr c11
                clear c11
                obtain rfl := Option.some.inj H
                go_enter Try.func16, Try.ntmps16
                go_wp2_with (first | ((with_reducible refine gate_callee (f := 19) rfl ?_); refine goB (some 10) rfl Try.func19 (round_Places.calls k (-25000) 0 1 t191 true _ A1.out) ?_; clear HB; intro w12 HB) | ((with_reducible refine gate_callee (f := 19) rfl ?_); refine goB (some 14) rfl Try.func19 (round_Places.calls k (-25000) 0 5 t193 true _ A2.out) ?_; clear HB; intro w13 HB) | ((with_reducible refine gate_callee (f := 46) rfl ?_); refine goD (some 18) rfl Try.func46 (round_Mod.calls k (-70000) 30000 t195 true _ A3.out) ?_; intro nd) | ((with_reducible refine gate_callee (f := 51) rfl ?_); refine goB (some 22) rfl Try.func51 (round_Odd.calls k 20000 t197 true _ A4.out) ?_; clear HB; intro w14 HB))
                go_ret
                exact finB
              · rw [if_neg c11] at H
                exact absurd H (by simp)
            · rw [if_neg c10] at H
              exact absurd H (by simp)
          · rw [if_neg c9] at H
            exact absurd H (by simp)
        · replace c8 := Bool.eq_false_iff.mpr c8
          subst c8
          rw [if_neg (show ¬ (false = true) by decide)] at H
          exact absurd H (by simp)
      · replace c7 := Bool.eq_false_iff.mpr c7
        subst c7
        rw [if_neg (show ¬ (false = true) by decide)] at H
        exact absurd H (by simp)
    · replace c6 := Bool.eq_false_iff.mpr c6
      subst c6
      rw [if_neg (show ¬ (false = true) by decide)] at H
      exact absurd H (by simp)
  · replace c5 := Bool.eq_false_iff.mpr c5
    subst c5
    rw [if_neg (show ¬ (false = true) by decide)] at H
    exact absurd H (by simp)
def oculusref08_Abs.f (a0 : Int) : Option (Int) := if a0 < 0 then (some (IntKind.u64.wrap (wrap64 (-a0)))) else (some (IntKind.u64.wrap (a0)))
set_option maxHeartbeats 8000000 in
set_option maxRecDepth 100000 in
theorem oculusref08_Abs.calls (a0 : Int) (r : Int) (w : World) (h : oculusref08_Abs.f a0 = some r) :
    Calls Try.prog 17 #[.int .i64 a0] w fun e w' => e = .returned (.int .u64 r) ∧ Drawn0 w w' := by
  have H := h
  (try unfold oculusref08_Abs.f at H)
  clear h
  by_cases c2 : a0 < 0
  · rw [if_pos c2] at H
    have c2b0 : decide (a0 < 0) = true := decide_eq_true c2
    clear c2
    obtain rfl := Option.some.inj H
    go_enter Try.func17, Try.ntmps17
    go_wp2
    go_ret
    exact fin0
  · rw [if_neg c2] at H
    have c2b0 : decide (a0 < 0) = false := decide_eq_false c2
    clear c2
    obtain rfl := Option.some.inj H
    go_enter Try.func17, Try.ntmps17
    go_wp2
    go_ret
    exact fin0
end Go.Proofs.Ytmagefemmhfkaaa.PA

namespace Go.Proofs.Ytmagefemmhfkaaa.PA
open Go.RowKit Go.Proofs.YtmagefemmhfkaaaW.PrintWords Go.Proofs.YtmagefemmhfkaaaW.PrintLast Go.Proofs.YtmagefemmhfkaaaW.PrintMore
attribute [local go_sem] max2_int min2_int max_two min_two max_three min_three max_four min_four
set_option linter.unusedVariables false
set_option linter.unusedSimpArgs false
mutual
def oculusref08_Scaled.j0 : Nat → Int → Int → Int → Bool → Option (Int × Bool)
  | 0, _, _, _, _ => none
  | k + 1, x0, x1, x2, x27 => if x27 = true then (some (0, false)) else ((oculusref08_Abs.f x2).bind fun t225 => ((oculusref08_Abs.f x0).bind fun t226 => ((oculusref08_Abs.f x1).bind fun t227 => ((oculusref08_Times.f t226 t227).bind fun bt228 => ((oculusref08_Divide.f k bt228.1 bt228.2 t225).bind fun bt230 => (if bt230.2.2 = true then (oculusref08_Scaled.j1 k x0 x1 x2 t225 (decide (bt230.1 > 9223372036854775807)) bt230.1 bt230.2.1 bt230.2.2) else (oculusref08_Scaled.j1 k x0 x1 x2 t225 true bt230.1 bt230.2.1 bt230.2.2)))))))
def oculusref08_Scaled.j1 : Nat → Int → Int → Int → Int → Bool → Int → Int → Bool → Option (Int × Bool)
  | 0, _, _, _, _, _, _, _, _ => none
  | k + 1, x0, x1, x2, x7, x45, x234000, x234001, x234002 => if x45 = true then (some (0, false)) else (if (IntKind.u64.wrap (x7 - x234001)) ≤ x234001 then (oculusref08_Scaled.j2 k x0 x1 x2 (IntKind.u64.wrap (x234000 + 1))) else (oculusref08_Scaled.j2 k x0 x1 x2 x234000))
def oculusref08_Scaled.j2 : Nat → Int → Int → Int → Int → Option (Int × Bool)
  | 0, _, _, _, _ => none
  | k + 1, x0, x1, x2, x9 => if x9 > 9223372036854775807 then (some (0, false)) else (if ((decide (x0 < 0)) != (decide (x1 < 0))) = true then (if x2 < 0 then (some (wrap64 (-(wrap64 (-(wrap64 (x9))))), true)) else (some (wrap64 (-(wrap64 (x9))), true))) else (if x2 < 0 then (some (wrap64 (-(wrap64 (x9))), true)) else (some (wrap64 (x9), true))))
end
def oculusref08_Scaled.f (k : Nat) (a0 : Int) (a1 : Int) (a2 : Int) : Option (Int × Bool) := (oculusref08_May.f a0).bind fun t222 => (if t222 = true then ((oculusref08_May.f a1).bind fun t223 => (if t223 = true then ((oculusref08_May.f a2).bind fun t224 => (if t224 = true then (oculusref08_Scaled.j0 k a0 a1 a2 (a2 == 0)) else (oculusref08_Scaled.j0 k a0 a1 a2 true))) else (oculusref08_Scaled.j0 k a0 a1 a2 true))) else (oculusref08_Scaled.j0 k a0 a1 a2 true))
theorem oculusref08_Scaled.mono_l : ∀ k, (∀ y0 y1 y2 y3, LeO (oculusref08_Scaled.j0 k y0 y1 y2 y3) (oculusref08_Scaled.j0 (k + 1) y0 y1 y2 y3)) ∧ (∀ y0 y1 y2 y3 y4 y5 y6 y7, LeO (oculusref08_Scaled.j1 k y0 y1 y2 y3 y4 y5 y6 y7) (oculusref08_Scaled.j1 (k + 1) y0 y1 y2 y3 y4 y5 y6 y7)) ∧ (∀ y0 y1 y2 y3, LeO (oculusref08_Scaled.j2 k y0 y1 y2 y3) (oculusref08_Scaled.j2 (k + 1) y0 y1 y2 y3))
  | 0 => ⟨fun _ _ _ _ r h => by simp [oculusref08_Scaled.j0] at h, fun _ _ _ _ _ _ _ _ r h => by simp [oculusref08_Scaled.j1] at h, fun _ _ _ _ r h => by simp [oculusref08_Scaled.j2] at h⟩
  | k + 1 => by
    obtain ⟨ih0, ih1, ih2⟩ := oculusref08_Scaled.mono_l k
    refine ⟨?_, ?_, ?_⟩
    · intro y0 y1 y2 y3
      unfold oculusref08_Scaled.j0
      repeat' first
      | (with_reducible exact ih0 _ _ _ _)
      | (with_reducible exact ih1 _ _ _ _ _ _ _ _)
      | (with_reducible exact ih2 _ _ _ _)
      | (with_reducible exact oculusref08_Divide.mono _ _ _ _)
      | (with_reducible exact LeO.refl _)
      | (with_reducible exact LeO.none _)
      | (with_reducible refine LeO.ite ?_ ?_)
      | (with_reducible refine LeO.bind ?_ (fun _ => ?_))
      | exact ih0 _ _ _ _
      | exact ih1 _ _ _ _ _ _ _ _
      | exact ih2 _ _ _ _
      | exact oculusref08_Divide.mono _ _ _ _
      | exact LeO.none _
      | refine LeO.ite ?_ ?_
      | refine LeO.bind ?_ (fun _ => ?_)
    · intro y0 y1 y2 y3 y4 y5 y6 y7
      unfold oculusref08_Scaled.j1
      repeat' first
      | (with_reducible exact ih0 _ _ _ _)
      | (with_reducible exact ih1 _ _ _ _ _ _ _ _)
      | (with_reducible exact ih2 _ _ _ _)
      | (with_reducible exact oculusref08_Divide.mono _ _ _ _)
      | (with_reducible exact LeO.refl _)
      | (with_reducible exact LeO.none _)
      | (with_reducible refine LeO.ite ?_ ?_)
      | (with_reducible refine LeO.bind ?_ (fun _ => ?_))
      | exact ih0 _ _ _ _
      | exact ih1 _ _ _ _ _ _ _ _
      | exact ih2 _ _ _ _
      | exact oculusref08_Divide.mono _ _ _ _
      | exact LeO.none _
      | refine LeO.ite ?_ ?_
      | refine LeO.bind ?_ (fun _ => ?_)
    · intro y0 y1 y2 y3
      unfold oculusref08_Scaled.j2
      repeat' first
      | (with_reducible exact ih0 _ _ _ _)
      | (with_reducible exact ih1 _ _ _ _ _ _ _ _)
      | (with_reducible exact ih2 _ _ _ _)
      | (with_reducible exact oculusref08_Divide.mono _ _ _ _)
      | (with_reducible exact LeO.refl _)
      | (with_reducible exact LeO.none _)
      | (with_reducible refine LeO.ite ?_ ?_)
      | (with_reducible refine LeO.bind ?_ (fun _ => ?_))
      | exact ih0 _ _ _ _
      | exact ih1 _ _ _ _ _ _ _ _
      | exact ih2 _ _ _ _
      | exact oculusref08_Divide.mono _ _ _ _
      | exact LeO.none _
      | refine LeO.ite ?_ ?_
      | refine LeO.bind ?_ (fun _ => ?_)
theorem oculusref08_Scaled.mono : ∀ a0 a1 a2 k, LeO (oculusref08_Scaled.f k a0 a1 a2) (oculusref08_Scaled.f (k + 1) a0 a1 a2) := by
  intro a0 a1 a2 k
  obtain ⟨ih0, ih1, ih2⟩ := oculusref08_Scaled.mono_l k
  unfold oculusref08_Scaled.f
  repeat' first
      | (with_reducible exact ih0 _ _ _ _)
      | (with_reducible exact ih1 _ _ _ _ _ _ _ _)
      | (with_reducible exact ih2 _ _ _ _)
      | (with_reducible exact oculusref08_Divide.mono _ _ _ _)
      | (with_reducible exact LeO.refl _)
      | (with_reducible exact LeO.none _)
      | (with_reducible refine LeO.ite ?_ ?_)
      | (with_reducible refine LeO.bind ?_ (fun _ => ?_))
      | exact ih0 _ _ _ _
      | exact ih1 _ _ _ _ _ _ _ _
      | exact ih2 _ _ _ _
      | exact oculusref08_Divide.mono _ _ _ _
      | exact LeO.none _
      | refine LeO.ite ?_ ?_
      | refine LeO.bind ?_ (fun _ => ?_)
set_option maxHeartbeats 8000000 in
set_option maxRecDepth 100000 in
theorem oculusref08_Scaled.calls (k : Nat) (a0 : Int) (a1 : Int) (a2 : Int) (r1 : Int) (r2 : Bool) (w : World) (h : oculusref08_Scaled.f k a0 a1 a2 = some (r1, r2)) :
    Calls Try.prog 78 #[.int .i64 a0, .int .i64 a1, .int .i64 a2] w fun e w' => e = .returned (.agg #[.int .i64 r1, .bool r2]) ∧ Below w.heap.size w w' := by
  have hu30 := Try.underlying30
  have hu71 := Try.underlying71
  have HB := Aside0.mk (Below.refl w.heap.size w)
  have H := h
  (try unfold oculusref08_Scaled.f at H)
  clear h
  have HC4 := Aside0.mk H
  clear H
  go_enter Try.func78, Try.ntmps78
  go_upto_region 1 with (first | ((with_reducible refine gate_dst (N := 6) rfl ?_); refine box_event ?hg (N := 6) ?hd (cs := #[.int .i64 0, .bool false]) (t := 30) ?hr ?_; (case hd => rfl); (case hg => rfl); (case hr => first | (go_simp; done) | (go_simp; rfl)); intro gb221 hg w5 hbox hb; have n0_ := Aside0.mk (below_step (by repeat (first | (with_reducible first | exact HB.out | apply below_alloc | apply pw_below_drewN | apply below_drew1) | exact HB.out)) hb); have n1_ := Aside0.mk (hbox); have n2_ := Aside0.mk ((by rw [hg]; exact (below_size (by repeat (first | (with_reducible first | exact HB.out | apply below_alloc | apply pw_below_drewN | apply below_drew1) | exact HB.out))) : w.heap.size ≤ gb221)); have n3_ := Aside0.mk ((by rw [hg]; exact (below_size (by repeat (first | (with_reducible first | exact HB.out | apply below_alloc | apply pw_below_drewN | apply below_drew1) | exact HB.out))) : w.heap.size ≤ gb221)); clear HB; have HB := n0_; have BK221 := n1_; have GW221 := n2_; have GE221 := n3_; clear n0_ n1_ n2_ n3_; clear hb hbox hg))
  (try simp only [Act.put, List.setIfInBounds_toArray, List.set_cons_zero, List.set_cons_succ])
  go_cut [27] (fun v27 wc => ∃ (kq : Nat) (x27_3 : Bool), v27 = .bool x27_3 ∧ Aside0 (oculusref08_Scaled.j0 kq a0 a1 a2 x27_3 = some (r1, r2)) ∧ Aside0 (kq ≤ k) ∧ Aside0 (wc.heap[gb221]? = some (.cells #[.int .i64 0, .bool false] 30 (0, 0))) ∧ Aside0 (Below w.heap.size w wc))
  case first =>
    have H := HC4.out
    clear HC4
    replace H := Option.bind_eq_some_iff.mp H
    obtain ⟨t222, A60, H⟩ := H
    (try dsimp only at H)
    have A6 := Aside0.mk A60
    clear A60
    by_cases c7 : t222 = true
    · subst c7
      rw [if_pos rfl] at H
      replace H := Option.bind_eq_some_iff.mp H
      obtain ⟨t223, A80, H⟩ := H
      (try dsimp only at H)
      have A8 := Aside0.mk A80
      clear A80
      by_cases c9 : t223 = true
      · subst c9
        rw [if_pos rfl] at H
        replace H := Option.bind_eq_some_iff.mp H
        obtain ⟨t224, A100, H⟩ := H
        (try dsimp only at H)
        have A10 := Aside0.mk A100
        clear A100
        by_cases c11 : t224 = true
        · subst c11
          rw [if_pos rfl] at H
          have H' := Aside0.mk H
          clear H
          go_wp2_with (first | ((with_reducible refine gate_callee (f := 22) rfl ?_); refine goD (some 12) rfl Try.func22 (oculusref08_May.calls a0 true _ A6.out) ?_; intro nd) | (go_at_call 22; (with_reducible refine (oculusref08_May.calls a1 true _ A8.out).mono ?_); rintro e w' ⟨rfl, ⟨nd, rfl⟩⟩; (try clear A8)) | (go_at_call 22; (with_reducible refine (oculusref08_May.calls a2 true _ A10.out).mono ?_); rintro e w' ⟨rfl, ⟨nd, rfl⟩⟩; (try clear A10)))
          go_meet
          case rel => exact ⟨_, ((a2 == 0)), eqv, H', lev, ⟨by (with_reducible repeat (first | refine blk_drewN ?_ _ | refine blk_drew ?_ | refine blk_alloc ?_ _)); exact BK221.out⟩, ⟨by repeat (first | (with_reducible first | exact HB.out | apply below_alloc | apply pw_below_drewN | apply below_drew1 | refine below_set ?_ GE221.out) | exact HB.out)⟩⟩
        · replace c11 := Bool.eq_false_iff.mpr c11
          subst c11
          rw [if_neg (show ¬ (false = true) by decide)] at H
          have H' := Aside0.mk H
          clear H
          go_wp2_with (first | ((with_reducible refine gate_callee (f := 22) rfl ?_); refine goD (some 12) rfl Try.func22 (oculusref08_May.calls a0 true _ A6.out) ?_; intro nd) | (go_at_call 22; (with_reducible refine (oculusref08_May.calls a1 true _ A8.out).mono ?_); rintro e w' ⟨rfl, ⟨nd, rfl⟩⟩; (try clear A8)) | (go_at_call 22; (with_reducible refine (oculusref08_May.calls a2 false _ A10.out).mono ?_); rintro e w' ⟨rfl, ⟨nd, rfl⟩⟩; (try clear A10)))
          go_meet
          case rel => exact ⟨_, (true), eqv, H', lev, ⟨by (with_reducible repeat (first | refine blk_drewN ?_ _ | refine blk_drew ?_ | refine blk_alloc ?_ _)); exact BK221.out⟩, ⟨by repeat (first | (with_reducible first | exact HB.out | apply below_alloc | apply pw_below_drewN | apply below_drew1 | refine below_set ?_ GE221.out) | exact HB.out)⟩⟩
      · replace c9 := Bool.eq_false_iff.mpr c9
        subst c9
        rw [if_neg (show ¬ (false = true) by decide)] at H
        have H' := Aside0.mk H
        clear H
        go_wp2_with (first | ((with_reducible refine gate_callee (f := 22) rfl ?_); refine goD (some 12) rfl Try.func22 (oculusref08_May.calls a0 true _ A6.out) ?_; intro nd) | (go_at_call 22; (with_reducible refine (oculusref08_May.calls a1 false _ A8.out).mono ?_); rintro e w' ⟨rfl, ⟨nd, rfl⟩⟩; (try clear A8)))
        go_meet
        case rel => exact ⟨_, (true), eqv, H', lev, ⟨by (with_reducible repeat (first | refine blk_drewN ?_ _ | refine blk_drew ?_ | refine blk_alloc ?_ _)); exact BK221.out⟩, ⟨by repeat (first | (with_reducible first | exact HB.out | apply below_alloc | apply pw_below_drewN | apply below_drew1 | refine below_set ?_ GE221.out) | exact HB.out)⟩⟩
    · replace c7 := Bool.eq_false_iff.mpr c7
      subst c7
      rw [if_neg (show ¬ (false = true) by decide)] at H
      have H' := Aside0.mk H
      clear H
      go_wp2_with (first | ((with_reducible refine gate_callee (f := 22) rfl ?_); refine goD (some 12) rfl Try.func22 (oculusref08_May.calls a0 false _ A6.out) ?_; intro nd))
      go_meet
      case rel => exact ⟨_, (true), eqv, H', lev, ⟨by (with_reducible repeat (first | refine blk_drewN ?_ _ | refine blk_drew ?_ | refine blk_alloc ?_ _)); exact BK221.out⟩, ⟨by repeat (first | (with_reducible first | exact HB.out | apply below_alloc | apply pw_below_drewN | apply below_drew1 | refine below_set ?_ GE221.out) | exact HB.out)⟩⟩
  case rest =>
    clear HC4
    try clear c1
    try clear c2
    try clear p2
    try clear c7
    try clear c9
    try clear c11
    obtain ⟨kq, x27_3, rfl, HA, HJ3, BK221, HB⟩ := hcut
    cases kq with
    | zero => exact absurd HA.out (by simp [oculusref08_Scaled.j0])
    | succ kj3 =>
      have H := HA.out
      clear HA
      simp only [oculusref08_Scaled.j0] at H
      by_cases c12 : x27_3 = true
      · subst c12
        rw [if_pos rfl] at H
        simp only [Option.some.injEq, Prod.mk.injEq] at H
        obtain ⟨rfl, rfl⟩ := H
        have hcz13_0 : wc.cell? ⟨gb221, 0, none⟩ = some (.int .i64 0) := (blk_cell BK221.out 0).trans rfl
        have hcz13_1 : wc.cell? ⟨gb221, 1, none⟩ = some (.bool false) := (blk_cell BK221.out 1).trans rfl
        have hfz13_0 := blk_frozen BK221.out 0
        have hfz13_1 := blk_frozen BK221.out 1
        go_wp2
        refine bodyPost_ret (results_cell_row rfl _ _ gb221 30 #[.int .i64 0, .bool false] (0, 0) _ rfl (by (with_reducible repeat (first | refine blk_drewN ?_ _ | refine blk_drew ?_ | refine blk_alloc ?_ _)); refine blk_put (cs := #[.int .i64 0, .bool false]) ?_ 1 _ rfl; (with_reducible repeat (first | refine blk_drewN ?_ _ | refine blk_drew ?_ | refine blk_alloc ?_ _)); refine blk_put (cs := #[.int .i64 0, .bool false]) ?_ 0 _ rfl; (with_reducible repeat (first | refine blk_drewN ?_ _ | refine blk_drew ?_ | refine blk_alloc ?_ _)); exact BK221.out) Try.underlying30 rfl (by kernel_rfl)) rfl ?_
        exact ⟨by first | rfl | (simp [errW_none, errW_some] <;> rfl) | (simp [*, errW_none, errW_some] <;> rfl), by repeat (first | (with_reducible first | exact HB.out | apply below_alloc | apply pw_below_drewN | apply below_drew1 | refine below_set ?_ GE221.out) | exact HB.out)⟩
      · replace c12 := Bool.eq_false_iff.mpr c12
        subst c12
        rw [if_neg (show ¬ (false = true) by decide)] at H
        replace H := Option.bind_eq_some_iff.mp H
        obtain ⟨t225, A140, H⟩ := H
        (try dsimp only at H)
        have A14 := Aside0.mk A140
        clear A140
        replace H := Option.bind_eq_some_iff.mp H
        obtain ⟨t226, A150, H⟩ := H
        (try dsimp only at H)
        have A15 := Aside0.mk A150
        clear A150
        replace H := Option.bind_eq_some_iff.mp H
        obtain ⟨t227, A160, H⟩ := H
        (try dsimp only at H)
        have A16 := Aside0.mk A160
        clear A160
        replace H := Option.bind_eq_some_iff.mp H
        obtain ⟨⟨t228, t229⟩, A170, H⟩ := H
        (try dsimp only at H)
        have A17 := Aside0.mk A170
        clear A170
        replace H := Option.bind_eq_some_iff.mp H
        obtain ⟨⟨t230, t231, t232⟩, A180, H⟩ := H
        (try dsimp only at H)
        have A18 := Aside0.mk A180
        clear A180
        have HC19 := Aside0.mk H
        clear H
        go_upto_region 5 with (first | ((with_reducible refine gate_callee (f := 17) rfl ?_); refine goesL_ (some 30) rfl rfl Try.func17 (by kernel_rfl) rfl #[.int .i64 a2] rfl (by (try simp only [List.map_toArray, List.map_cons, List.map_nil]); first | done | rfl | (simp only [List.length_drop, List.length_take]; rfl)) ?_; (with_reducible refine (oculusref08_Abs.calls a2 t225 _ A14.out).mono ?_); rintro e w' ⟨rfl, ⟨nd, rfl⟩⟩; refine ⟨_, rfl, ?_⟩; (try (rw [drewN_self wc]; generalize hq_ : World.drewN wc _ = wc; have n0_ : Aside0 (wc.heap[gb221]? = some (.cells #[.int .i64 0, .bool false] 30 (0, 0))) := ⟨by rw [← hq_]; exact (by (with_reducible repeat (first | refine blk_drewN ?_ _ | refine blk_drew ?_ | refine blk_alloc ?_ _)); exact BK221.out)⟩; have n1_ : Aside0 (Below w.heap.size w wc) := ⟨by rw [← hq_]; exact (by repeat (first | (with_reducible first | exact HB.out | apply below_alloc | apply pw_below_drewN | apply below_drew1 | refine below_set ?_ GE221.out) | exact HB.out))⟩; clear BK221 HB hq_; have BK221 := n0_; have HB := n1_; clear n0_ n1_))) | ((with_reducible refine gate_callee (f := 17) rfl ?_); refine goesL_ (some 32) rfl rfl Try.func17 (by kernel_rfl) rfl #[.int .i64 a0] rfl (by (try simp only [List.map_toArray, List.map_cons, List.map_nil]); first | done | rfl | (simp only [List.length_drop, List.length_take]; rfl)) ?_; (with_reducible refine (oculusref08_Abs.calls a0 t226 _ A15.out).mono ?_); rintro e w' ⟨rfl, ⟨nd, rfl⟩⟩; refine ⟨_, rfl, ?_⟩; (try (rw [drewN_self wc]; generalize hq_ : World.drewN wc _ = wc; have n0_ : Aside0 (wc.heap[gb221]? = some (.cells #[.int .i64 0, .bool false] 30 (0, 0))) := ⟨by rw [← hq_]; exact (by (with_reducible repeat (first | refine blk_drewN ?_ _ | refine blk_drew ?_ | refine blk_alloc ?_ _)); exact BK221.out)⟩; have n1_ : Aside0 (Below w.heap.size w wc) := ⟨by rw [← hq_]; exact (by repeat (first | (with_reducible first | exact HB.out | apply below_alloc | apply pw_below_drewN | apply below_drew1 | refine below_set ?_ GE221.out) | exact HB.out))⟩; clear BK221 HB hq_; have BK221 := n0_; have HB := n1_; clear n0_ n1_))) | ((with_reducible refine gate_callee (f := 17) rfl ?_); refine goesL_ (some 34) rfl rfl Try.func17 (by kernel_rfl) rfl #[.int .i64 a1] rfl (by (try simp only [List.map_toArray, List.map_cons, List.map_nil]); first | done | rfl | (simp only [List.length_drop, List.length_take]; rfl)) ?_; (with_reducible refine (oculusref08_Abs.calls a1 t227 _ A16.out).mono ?_); rintro e w' ⟨rfl, ⟨nd, rfl⟩⟩; refine ⟨_, rfl, ?_⟩; (try (rw [drewN_self wc]; generalize hq_ : World.drewN wc _ = wc; have n0_ : Aside0 (wc.heap[gb221]? = some (.cells #[.int .i64 0, .bool false] 30 (0, 0))) := ⟨by rw [← hq_]; exact (by (with_reducible repeat (first | refine blk_drewN ?_ _ | refine blk_drew ?_ | refine blk_alloc ?_ _)); exact BK221.out)⟩; have n1_ : Aside0 (Below w.heap.size w wc) := ⟨by rw [← hq_]; exact (by repeat (first | (with_reducible first | exact HB.out | apply below_alloc | apply pw_below_drewN | apply below_drew1 | refine below_set ?_ GE221.out) | exact HB.out))⟩; clear BK221 HB hq_; have BK221 := n0_; have HB := n1_; clear n0_ n1_))) | ((with_reducible refine gate_callee (f := 41) rfl ?_); refine goesL_ (some 35) rfl rfl Try.func41 (by kernel_rfl) rfl #[.int .u64 t226, .int .u64 t227] rfl (by (try simp only [List.map_toArray, List.map_cons, List.map_nil]); first | done | rfl | (simp only [List.length_drop, List.length_take]; rfl)) ?_; (with_reducible refine (oculusref08_Times.calls t226 t227 t228 t229 _ A17.out).mono ?_); rintro e w20 ⟨rfl, hb⟩; refine ⟨_, rfl, ?_⟩; have n0_ := Aside0.mk (blk_below (g := gb221) (o := .cells #[.int .i64 0, .bool false] 30 (0, 0)) (by (with_reducible repeat (first | refine blk_drewN ?_ _ | refine blk_drew ?_ | refine blk_alloc ?_ _)); exact BK221.out) hb); have n1_ := Aside0.mk (below_step (by repeat (first | (with_reducible first | exact HB.out | apply below_alloc | apply pw_below_drewN | apply below_drew1 | refine below_set ?_ GE221.out) | exact HB.out)) hb); clear BK221; clear HB; have BK221 := n0_; have HB := n1_; clear n0_ n1_; (try clear hb); (try clear hb2); (try clear hk); (try clear hi)) | ((with_reducible refine gate_callee (f := 86) rfl ?_); refine goesL_ (some 37) rfl rfl Try.func86 (by kernel_rfl) rfl #[.agg #[.int .u64 t228, .int .u64 t229], .int .u64 t225] rfl (by (try simp only [List.map_toArray, List.map_cons, List.map_nil]); first | done | rfl | (simp only [List.length_drop, List.length_take]; rfl)) ?_; (with_reducible refine (oculusref08_Divide.calls kj3 t228 t229 t225 t230 t231 t232 _ A18.out).mono ?_); rintro e w21 ⟨rfl, hb⟩; refine ⟨_, rfl, ?_⟩; have n0_ := Aside0.mk (blk_below (g := gb221) (o := .cells #[.int .i64 0, .bool false] 30 (0, 0)) (by (with_reducible repeat (first | refine blk_drewN ?_ _ | refine blk_drew ?_ | refine blk_alloc ?_ _)); exact BK221.out) hb); have n1_ := Aside0.mk (below_step (by repeat (first | (with_reducible first | exact HB.out | apply below_alloc | apply pw_below_drewN | apply below_drew1 | refine below_set ?_ GE221.out) | exact HB.out)) hb); clear BK221; clear HB; have BK221 := n0_; have HB := n1_; clear n0_ n1_; (try clear hb); (try clear hb2); (try clear hk); (try clear hi)) | ((with_reducible refine gate_dst (N := 8) rfl ?_); refine box_event ?hg (N := 8) ?hd (cs := #[.int .u64 0, .int .u64 0, .bool false]) (t := 71) ?hr ?_; (case hd => rfl); (case hg => rfl); (case hr => first | (go_simp; done) | (go_simp; rfl)); intro gb233 hg w22 hbox hb; have n0_ := Aside0.mk (blk_below (g := gb221) (o := .cells #[.int .i64 0, .bool false] 30 (0, 0)) (by (with_reducible repeat (first | refine blk_drewN ?_ _ | refine blk_drew ?_ | refine blk_alloc ?_ _)); exact BK221.out) hb); have n1_ := Aside0.mk (below_step (by repeat (first | (with_reducible first | exact HB.out | apply below_alloc | apply pw_below_drewN | apply below_drew1 | refine below_set ?_ GE221.out) | exact HB.out)) hb); have n2_ := Aside0.mk (hbox); have n3_ := Aside0.mk ((by rw [hg]; exact (below_size (by repeat (first | (with_reducible first | exact HB.out | apply below_alloc | apply pw_below_drewN | apply below_drew1 | refine below_set ?_ GE221.out) | exact HB.out))) : w.heap.size ≤ gb233)); have n4_ := Aside0.mk ((by rw [hg]; exact (below_size (by repeat (first | (with_reducible first | exact HB.out | apply below_alloc | apply pw_below_drewN | apply below_drew1 | refine below_set ?_ GE221.out) | exact HB.out))) : w.heap.size ≤ gb233)); have n5_ := Aside0.mk ((by rw [hg]; exact Nat.ne_of_lt (blk_lt (g := gb221) (o := .cells #[.int .i64 0, .bool false] 30 (0, 0)) (by (with_reducible repeat (first | refine blk_drewN ?_ _ | refine blk_drew ?_ | refine blk_alloc ?_ _)); exact BK221.out)) : gb221 ≠ gb233)); have n6_ := Aside0.mk ((by rw [hg]; exact Nat.ne_of_gt (blk_lt (g := gb221) (o := .cells #[.int .i64 0, .bool false] 30 (0, 0)) (by (with_reducible repeat (first | refine blk_drewN ?_ _ | refine blk_drew ?_ | refine blk_alloc ?_ _)); exact BK221.out)) : gb233 ≠ gb221)); clear BK221; clear HB; have BK221 := n0_; have HB := n1_; have BK233 := n2_; have GW233 := n3_; have GE233 := n4_; have NB221_233 := n5_; have NB233_221 := n6_; clear n0_ n1_ n2_ n3_ n4_ n5_ n6_; clear hb hbox hg; have hnb23 := NB233_221.out; have hnc23 := NB221_233.out; have hcz24_0 : w22.cell? ⟨gb233, 0, none⟩ = some (.int .u64 0) := (blk_cell BK233.out 0).trans rfl; have hcz24_1 : w22.cell? ⟨gb233, 1, none⟩ = some (.int .u64 0) := (blk_cell BK233.out 1).trans rfl; have hcz24_2 : w22.cell? ⟨gb233, 2, none⟩ = some (.bool false) := (blk_cell BK233.out 2).trans rfl; have hfz24_0 := blk_frozen BK233.out 0; have hfz24_1 := blk_frozen BK233.out 1; have hfz24_2 := blk_frozen BK233.out 2))
        (try simp only [Act.put, List.setIfInBounds_toArray, List.set_cons_zero, List.set_cons_succ])
        go_cut [45] (fun v45 wc => ∃ (kq : Nat) (x45_18 : Bool), v45 = .bool x45_18 ∧ Aside0 (oculusref08_Scaled.j1 kq a0 a1 a2 t225 x45_18 t230 t231 t232 = some (r1, r2)) ∧ Aside0 (kq ≤ kj3) ∧ Aside0 (wc.heap[gb221]? = some (.cells #[.int .i64 0, .bool false] 30 (0, 0))) ∧ Aside0 (wc.heap[gb233]? = some (.cells #[.int .u64 t230, .int .u64 t231, .bool t232] 71 (0, 0))) ∧ Aside0 (Below w.heap.size w wc))
        case first =>
          have H := HC19.out
          clear HC19
          by_cases c25 : t232 = true
          · subst c25
            rw [if_pos rfl] at H
            have H' := Aside0.mk H
            clear H
            have hnb26 := NB233_221.out
            have hnc26 := NB221_233.out
            have hcz27_0 : w22.cell? ⟨gb233, 0, none⟩ = some (.int .u64 0) := (blk_cell BK233.out 0).trans rfl
            have hcz27_1 : w22.cell? ⟨gb233, 1, none⟩ = some (.int .u64 0) := (blk_cell BK233.out 1).trans rfl
            have hcz27_2 : w22.cell? ⟨gb233, 2, none⟩ = some (.bool false) := (blk_cell BK233.out 2).trans rfl
            have hfz27_0 := blk_frozen BK233.out 0
            have hfz27_1 := blk_frozen BK233.out 1
            have hfz27_2 := blk_frozen BK233.out 2
            go_wp2
            go_meet
            case rel => exact ⟨_, (decide (t230 > 9223372036854775807)), eqv, H', ⟨by have := HJ3.out; first | omega | exact Nat.le_refl _⟩, ⟨by (with_reducible repeat (first | refine blk_drewN ?_ _ | refine blk_drew ?_ | refine blk_alloc ?_ _)); refine blk_far ?_ NB221_233.out _; (with_reducible repeat (first | refine blk_drewN ?_ _ | refine blk_drew ?_ | refine blk_alloc ?_ _)); refine blk_far ?_ NB221_233.out _; (with_reducible repeat (first | refine blk_drewN ?_ _ | refine blk_drew ?_ | refine blk_alloc ?_ _)); refine blk_far ?_ NB221_233.out _; (with_reducible repeat (first | refine blk_drewN ?_ _ | refine blk_drew ?_ | refine blk_alloc ?_ _)); exact BK221.out⟩, ⟨by (with_reducible repeat (first | refine blk_drewN ?_ _ | refine blk_drew ?_ | refine blk_alloc ?_ _)); refine blk_put (cs := #[.int .u64 t230, .int .u64 t231, .bool false]) ?_ 2 _ rfl; (with_reducible repeat (first | refine blk_drewN ?_ _ | refine blk_drew ?_ | refine blk_alloc ?_ _)); refine blk_put (cs := #[.int .u64 t230, .int .u64 0, .bool false]) ?_ 1 _ rfl; (with_reducible repeat (first | refine blk_drewN ?_ _ | refine blk_drew ?_ | refine blk_alloc ?_ _)); refine blk_put (cs := #[.int .u64 0, .int .u64 0, .bool false]) ?_ 0 _ rfl; (with_reducible repeat (first | refine blk_drewN ?_ _ | refine blk_drew ?_ | refine blk_alloc ?_ _)); exact BK233.out⟩, ⟨by repeat (first | (with_reducible first | exact HB.out | apply below_alloc | apply pw_below_drewN | apply below_drew1 | refine below_set ?_ GE221.out | refine below_set ?_ GE233.out) | exact HB.out)⟩⟩
          · replace c25 := Bool.eq_false_iff.mpr c25
            subst c25
            rw [if_neg (show ¬ (false = true) by decide)] at H
            have H' := Aside0.mk H
            clear H
            have hnb28 := NB233_221.out
            have hnc28 := NB221_233.out
            have hcz29_0 : w22.cell? ⟨gb233, 0, none⟩ = some (.int .u64 0) := (blk_cell BK233.out 0).trans rfl
            have hcz29_1 : w22.cell? ⟨gb233, 1, none⟩ = some (.int .u64 0) := (blk_cell BK233.out 1).trans rfl
            have hcz29_2 : w22.cell? ⟨gb233, 2, none⟩ = some (.bool false) := (blk_cell BK233.out 2).trans rfl
            have hfz29_0 := blk_frozen BK233.out 0
            have hfz29_1 := blk_frozen BK233.out 1
            have hfz29_2 := blk_frozen BK233.out 2
            go_wp2
            go_meet
            case rel => exact ⟨_, (true), eqv, H', ⟨by have := HJ3.out; first | omega | exact Nat.le_refl _⟩, ⟨by (with_reducible repeat (first | refine blk_drewN ?_ _ | refine blk_drew ?_ | refine blk_alloc ?_ _)); refine blk_far ?_ NB221_233.out _; (with_reducible repeat (first | refine blk_drewN ?_ _ | refine blk_drew ?_ | refine blk_alloc ?_ _)); refine blk_far ?_ NB221_233.out _; (with_reducible repeat (first | refine blk_drewN ?_ _ | refine blk_drew ?_ | refine blk_alloc ?_ _)); refine blk_far ?_ NB221_233.out _; (with_reducible repeat (first | refine blk_drewN ?_ _ | refine blk_drew ?_ | refine blk_alloc ?_ _)); exact BK221.out⟩, ⟨by (with_reducible repeat (first | refine blk_drewN ?_ _ | refine blk_drew ?_ | refine blk_alloc ?_ _)); refine blk_put (cs := #[.int .u64 t230, .int .u64 t231, .bool false]) ?_ 2 _ rfl; (with_reducible repeat (first | refine blk_drewN ?_ _ | refine blk_drew ?_ | refine blk_alloc ?_ _)); refine blk_put (cs := #[.int .u64 t230, .int .u64 0, .bool false]) ?_ 1 _ rfl; (with_reducible repeat (first | refine blk_drewN ?_ _ | refine blk_drew ?_ | refine blk_alloc ?_ _)); refine blk_put (cs := #[.int .u64 0, .int .u64 0, .bool false]) ?_ 0 _ rfl; (with_reducible repeat (first | refine blk_drewN ?_ _ | refine blk_drew ?_ | refine blk_alloc ?_ _)); exact BK233.out⟩, ⟨by repeat (first | (with_reducible first | exact HB.out | apply below_alloc | apply pw_below_drewN | apply below_drew1 | refine below_set ?_ GE221.out | refine below_set ?_ GE233.out) | exact HB.out)⟩⟩
        case rest =>
          clear HC19
          try clear c1
          try clear c2
          try clear p2
          try clear c4
          try clear c7
          try clear c8
          try clear c9
          try clear c11
          try clear c12
          try clear c17
          try clear c22
          try clear c23
          try clear c25
          try clear c26
          try clear c28
          try clear hcz13_0
          try clear hcz13_1
          try clear hcz24_0
          try clear hcz24_1
          try clear hcz24_2
          try clear hcz27_0
          try clear hcz27_1
          try clear hcz27_2
          try clear hcz29_0
          try clear hcz29_1
          try clear hcz29_2
          try clear hfz13_0
          try clear hfz13_1
          try clear hfz24_0
          try clear hfz24_1
          try clear hfz24_2
          try clear hfz27_0
          try clear hfz27_1
          try clear hfz27_2
          try clear hfz29_0
          try clear hfz29_1
          try clear hfz29_2
          try clear p2
          obtain ⟨kq, x45_18, rfl, HA, HJ18, BK221, BK233, HB⟩ := hcut
          cases kq with
          | zero => exact absurd HA.out (by simp [oculusref08_Scaled.j1])
          | succ kj18 =>
            have H := HA.out
            clear HA
            simp only [oculusref08_Scaled.j1] at H
            by_cases c30 : x45_18 = true
            · subst c30
              rw [if_pos rfl] at H
              simp only [Option.some.injEq, Prod.mk.injEq] at H
              obtain ⟨rfl, rfl⟩ := H
              have hnb31 := NB221_233.out
              have hnc31 := NB233_221.out
              have hcz32_0 : wc.cell? ⟨gb221, 0, none⟩ = some (.int .i64 0) := (blk_cell BK221.out 0).trans rfl
              have hcz32_1 : wc.cell? ⟨gb221, 1, none⟩ = some (.bool false) := (blk_cell BK221.out 1).trans rfl
              have hfz32_0 := blk_frozen BK221.out 0
              have hfz32_1 := blk_frozen BK221.out 1
              go_wp2
              refine bodyPost_ret (results_cell_row rfl _ _ gb221 30 #[.int .i64 0, .bool false] (0, 0) _ rfl (by (with_reducible repeat (first | refine blk_drewN ?_ _ | refine blk_drew ?_ | refine blk_alloc ?_ _)); refine blk_put (cs := #[.int .i64 0, .bool false]) ?_ 1 _ rfl; (with_reducible repeat (first | refine blk_drewN ?_ _ | refine blk_drew ?_ | refine blk_alloc ?_ _)); refine blk_put (cs := #[.int .i64 0, .bool false]) ?_ 0 _ rfl; (with_reducible repeat (first | refine blk_drewN ?_ _ | refine blk_drew ?_ | refine blk_alloc ?_ _)); exact BK221.out) Try.underlying30 rfl (by kernel_rfl)) rfl ?_
              exact ⟨by first | rfl | (simp [errW_none, errW_some] <;> rfl) | (simp [*, errW_none, errW_some] <;> rfl), by repeat (first | (with_reducible first | exact HB.out | apply below_alloc | apply pw_below_drewN | apply below_drew1 | refine below_set ?_ GE221.out | refine below_set ?_ GE233.out) | exact HB.out)⟩
            · replace c30 := Bool.eq_false_iff.mpr c30
              subst c30
              rw [if_neg (show ¬ (false = true) by decide)] at H
              have HC33 := Aside0.mk H
              clear H
              have hnb34 := NB233_221.out
              have hnc34 := NB221_233.out
              have hcz35_0 : wc.cell? ⟨gb233, 0, none⟩ = some (.int .u64 t230) := (blk_cell BK233.out 0).trans rfl
              have hcz35_1 : wc.cell? ⟨gb233, 1, none⟩ = some (.int .u64 t231) := (blk_cell BK233.out 1).trans rfl
              have hcz35_2 : wc.cell? ⟨gb233, 2, none⟩ = some (.bool t232) := (blk_cell BK233.out 2).trans rfl
              have hfz35_0 := blk_frozen BK233.out 0
              have hfz35_1 := blk_frozen BK233.out 1
              have hfz35_2 := blk_frozen BK233.out 2
              go_upto_if 55 with (fail)
              go_cut [9] (fun v9 wc => ∃ (kq : Nat) (x9_32 : Int), v9 = .int .u64 x9_32 ∧ Aside0 (oculusref08_Scaled.j2 kq a0 a1 a2 x9_32 = some (r1, r2)) ∧ Aside0 (kq ≤ kj18) ∧ Aside0 (wc.heap[gb221]? = some (.cells #[.int .i64 0, .bool false] 30 (0, 0))) ∧ Aside0 (wc.heap[gb233]? = some (.cells #[.int .u64 t230, .int .u64 t231, .bool t232] 71 (0, 0))) ∧ Aside0 (Below w.heap.size w wc))
              case first =>
                have H := HC33.out
                clear HC33
                by_cases c36 : (IntKind.u64.wrap (t225 - t231)) ≤ t231
                · rw [if_pos c36] at H
                  have c36b0 : decide ((IntKind.u64.wrap (t225 - t231)) ≤ t231) = true := decide_eq_true c36
                  clear c36
                  (first | rw [c36b0] | (simp only [i64_w, i32_w]; rw [c36b0]) | skip)
                  have H' := Aside0.mk H
                  clear H
                  go_wp2
                  go_meet
                  case rel => exact ⟨_, (IntKind.u64.wrap (t230 + 1)), eqv, H', ⟨by have := HJ3.out; have := HJ18.out; first | omega | exact Nat.le_refl _⟩, ⟨by (with_reducible repeat (first | refine blk_drewN ?_ _ | refine blk_drew ?_ | refine blk_alloc ?_ _)); exact BK221.out⟩, ⟨by (with_reducible repeat (first | refine blk_drewN ?_ _ | refine blk_drew ?_ | refine blk_alloc ?_ _)); exact BK233.out⟩, ⟨by repeat (first | (with_reducible first | exact HB.out | apply below_alloc | apply pw_below_drewN | apply below_drew1 | refine below_set ?_ GE221.out | refine below_set ?_ GE233.out) | exact HB.out)⟩⟩
                · rw [if_neg c36] at H
                  have c36b0 : decide ((IntKind.u64.wrap (t225 - t231)) ≤ t231) = false := decide_eq_false c36
                  clear c36
                  (first | rw [c36b0] | (simp only [i64_w, i32_w]; rw [c36b0]) | skip)
                  have H' := Aside0.mk H
                  clear H
                  go_wp2
                  go_meet
                  case rel => exact ⟨_, (t230), eqv, H', ⟨by have := HJ3.out; have := HJ18.out; first | omega | exact Nat.le_refl _⟩, ⟨by (with_reducible repeat (first | refine blk_drewN ?_ _ | refine blk_drew ?_ | refine blk_alloc ?_ _)); exact BK221.out⟩, ⟨by (with_reducible repeat (first | refine blk_drewN ?_ _ | refine blk_drew ?_ | refine blk_alloc ?_ _)); exact BK233.out⟩, ⟨by repeat (first | (with_reducible first | exact HB.out | apply below_alloc | apply pw_below_drewN | apply below_drew1 | refine below_set ?_ GE221.out | refine below_set ?_ GE233.out) | exact HB.out)⟩⟩
              case rest =>
                clear HC33
                try clear c1
                try clear c2
                try clear p2
                try clear c3
                try clear c4
                try clear c7
                try clear c8
                try clear c9
                try clear c11
                try clear c12
                try clear c17
                try clear c22
                try clear c23
                try clear c25
                try clear c26
                try clear c28
                try clear c30
                try clear c31
                try clear c34
                try clear c36
                try clear c36b0
                try clear hcz13_0
                try clear hcz13_1
                try clear hcz24_0
                try clear hcz24_1
                try clear hcz24_2
                try clear hcz27_0
                try clear hcz27_1
                try clear hcz27_2
                try clear hcz29_0
                try clear hcz29_1
                try clear hcz29_2
                try clear hcz32_0
                try clear hcz32_1
                try clear hcz35_0
                try clear hcz35_1
                try clear hcz35_2
                try clear hfz13_0
                try clear hfz13_1
                try clear hfz24_0
                try clear hfz24_1
                try clear hfz24_2
                try clear hfz27_0
                try clear hfz27_1
                try clear hfz27_2
                try clear hfz29_0
                try clear hfz29_1
                try clear hfz29_2
                try clear hfz32_0
                try clear hfz32_1
                try clear hfz35_0
                try clear hfz35_1
                try clear hfz35_2
                try clear p2
                obtain ⟨kq, x9_32, rfl, HA, HJ32, BK221, BK233, HB⟩ := hcut
                cases kq with
                | zero => exact absurd HA.out (by simp [oculusref08_Scaled.j2])
                | succ kj32 =>
                  have H := HA.out
                  clear HA
                  simp only [oculusref08_Scaled.j2] at H
                  by_cases c37 : x9_32 > 9223372036854775807
                  · rw [if_pos c37] at H
                    have c37b0 : decide (9223372036854775807 < x9_32) = true := decide_eq_true c37
                    clear c37
                    simp only [Option.some.injEq, Prod.mk.injEq] at H
                    obtain ⟨rfl, rfl⟩ := H
                    have hnb38 := NB221_233.out
                    have hnc38 := NB233_221.out
                    have hcz39_0 : wc.cell? ⟨gb221, 0, none⟩ = some (.int .i64 0) := (blk_cell BK221.out 0).trans rfl
                    have hcz39_1 : wc.cell? ⟨gb221, 1, none⟩ = some (.bool false) := (blk_cell BK221.out 1).trans rfl
                    have hfz39_0 := blk_frozen BK221.out 0
                    have hfz39_1 := blk_frozen BK221.out 1
                    go_wp2
                    refine bodyPost_ret (results_cell_row rfl _ _ gb221 30 #[.int .i64 0, .bool false] (0, 0) _ rfl (by (with_reducible repeat (first | refine blk_drewN ?_ _ | refine blk_drew ?_ | refine blk_alloc ?_ _)); refine blk_put (cs := #[.int .i64 0, .bool false]) ?_ 1 _ rfl; (with_reducible repeat (first | refine blk_drewN ?_ _ | refine blk_drew ?_ | refine blk_alloc ?_ _)); refine blk_put (cs := #[.int .i64 0, .bool false]) ?_ 0 _ rfl; (with_reducible repeat (first | refine blk_drewN ?_ _ | refine blk_drew ?_ | refine blk_alloc ?_ _)); exact BK221.out) Try.underlying30 rfl (by kernel_rfl)) rfl ?_
                    exact ⟨by first | rfl | (simp [errW_none, errW_some] <;> rfl) | (simp [*, errW_none, errW_some] <;> rfl), by repeat (first | (with_reducible first | exact HB.out | apply below_alloc | apply pw_below_drewN | apply below_drew1 | refine below_set ?_ GE221.out | refine below_set ?_ GE233.out) | exact HB.out)⟩
                  · rw [if_neg c37] at H
                    have c37b0 : decide (9223372036854775807 < x9_32) = false := decide_eq_false c37
                    clear c37
                    by_cases c40 : ((decide (a0 < 0)) != (decide (a1 < 0))) = true
                    · rw [if_pos c40] at H
                      have c40b0 : ((decide (a0 < 0)) != (decide (a1 < 0))) = true := c40
                      (try (have c40b1 : decide ((decide (a0 < 0)) = (decide (a1 < 0))) = false := by simpa using c40))
                      (try (have c40b2 : ((decide (a0 < 0)) == (decide (a1 < 0))) = false := by simpa using c40))
                      (try (have c40b3 : ¬ ((decide (a0 < 0)) = (decide (a1 < 0))) := by simpa using c40))
                      clear c40
                      by_cases c41 : a2 < 0
                      · rw [if_pos c41] at H
                        have c41b0 : decide (a2 < 0) = true := decide_eq_true c41
                        clear c41
                        simp only [Option.some.injEq, Prod.mk.injEq] at H
                        obtain ⟨rfl, rfl⟩ := H
                        have hnb42 := NB221_233.out
                        have hnc42 := NB233_221.out
                        have hcz43_0 : wc.cell? ⟨gb221, 0, none⟩ = some (.int .i64 0) := (blk_cell BK221.out 0).trans rfl
                        have hcz43_1 : wc.cell? ⟨gb221, 1, none⟩ = some (.bool false) := (blk_cell BK221.out 1).trans rfl
                        have hfz43_0 := blk_frozen BK221.out 0
                        have hfz43_1 := blk_frozen BK221.out 1
                        go_wp2
                        refine bodyPost_ret (results_cell_row rfl _ _ gb221 30 #[.int .i64 (wrap64 (-(wrap64 (-(wrap64 (x9_32)))))), .bool true] (0, 0) _ rfl (by (with_reducible repeat (first | refine blk_drewN ?_ _ | refine blk_drew ?_ | refine blk_alloc ?_ _)); refine blk_put (cs := #[.int .i64 (wrap64 (-(wrap64 (-(wrap64 (x9_32)))))), .bool false]) ?_ 1 _ rfl; (with_reducible repeat (first | refine blk_drewN ?_ _ | refine blk_drew ?_ | refine blk_alloc ?_ _)); refine blk_put (cs := #[.int .i64 0, .bool false]) ?_ 0 _ rfl; (with_reducible repeat (first | refine blk_drewN ?_ _ | refine blk_drew ?_ | refine blk_alloc ?_ _)); exact BK221.out) Try.underlying30 rfl (by kernel_rfl)) rfl ?_
                        exact ⟨by first | rfl | (simp [errW_none, errW_some] <;> rfl) | (simp [*, errW_none, errW_some] <;> rfl), by repeat (first | (with_reducible first | exact HB.out | apply below_alloc | apply pw_below_drewN | apply below_drew1 | refine below_set ?_ GE221.out | refine below_set ?_ GE233.out) | exact HB.out)⟩
                      · rw [if_neg c41] at H
                        have c41b0 : decide (a2 < 0) = false := decide_eq_false c41
                        clear c41
                        simp only [Option.some.injEq, Prod.mk.injEq] at H
                        obtain ⟨rfl, rfl⟩ := H
                        have hnb44 := NB221_233.out
                        have hnc44 := NB233_221.out
                        have hcz45_0 : wc.cell? ⟨gb221, 0, none⟩ = some (.int .i64 0) := (blk_cell BK221.out 0).trans rfl
                        have hcz45_1 : wc.cell? ⟨gb221, 1, none⟩ = some (.bool false) := (blk_cell BK221.out 1).trans rfl
                        have hfz45_0 := blk_frozen BK221.out 0
                        have hfz45_1 := blk_frozen BK221.out 1
                        go_wp2
                        refine bodyPost_ret (results_cell_row rfl _ _ gb221 30 #[.int .i64 (wrap64 (-(wrap64 (x9_32)))), .bool true] (0, 0) _ rfl (by (with_reducible repeat (first | refine blk_drewN ?_ _ | refine blk_drew ?_ | refine blk_alloc ?_ _)); refine blk_put (cs := #[.int .i64 (wrap64 (-(wrap64 (x9_32)))), .bool false]) ?_ 1 _ rfl; (with_reducible repeat (first | refine blk_drewN ?_ _ | refine blk_drew ?_ | refine blk_alloc ?_ _)); refine blk_put (cs := #[.int .i64 0, .bool false]) ?_ 0 _ rfl; (with_reducible repeat (first | refine blk_drewN ?_ _ | refine blk_drew ?_ | refine blk_alloc ?_ _)); exact BK221.out) Try.underlying30 rfl (by kernel_rfl)) rfl ?_
                        exact ⟨by first | rfl | (simp [errW_none, errW_some] <;> rfl) | (simp [*, errW_none, errW_some] <;> rfl), by repeat (first | (with_reducible first | exact HB.out | apply below_alloc | apply pw_below_drewN | apply below_drew1 | refine below_set ?_ GE221.out | refine below_set ?_ GE233.out) | exact HB.out)⟩
                    · rw [if_neg c40] at H
                      have c40b0 : ((decide (a0 < 0)) != (decide (a1 < 0))) = false := by simpa using c40
                      (try (have c40b1 : decide ((decide (a0 < 0)) = (decide (a1 < 0))) = true := by simpa using c40))
                      (try (have c40b2 : ((decide (a0 < 0)) == (decide (a1 < 0))) = true := by simpa using c40))
                      clear c40
                      by_cases c46 : a2 < 0
                      · rw [if_pos c46] at H
                        have c46b0 : decide (a2 < 0) = true := decide_eq_true c46
                        clear c46
                        simp only [Option.some.injEq, Prod.mk.injEq] at H
                        obtain ⟨rfl, rfl⟩ := H
                        have hnb47 := NB221_233.out
                        have hnc47 := NB233_221.out
                        have hcz48_0 : wc.cell? ⟨gb221, 0, none⟩ = some (.int .i64 0) := (blk_cell BK221.out 0).trans rfl
                        have hcz48_1 : wc.cell? ⟨gb221, 1, none⟩ = some (.bool false) := (blk_cell BK221.out 1).trans rfl
                        have hfz48_0 := blk_frozen BK221.out 0
                        have hfz48_1 := blk_frozen BK221.out 1
                        go_wp2
                        refine bodyPost_ret (results_cell_row rfl _ _ gb221 30 #[.int .i64 (wrap64 (-(wrap64 (x9_32)))), .bool true] (0, 0) _ rfl (by (with_reducible repeat (first | refine blk_drewN ?_ _ | refine blk_drew ?_ | refine blk_alloc ?_ _)); refine blk_put (cs := #[.int .i64 (wrap64 (-(wrap64 (x9_32)))), .bool false]) ?_ 1 _ rfl; (with_reducible repeat (first | refine blk_drewN ?_ _ | refine blk_drew ?_ | refine blk_alloc ?_ _)); refine blk_put (cs := #[.int .i64 0, .bool false]) ?_ 0 _ rfl; (with_reducible repeat (first | refine blk_drewN ?_ _ | refine blk_drew ?_ | refine blk_alloc ?_ _)); exact BK221.out) Try.underlying30 rfl (by kernel_rfl)) rfl ?_
                        exact ⟨by first | rfl | (simp [errW_none, errW_some] <;> rfl) | (simp [*, errW_none, errW_some] <;> rfl), by repeat (first | (with_reducible first | exact HB.out | apply below_alloc | apply pw_below_drewN | apply below_drew1 | refine below_set ?_ GE221.out | refine below_set ?_ GE233.out) | exact HB.out)⟩
                      · rw [if_neg c46] at H
                        have c46b0 : decide (a2 < 0) = false := decide_eq_false c46
                        clear c46
                        simp only [Option.some.injEq, Prod.mk.injEq] at H
                        obtain ⟨rfl, rfl⟩ := H
                        have hnb49 := NB221_233.out
                        have hnc49 := NB233_221.out
                        have hcz50_0 : wc.cell? ⟨gb221, 0, none⟩ = some (.int .i64 0) := (blk_cell BK221.out 0).trans rfl
                        have hcz50_1 : wc.cell? ⟨gb221, 1, none⟩ = some (.bool false) := (blk_cell BK221.out 1).trans rfl
                        have hfz50_0 := blk_frozen BK221.out 0
                        have hfz50_1 := blk_frozen BK221.out 1
                        go_wp2
                        refine bodyPost_ret (results_cell_row rfl _ _ gb221 30 #[.int .i64 (wrap64 (x9_32)), .bool true] (0, 0) _ rfl (by (with_reducible repeat (first | refine blk_drewN ?_ _ | refine blk_drew ?_ | refine blk_alloc ?_ _)); refine blk_put (cs := #[.int .i64 (wrap64 (x9_32)), .bool false]) ?_ 1 _ rfl; (with_reducible repeat (first | refine blk_drewN ?_ _ | refine blk_drew ?_ | refine blk_alloc ?_ _)); refine blk_put (cs := #[.int .i64 0, .bool false]) ?_ 0 _ rfl; (with_reducible repeat (first | refine blk_drewN ?_ _ | refine blk_drew ?_ | refine blk_alloc ?_ _)); exact BK221.out) Try.underlying30 rfl (by kernel_rfl)) rfl ?_
                        exact ⟨by first | rfl | (simp [errW_none, errW_some] <;> rfl) | (simp [*, errW_none, errW_some] <;> rfl), by repeat (first | (with_reducible first | exact HB.out | apply below_alloc | apply pw_below_drewN | apply below_drew1 | refine below_set ?_ GE221.out | refine below_set ?_ GE233.out) | exact HB.out)⟩
end Go.Proofs.Ytmagefemmhfkaaa.PA

namespace Go.Proofs.Ytmagefemmhfkaaa.PA
open Go.RowKit Go.Proofs.YtmagefemmhfkaaaW.PrintWords Go.Proofs.YtmagefemmhfkaaaW.PrintLast Go.Proofs.YtmagefemmhfkaaaW.PrintMore
attribute [local go_sem] max2_int min2_int max_two min_two max_three min_three max_four min_four
set_option linter.unusedVariables false
set_option linter.unusedSimpArgs false
def dec_Div.f (k : Nat) (a0 : Int) (a1 : Int) : Option (Int × Bool) := (dec_Scaled.f k a0 10000 a1).bind fun bt123 => (some (bt123.1, bt123.2))
theorem dec_Div.mono : ∀ a0 a1 k, LeO (dec_Div.f k a0 a1) (dec_Div.f (k + 1) a0 a1) := by
  intro a0 a1 k
  unfold dec_Div.f
  repeat' first
      | (with_reducible exact dec_Scaled.mono _ _ _ _)
      | (with_reducible exact LeO.refl _)
      | (with_reducible exact LeO.none _)
      | (with_reducible refine LeO.ite ?_ ?_)
      | (with_reducible refine LeO.bind ?_ (fun _ => ?_))
      | exact dec_Scaled.mono _ _ _ _
      | exact LeO.none _
      | refine LeO.ite ?_ ?_
      | refine LeO.bind ?_ (fun _ => ?_)
set_option maxHeartbeats 8000000 in
set_option maxRecDepth 100000 in
theorem dec_Div.calls (k : Nat) (a0 : Int) (a1 : Int) (r1 : Int) (r2 : Bool) (w : World) (h : dec_Div.f k a0 a1 = some (r1, r2)) :
    Calls Try.prog 70 #[.int .i64 a0, .int .i64 a1] w fun e w' => e = .returned (.tuple #[.int .i64 r1, .bool r2]) ∧ Drawn0 w w' := by
  have H := h
  (try unfold dec_Div.f at H)
  clear h
  replace H := Option.bind_eq_some_iff.mp H
  obtain ⟨⟨t123, t124⟩, A30, H⟩ := H
  (try dsimp only at H)
  have A3 := Aside0.mk A30
  clear A30
  simp only [Option.some.injEq, Prod.mk.injEq] at H
  obtain ⟨rfl, rfl⟩ := H
  go_enter Try.func70, Try.ntmps70
  go_wp2_with (first | ((with_reducible refine gate_callee (f := 77) rfl ?_); refine goD (some 8) rfl Try.func77 (dec_Scaled.calls k a0 10000 a1 t123 t124 _ A3.out) ?_; intro nd))
  go_ret2
  exact fin0
def oculuslaw08_alive.f (k : Nat)  : Option (Bool) := (dec_Mul.f k (-15) 5000).bind fun bt125 => ((dec_Add.f 9223372036854775807 1).bind fun bt127 => ((dec_Div.f k 10000 30000).bind fun bt129 => (if bt125.2 = true then (if bt125.1 = (-8) then (if bt127.2 = true then (none) else (if bt129.2 = true then (if bt129.1 = 3333 then ((dec_Units.f (-19999)).bind fun t131 => (if t131 = (-1) then ((dec_Whole.f 20000).bind fun t132 => (if t132 = true then ((dec_Whole.f 1).bind fun t133 => (some (!t133))) else (none))) else (none))) else (none)) else (none))) else (none)) else (none))))
theorem oculuslaw08_alive.mono : ∀ k, LeO (oculuslaw08_alive.f k ) (oculuslaw08_alive.f (k + 1) ) := by
  intro  k
  unfold oculuslaw08_alive.f
  repeat' first
      | (with_reducible exact dec_Div.mono _ _ _)
      | (with_reducible exact dec_Mul.mono _ _ _)
      | (with_reducible exact LeO.refl _)
      | (with_reducible exact LeO.none _)
      | (with_reducible refine LeO.ite ?_ ?_)
      | (with_reducible refine LeO.bind ?_ (fun _ => ?_))
      | exact dec_Div.mono _ _ _
      | exact dec_Mul.mono _ _ _
      | exact LeO.none _
      | refine LeO.ite ?_ ?_
      | refine LeO.bind ?_ (fun _ => ?_)
set_option maxHeartbeats 8000000 in
set_option maxRecDepth 100000 in
theorem oculuslaw08_alive.calls (k : Nat)  (r : Bool) (w : World) (h : oculuslaw08_alive.f k  = some r) :
    Calls Try.prog 25 #[] w fun e w' => e = .returned (.bool r) ∧ Drawn0 w w' := by
  have H := h
  (try unfold oculuslaw08_alive.f at H)
  clear h
  replace H := Option.bind_eq_some_iff.mp H
  obtain ⟨⟨t125, t126⟩, A10, H⟩ := H
  (try dsimp only at H)
  have A1 := Aside0.mk A10
  clear A10
  replace H := Option.bind_eq_some_iff.mp H
  obtain ⟨⟨t127, t128⟩, A20, H⟩ := H
  (try dsimp only at H)
  have A2 := Aside0.mk A20
  clear A20
  replace H := Option.bind_eq_some_iff.mp H
  obtain ⟨⟨t129, t130⟩, A30, H⟩ := H
  (try dsimp only at H)
  have A3 := Aside0.mk A30
  clear A30
  by_cases c4 : t126 = true
  · subst c4
    rw [if_pos rfl] at H
    by_cases c5 : t125 = (-8)
    · rw [if_pos c5] at H
      have c5b0 : (t125 == (-8)) = true := beq_iff_eq.mpr c5
      have c5b1 : (t125 != (-8)) = false := bne_eq_false_iff_eq.mpr c5
      clear c5
      by_cases c6 : t128 = true
      · subst c6
        rw [if_pos rfl] at H
        exact absurd H (by simp)
      · replace c6 := Bool.eq_false_iff.mpr c6
        subst c6
        rw [if_neg (show ¬ (false = true) by decide)] at H
        by_cases c7 : t130 = true
        · subst c7
          rw [if_pos rfl] at H
          by_cases c8 : t129 = 3333
          · rw [if_pos c8] at H
            have c8b0 : (t129 == 3333) = true := beq_iff_eq.mpr c8
            have c8b1 : (t129 != 3333) = false := bne_eq_false_iff_eq.mpr c8
            clear c8
            replace H := Option.bind_eq_some_iff.mp H
            obtain ⟨t131, A90, H⟩ := H
            (try dsimp only at H)
            have A9 := Aside0.mk A90
            clear A90
            by_cases c10 : t131 = (-1)
            · rw [if_pos c10] at H
              have c10b0 : (t131 == (-1)) = true := beq_iff_eq.mpr c10
              have c10b1 : (t131 != (-1)) = false := bne_eq_false_iff_eq.mpr c10
              clear c10
              replace H := Option.bind_eq_some_iff.mp H
              obtain ⟨t132, A110, H⟩ := H
              (try dsimp only at H)
              have A11 := Aside0.mk A110
              clear A110
              by_cases c12 : t132 = true
              · subst c12
                rw [if_pos rfl] at H
                replace H := Option.bind_eq_some_iff.mp H
                obtain ⟨t133, A130, H⟩ := H
                (try dsimp only at H)
                have A13 := Aside0.mk A130
                clear A130
                obtain rfl := Option.some.inj H
                go_enter Try.func25, Try.ntmps25
                go_wp2_with (first | ((with_reducible refine gate_callee (f := 69) rfl ?_); refine goD (some 8) rfl Try.func69 (dec_Mul.calls k (-15) 5000 t125 true _ A1.out) ?_; intro nd) | ((with_reducible refine gate_callee (f := 27) rfl ?_); refine goD (some 12) rfl Try.func27 (dec_Add.calls 9223372036854775807 1 t127 false _ A2.out) ?_; intro nd) | ((with_reducible refine gate_callee (f := 70) rfl ?_); refine goD (some 16) rfl Try.func70 (dec_Div.calls k 10000 30000 t129 true _ A3.out) ?_; intro nd) | (go_at_call 23; (with_reducible refine (dec_Units.calls (-19999) t131 _ A9.out).mono ?_); rintro e w' ⟨rfl, ⟨nd, rfl⟩⟩; (try clear A9)) | (go_at_call 24; (with_reducible refine (dec_Whole.calls 20000 true _ A11.out).mono ?_); rintro e w' ⟨rfl, ⟨nd, rfl⟩⟩; (try clear A11)) | (go_at_call 24; (with_reducible refine (dec_Whole.calls 1 t133 _ A13.out).mono ?_); rintro e w' ⟨rfl, ⟨nd, rfl⟩⟩; (try clear A13)))
                go_ret
                exact fin0
              · replace c12 := Bool.eq_false_iff.mpr c12
                subst c12
                rw [if_neg (show ¬ (false = true) by decide)] at H
                exact absurd H (by simp)
            · rw [if_neg c10] at H
              exact absurd H (by simp)
          · rw [if_neg c8] at H
            exact absurd H (by simp)
        · replace c7 := Bool.eq_false_iff.mpr c7
          subst c7
          rw [if_neg (show ¬ (false = true) by decide)] at H
          exact absurd H (by simp)
    · rw [if_neg c5] at H
      exact absurd H (by simp)
  · replace c4 := Bool.eq_false_iff.mpr c4
    subst c4
    rw [if_neg (show ¬ (false = true) by decide)] at H
    exact absurd H (by simp)
end Go.Proofs.Ytmagefemmhfkaaa.PA
