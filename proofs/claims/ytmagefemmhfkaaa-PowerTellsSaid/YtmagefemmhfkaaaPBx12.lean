-- PRINTED for this claim by wip/xprint.py (a program of this session's over the kit's print). Lean checks it.
import Derived.Test.YtmagefemmhfkaaaPBx0
import Derived.Test.YtmagefemmhfkaaaPBx2
import Derived.Test.YtmagefemmhfkaaaPBx8
import Derived.Test.YtmagefemmhfkaaaPBx11
namespace Go.Proofs.Ytmagefemmhfkaaa.PA
open Go.RowKit Go.Proofs.YtmagefemmhfkaaaW.PrintWords Go.Proofs.YtmagefemmhfkaaaW.PrintLast Go.Proofs.YtmagefemmhfkaaaW.PrintMore
attribute [local go_sem] max2_int min2_int max_two min_two max_three min_three max_four min_four   -- for this text's walks alone
set_option linter.unusedVariables false
set_option linter.unusedSimpArgs false

/-! ### round_Odd: function 51 -/
def round_Odd.j0 : Nat → Int → Int → Option (Int × Bool)
  | 0, _, _ => none
  | k + 1, x0, x4 => (dec_Sub.f x0 x4).bind fun bt183 => (if bt183.2 = true then ((dec_Sign.f bt183.1).bind fun t185 => ((dec_Sign.f x4).bind fun t186 => (if (wrap64 (t185 * t186)) < 0 then (some (x4, true)) else ((round_Even.f k bt183.1).bind fun bt187 => (if bt187.2 = true then ((dec_Add.f bt187.1 x4).bind fun bt189 => (some (bt189.1, bt189.2))) else (some (0, false))))))) else (some (0, false)))
def round_Odd.f (k : Nat) (a0 : Int) : Option (Int × Bool) := if a0 < 0 then (round_Odd.j0 k a0 (-10000)) else (round_Odd.j0 k a0 10000)
theorem round_Odd.mono_l : ∀ k, (∀ y0 y1, LeO (round_Odd.j0 k y0 y1) (round_Odd.j0 (k + 1) y0 y1))
  | 0 => fun _ _ r h => by simp [round_Odd.j0] at h
  | k + 1 => by
    have ih0 := round_Odd.mono_l k
    · intro y0 y1
      unfold round_Odd.j0
      repeat' first
      | (with_reducible exact ih0 _ _)
      | (with_reducible exact round_Even.mono _ _)
      | (with_reducible exact LeO.refl _)
      | (with_reducible exact LeO.none _)
      | (with_reducible refine LeO.ite ?_ ?_)
      | (with_reducible refine LeO.bind ?_ (fun _ => ?_))
      | exact ih0 _ _
      | exact round_Even.mono _ _
      | exact LeO.none _
      | refine LeO.ite ?_ ?_
      | refine LeO.bind ?_ (fun _ => ?_)
theorem round_Odd.mono : ∀ a0 k, LeO (round_Odd.f k a0) (round_Odd.f (k + 1) a0) := by
  intro a0 k
  have ih0 := round_Odd.mono_l k
  unfold round_Odd.f
  repeat' first
      | (with_reducible exact ih0 _ _)
      | (with_reducible exact round_Even.mono _ _)
      | (with_reducible exact LeO.refl _)
      | (with_reducible exact LeO.none _)
      | (with_reducible refine LeO.ite ?_ ?_)
      | (with_reducible refine LeO.bind ?_ (fun _ => ?_))
      | exact ih0 _ _
      | exact round_Even.mono _ _
      | exact LeO.none _
      | refine LeO.ite ?_ ?_
      | refine LeO.bind ?_ (fun _ => ?_)
set_option maxHeartbeats 8000000 in
set_option maxRecDepth 100000 in
theorem round_Odd.calls (k : Nat) (a0 : Int) (r1 : Int) (r2 : Bool) (w : World) (h : round_Odd.f k a0 = some (r1, r2)) :
    Calls Try.prog 51 #[.int .i64 a0] w fun e w' => e = .returned (.tuple #[.int .i64 r1, .bool r2]) ∧ Below w.heap.size w w' := by
  have HB := Aside0.mk (Below.refl w.heap.size w)
  have H := h
  (try unfold round_Odd.f at H)
  clear h
  have HC2 := Aside0.mk H
  clear H
  go_enter Try.func51, Try.ntmps51
  go_upto_if 10 with (fail)
  go_cut [4] (fun v4 wc => ∃ (kq : Nat) (x4_1 : Int), v4 = .int .i64 x4_1 ∧ Aside0 (round_Odd.j0 kq a0 x4_1 = some (r1, r2)) ∧ Aside0 (kq ≤ k) ∧ Aside0 (Below w.heap.size w wc))
  case first =>
    have H := HC2.out
    clear HC2
    by_cases c3 : a0 < 0
    · rw [if_pos c3] at H
      have c3b0 : decide (a0 < 0) = true := decide_eq_true c3
      clear c3
      (first | rw [c3b0] | (simp only [i64_w, i32_w]; rw [c3b0]) | skip)
      have H' := Aside0.mk H
      clear H
      go_wp2
      go_meet
      case rel => exact ⟨_, (-10000), eqv, H', lev, blv⟩
    · rw [if_neg c3] at H
      have c3b0 : decide (a0 < 0) = false := decide_eq_false c3
      clear c3
      (first | rw [c3b0] | (simp only [i64_w, i32_w]; rw [c3b0]) | skip)
      have H' := Aside0.mk H
      clear H
      go_wp2
      go_meet
      case rel => exact ⟨_, (10000), eqv, H', lev, blv⟩
  case rest =>
    clear HC2
    try clear p2
    try clear c3
    try clear c3b0
    obtain ⟨kq, x4_1, rfl, HA, HJ1, HB⟩ := hcut
    cases kq with
    | zero => exact absurd HA.out (by simp [round_Odd.j0])
    | succ kj1 =>
      have H := HA.out
      clear HA
      simp only [round_Odd.j0] at H
      replace H := Option.bind_eq_some_iff.mp H
      obtain ⟨⟨t183, t184⟩, A40, H⟩ := H
      (try dsimp only at H)
      have A4 := Aside0.mk A40
      clear A40
      by_cases c5 : t184 = true
      · subst c5
        rw [if_pos rfl] at H
        replace H := Option.bind_eq_some_iff.mp H
        obtain ⟨t185, A60, H⟩ := H
        (try dsimp only at H)
        have A6 := Aside0.mk A60
        clear A60
        replace H := Option.bind_eq_some_iff.mp H
        obtain ⟨t186, A70, H⟩ := H
        (try dsimp only at H)
        have A7 := Aside0.mk A70
        clear A70
        by_cases c8 : (wrap64 (t185 * t186)) < 0
        · rw [if_pos c8] at H
          have c8b0 : decide ((wrap64 (t185 * t186)) < 0) = true := decide_eq_true c8
          clear c8
          simp only [Option.some.injEq, Prod.mk.injEq] at H
          obtain ⟨rfl, rfl⟩ := H
          go_wp2_with (first | ((with_reducible refine gate_callee (f := 29) rfl ?_); refine goD (some 16) rfl Try.func29 (dec_Sub.calls a0 x4_1 t183 true _ A4.out) ?_; intro nd) | ((with_reducible refine gate_callee (f := 26) rfl ?_); refine goD (some 22) rfl Try.func26 (dec_Sign.calls t183 t185 _ A6.out) ?_; intro nd) | ((with_reducible refine gate_callee (f := 26) rfl ?_); refine goD (some 24) rfl Try.func26 (dec_Sign.calls x4_1 t186 _ A7.out) ?_; intro nd))
          go_ret2
          exact finB
        · rw [if_neg c8] at H
          have c8b0 : decide ((wrap64 (t185 * t186)) < 0) = false := decide_eq_false c8
          clear c8
          replace H := Option.bind_eq_some_iff.mp H
          obtain ⟨⟨t187, t188⟩, A90, H⟩ := H
          (try dsimp only at H)
          have A9 := Aside0.mk A90
          clear A90
          by_cases c10 : t188 = true
          · subst c10
            rw [if_pos rfl] at H
            replace H := Option.bind_eq_some_iff.mp H
            obtain ⟨⟨t189, t190⟩, A110, H⟩ := H
            (try dsimp only at H)
            have A11 := Aside0.mk A110
            clear A110
            simp only [Option.some.injEq, Prod.mk.injEq] at H
            obtain ⟨rfl, rfl⟩ := H
            go_wp2_with (first | ((with_reducible refine gate_callee (f := 29) rfl ?_); refine goD (some 16) rfl Try.func29 (dec_Sub.calls a0 x4_1 t183 true _ A4.out) ?_; intro nd) | ((with_reducible refine gate_callee (f := 26) rfl ?_); refine goD (some 22) rfl Try.func26 (dec_Sign.calls t183 t185 _ A6.out) ?_; intro nd) | ((with_reducible refine gate_callee (f := 26) rfl ?_); refine goD (some 24) rfl Try.func26 (dec_Sign.calls x4_1 t186 _ A7.out) ?_; intro nd) | ((with_reducible refine gate_callee (f := 50) rfl ?_); refine goB (some 30) rfl Try.func50 (round_Even.calls kj1 t183 t187 true _ A9.out) ?_; clear HB; intro w12 HB) | ((with_reducible refine gate_callee (f := 27) rfl ?_); refine goD (some 37) rfl Try.func27 (dec_Add.calls t187 x4_1 t189 t190 _ A11.out) ?_; intro nd))
            go_ret2
            exact finB
          · replace c10 := Bool.eq_false_iff.mpr c10
            subst c10
            rw [if_neg (show ¬ (false = true) by decide)] at H
            simp only [Option.some.injEq, Prod.mk.injEq] at H
            obtain ⟨rfl, rfl⟩ := H
            go_wp2_with (first | ((with_reducible refine gate_callee (f := 29) rfl ?_); refine goD (some 16) rfl Try.func29 (dec_Sub.calls a0 x4_1 t183 true _ A4.out) ?_; intro nd) | ((with_reducible refine gate_callee (f := 26) rfl ?_); refine goD (some 22) rfl Try.func26 (dec_Sign.calls t183 t185 _ A6.out) ?_; intro nd) | ((with_reducible refine gate_callee (f := 26) rfl ?_); refine goD (some 24) rfl Try.func26 (dec_Sign.calls x4_1 t186 _ A7.out) ?_; intro nd) | ((with_reducible refine gate_callee (f := 50) rfl ?_); refine goB (some 30) rfl Try.func50 (round_Even.calls kj1 t183 t187 false _ A9.out) ?_; clear HB; intro w13 HB))
            go_ret2
            exact finB
      · replace c5 := Bool.eq_false_iff.mpr c5
        subst c5
        rw [if_neg (show ¬ (false = true) by decide)] at H
        simp only [Option.some.injEq, Prod.mk.injEq] at H
        obtain ⟨rfl, rfl⟩ := H
        go_wp2_with (first | ((with_reducible refine gate_callee (f := 29) rfl ?_); refine goD (some 16) rfl Try.func29 (dec_Sub.calls a0 x4_1 t183 false _ A4.out) ?_; intro nd))
        go_ret2
        exact finB

/-! ### oculuslaw09_alive: function 16 -/
def oculuslaw09_alive.f (k : Nat)  : Option (Bool) := (round_Places.f k (-25000) 0 1).bind fun bt191 => ((round_Places.f k (-25000) 0 5).bind fun bt193 => ((round_Mod.f k (-70000) 30000).bind fun bt195 => ((round_Odd.f k 20000).bind fun bt197 => (if bt191.2 = true then (if bt193.2 = true then (if bt195.2 = true then (if bt197.2 = true then (if bt191.1 = (-30000) then (if bt193.1 = (-20000) then (if bt195.1 = 20000 then (some (bt197.1 == 30000)) else (none)) else (none)) else (none)) else (none)) else (none)) else (none)) else (none)))))
theorem oculuslaw09_alive.mono : ∀ k, LeO (oculuslaw09_alive.f k ) (oculuslaw09_alive.f (k + 1) ) := by
  intro  k
  unfold oculuslaw09_alive.f
  repeat' first
      | (with_reducible exact round_Mod.mono _ _ _)
      | (with_reducible exact round_Odd.mono _ _)
      | (with_reducible exact round_Places.mono _ _ _ _)
      | (with_reducible exact LeO.refl _)
      | (with_reducible exact LeO.none _)
      | (with_reducible refine LeO.ite ?_ ?_)
      | (with_reducible refine LeO.bind ?_ (fun _ => ?_))
      | exact round_Mod.mono _ _ _
      | exact round_Odd.mono _ _
      | exact round_Places.mono _ _ _ _
      | exact LeO.none _
      | refine LeO.ite ?_ ?_
      | refine LeO.bind ?_ (fun _ => ?_)
set_option maxHeartbeats 8000000 in
set_option maxRecDepth 100000 in
theorem oculuslaw09_alive.calls (k : Nat)  (r : Bool) (w : World) (h : oculuslaw09_alive.f k  = some r) :
    Calls Try.prog 16 #[] w fun e w' => e = .returned (.bool r) ∧ Below w.heap.size w w' := by
  have HB := Aside0.mk (Below.refl w.heap.size w)
  have H := h
  (try unfold oculuslaw09_alive.f at H)
  clear h
  replace H := Option.bind_eq_some_iff.mp H
  obtain ⟨⟨t191, t192⟩, A10, H⟩ := H
  (try dsimp only at H)
  have A1 := Aside0.mk A10
  clear A10
  replace H := Option.bind_eq_some_iff.mp H
  obtain ⟨⟨t193, t194⟩, A20, H⟩ := H
  (try dsimp only at H)
  have A2 := Aside0.mk A20
  clear A20
  replace H := Option.bind_eq_some_iff.mp H
  obtain ⟨⟨t195, t196⟩, A30, H⟩ := H
  (try dsimp only at H)
  have A3 := Aside0.mk A30
  clear A30
  replace H := Option.bind_eq_some_iff.mp H
  obtain ⟨⟨t197, t198⟩, A40, H⟩ := H
  (try dsimp only at H)
  have A4 := Aside0.mk A40
  clear A40
  by_cases c5 : t192 = true
  · subst c5
    rw [if_pos rfl] at H
    by_cases c6 : t194 = true
    · subst c6
      rw [if_pos rfl] at H
      by_cases c7 : t196 = true
      · subst c7
        rw [if_pos rfl] at H
        by_cases c8 : t198 = true
        · subst c8
          rw [if_pos rfl] at H
          by_cases c9 : t191 = (-30000)
          · rw [if_pos c9] at H
            have c9b0 : (t191 == (-30000)) = true := beq_iff_eq.mpr c9
            have c9b1 : (t191 != (-30000)) = false := bne_eq_false_iff_eq.mpr c9
            clear c9
            by_cases c10 : t193 = (-20000)
            · rw [if_pos c10] at H
              have c10b0 : (t193 == (-20000)) = true := beq_iff_eq.mpr c10
              have c10b1 : (t193 != (-20000)) = false := bne_eq_false_iff_eq.mpr c10
              clear c10
              by_cases c11 : t195 = 20000
              · rw [if_pos c11] at H
                have c11b0 : (t195 == 20000) = true := beq_iff_eq.mpr c11
                have c11b1 : (t195 != 20000) = false := bne_eq_false_iff_eq.mpr c11
                clear c11
                obtain rfl := Option.some.inj H
                go_enter Try.func16, Try.ntmps16
                go_wp2_with (first | ((with_reducible refine gate_callee (f := 19) rfl ?_); refine goB (some 10) rfl Try.func19 (round_Places.calls k (-25000) 0 1 t191 true _ A1.out) ?_; clear HB; intro w12 HB) | ((with_reducible refine gate_callee (f := 19) rfl ?_); refine goB (some 14) rfl Try.func19 (round_Places.calls k (-25000) 0 5 t193 true _ A2.out) ?_; clear HB; intro w13 HB) | ((with_reducible refine gate_callee (f := 46) rfl ?_); refine goD (some 18) rfl Try.func46 (round_Mod.calls k (-70000) 30000 t195 true _ A3.out) ?_; intro nd) | ((with_reducible refine gate_callee (f := 51) rfl ?_); refine goB (some 22) rfl Try.func51 (round_Odd.calls k 20000 t197 true _ A4.out) ?_; clear HB; intro w14 HB))
                go_ret
                exact finB
              · rw [if_neg c11] at H
                exact absurd H (by simp)
            · rw [if_neg c10] at H
              exact absurd H (by simp)
          · rw [if_neg c9] at H
            exact absurd H (by simp)
        · replace c8 := Bool.eq_false_iff.mpr c8
          subst c8
          rw [if_neg (show ¬ (false = true) by decide)] at H
          exact absurd H (by simp)
      · replace c7 := Bool.eq_false_iff.mpr c7
        subst c7
        rw [if_neg (show ¬ (false = true) by decide)] at H
        exact absurd H (by simp)
    · replace c6 := Bool.eq_false_iff.mpr c6
      subst c6
      rw [if_neg (show ¬ (false = true) by decide)] at H
      exact absurd H (by simp)
  · replace c5 := Bool.eq_false_iff.mpr c5
    subst c5
    rw [if_neg (show ¬ (false = true) by decide)] at H
    exact absurd H (by simp)

/-! ### oculusref08_Abs: function 17 -/
def oculusref08_Abs.f (a0 : Int) : Option (Int) := if a0 < 0 then (some (IntKind.u64.wrap (wrap64 (-a0)))) else (some (IntKind.u64.wrap (a0)))
set_option maxHeartbeats 8000000 in
set_option maxRecDepth 100000 in
theorem oculusref08_Abs.calls (a0 : Int) (r : Int) (w : World) (h : oculusref08_Abs.f a0 = some r) :
    Calls Try.prog 17 #[.int .i64 a0] w fun e w' => e = .returned (.int .u64 r) ∧ Drawn0 w w' := by
  have H := h
  (try unfold oculusref08_Abs.f at H)
  clear h
  by_cases c2 : a0 < 0
  · rw [if_pos c2] at H
    have c2b0 : decide (a0 < 0) = true := decide_eq_true c2
    clear c2
    obtain rfl := Option.some.inj H
    go_enter Try.func17, Try.ntmps17
    go_wp2
    go_ret
    exact fin0
  · rw [if_neg c2] at H
    have c2b0 : decide (a0 < 0) = false := decide_eq_false c2
    clear c2
    obtain rfl := Option.some.inj H
    go_enter Try.func17, Try.ntmps17
    go_wp2
    go_ret
    exact fin0

end Go.Proofs.Ytmagefemmhfkaaa.PA
