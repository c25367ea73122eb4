-- PRINTED for this claim by wip/xprint.py (a program of this session's over the kit's print). Lean checks it.
import Derived.Test.YtmagefemmhfkaaaPBx0
import Derived.Test.YtmagefemmhfkaaaPBx10
import Derived.Test.YtmagefemmhfkaaaPBx12
namespace Go.Proofs.Ytmagefemmhfkaaa.PA
open Go.RowKit Go.Proofs.YtmagefemmhfkaaaW.PrintWords Go.Proofs.YtmagefemmhfkaaaW.PrintLast Go.Proofs.YtmagefemmhfkaaaW.PrintMore
attribute [local go_sem] max2_int min2_int max_two min_two max_three min_three max_four min_four   -- for this text's walks alone
set_option linter.unusedVariables false
set_option linter.unusedSimpArgs false

/-! ### oculuslaw09_RoundNear: function 3 -/
mutual
def oculuslaw09_RoundNear.j0 : Nat → Int → Int → Int → Int → Bool → Option (Bool)
  | 0, _, _, _, _, _ => none
  | k + 1, x0, x1, x2, x7, x33 => if x33 = true then (none) else ((oculusref08_Abs.f x7).bind fun t202 => ((oculusref08_Abs.f x0).bind fun t203 => ((oculusref08_Abs.f x0).bind fun t204 => ((oculusref08_Abs.f x7).bind fun t205 => (if t204 > t205 then ((oculusref08_Abs.f x0).bind fun t206 => ((oculusref08_Abs.f x7).bind fun t207 => (oculuslaw09_RoundNear.j1 k x0 x1 x2 x7 (IntKind.u64.wrap (t206 - t207))))) else (oculuslaw09_RoundNear.j1 k x0 x1 x2 x7 (IntKind.u64.wrap (t202 - t203))))))))
def oculuslaw09_RoundNear.j1 : Nat → Int → Int → Int → Int → Int → Option (Bool)
  | 0, _, _, _, _, _ => none
  | k + 1, x0, x1, x2, x7, x9 => if x9 ≥ (IntKind.u64.wrap (x1)) then (oculuslaw09_RoundNear.j2 k x0 x1 x2 x7 true) else (if x2 = 1 then (if x9 > (IntKind.u64.wrap ((IntKind.u64.wrap (x1)) - x9)) then (oculuslaw09_RoundNear.j2 k x0 x1 x2 x7 true) else (if x2 = 4 then (if x7 > x0 then (oculuslaw09_RoundNear.j2 k x0 x1 x2 x7 true) else (if x2 = 5 then (oculuslaw09_RoundNear.j2 k x0 x1 x2 x7 (decide (x7 < x0))) else (oculuslaw09_RoundNear.j2 k x0 x1 x2 x7 false))) else (if x2 = 5 then (oculuslaw09_RoundNear.j2 k x0 x1 x2 x7 (decide (x7 < x0))) else (oculuslaw09_RoundNear.j2 k x0 x1 x2 x7 false)))) else (if x2 = 4 then (if x7 > x0 then (oculuslaw09_RoundNear.j2 k x0 x1 x2 x7 true) else (if x2 = 5 then (oculuslaw09_RoundNear.j2 k x0 x1 x2 x7 (decide (x7 < x0))) else (oculuslaw09_RoundNear.j2 k x0 x1 x2 x7 false))) else (if x2 = 5 then (oculuslaw09_RoundNear.j2 k x0 x1 x2 x7 (decide (x7 < x0))) else (oculuslaw09_RoundNear.j2 k x0 x1 x2 x7 false))))
def oculuslaw09_RoundNear.j2 : Nat → Int → Int → Int → Int → Bool → Option (Bool)
  | 0, _, _, _, _, _ => none
  | k + 1, x0, x1, x2, x7, x82 => if x82 = true then (none) else (if x2 = 2 then ((oculusref08_Abs.f x7).bind fun t208 => ((oculusref08_Abs.f x0).bind fun t209 => (if t208 > t209 then (oculuslaw09_RoundNear.j3 k x1 x2 x7 true) else (if x2 = 3 then ((oculusref08_Abs.f x7).bind fun t210 => ((oculusref08_Abs.f x0).bind fun t211 => (oculuslaw09_RoundNear.j3 k x1 x2 x7 (decide (t210 < t211))))) else (oculuslaw09_RoundNear.j3 k x1 x2 x7 false))))) else (if x2 = 3 then ((oculusref08_Abs.f x7).bind fun t212 => ((oculusref08_Abs.f x0).bind fun t213 => (oculuslaw09_RoundNear.j3 k x1 x2 x7 (decide (t212 < t213))))) else (oculuslaw09_RoundNear.j3 k x1 x2 x7 false)))
def oculuslaw09_RoundNear.j3 : Nat → Int → Int → Int → Bool → Option (Bool)
  | 0, _, _, _, _ => none
  | k + 1, x1, x2, x7, x102 => if x102 = true then (none) else ((round_Step.f k x7 x1 x2).bind fun bt214 => (if bt214.2 = true then (if bt214.1 = x7 then ((oculuslaw09_alive.f k).bind fun t216 => (some t216)) else (none)) else (none)))
end
def oculuslaw09_RoundNear.f (k : Nat) (a0 : Int) (a1 : Int) (a2 : Int) : Option (Bool) := (round_Step.f k a0 a1 a2).bind fun bt199 => (if bt199.2 = true then (if a1 ≤ 0 then (oculuslaw09_RoundNear.j0 k a0 a1 a2 bt199.1 true) else (if a1 = 0 then (none) else (oculuslaw09_RoundNear.j0 k a0 a1 a2 bt199.1 ((Int.tmod bt199.1 a1) != 0)))) else (if bt199.1 = 0 then ((oculuslaw09_alive.f k).bind fun t201 => (some t201)) else (none)))
theorem oculuslaw09_RoundNear.mono_l : ∀ k, (∀ y0 y1 y2 y3 y4, LeO (oculuslaw09_RoundNear.j0 k y0 y1 y2 y3 y4) (oculuslaw09_RoundNear.j0 (k + 1) y0 y1 y2 y3 y4)) ∧ (∀ y0 y1 y2 y3 y4, LeO (oculuslaw09_RoundNear.j1 k y0 y1 y2 y3 y4) (oculuslaw09_RoundNear.j1 (k + 1) y0 y1 y2 y3 y4)) ∧ (∀ y0 y1 y2 y3 y4, LeO (oculuslaw09_RoundNear.j2 k y0 y1 y2 y3 y4) (oculuslaw09_RoundNear.j2 (k + 1) y0 y1 y2 y3 y4)) ∧ (∀ y0 y1 y2 y3, LeO (oculuslaw09_RoundNear.j3 k y0 y1 y2 y3) (oculuslaw09_RoundNear.j3 (k + 1) y0 y1 y2 y3))
  | 0 => ⟨fun _ _ _ _ _ r h => by simp [oculuslaw09_RoundNear.j0] at h, fun _ _ _ _ _ r h => by simp [oculuslaw09_RoundNear.j1] at h, fun _ _ _ _ _ r h => by simp [oculuslaw09_RoundNear.j2] at h, fun _ _ _ _ r h => by simp [oculuslaw09_RoundNear.j3] at h⟩
  | k + 1 => by
    obtain ⟨ih0, ih1, ih2, ih3⟩ := oculuslaw09_RoundNear.mono_l k
    refine ⟨?_, ?_, ?_, ?_⟩
    · intro y0 y1 y2 y3 y4
      unfold oculuslaw09_RoundNear.j0
      repeat' first
      | (with_reducible exact ih0 _ _ _ _ _)
      | (with_reducible exact ih1 _ _ _ _ _)
      | (with_reducible exact ih2 _ _ _ _ _)
      | (with_reducible exact ih3 _ _ _ _)
      | (with_reducible exact oculuslaw09_alive.mono _)
      | (with_reducible exact round_Step.mono _ _ _ _)
      | (with_reducible exact LeO.refl _)
      | (with_reducible exact LeO.none _)
      | (with_reducible refine LeO.ite ?_ ?_)
      | (with_reducible refine LeO.bind ?_ (fun _ => ?_))
      | exact ih0 _ _ _ _ _
      | exact ih1 _ _ _ _ _
      | exact ih2 _ _ _ _ _
      | exact ih3 _ _ _ _
      | exact oculuslaw09_alive.mono _
      | exact round_Step.mono _ _ _ _
      | exact LeO.none _
      | refine LeO.ite ?_ ?_
      | refine LeO.bind ?_ (fun _ => ?_)
    · intro y0 y1 y2 y3 y4
      unfold oculuslaw09_RoundNear.j1
      repeat' first
      | (with_reducible exact ih0 _ _ _ _ _)
      | (with_reducible exact ih1 _ _ _ _ _)
      | (with_reducible exact ih2 _ _ _ _ _)
      | (with_reducible exact ih3 _ _ _ _)
      | (with_reducible exact oculuslaw09_alive.mono _)
      | (with_reducible exact round_Step.mono _ _ _ _)
      | (with_reducible exact LeO.refl _)
      | (with_reducible exact LeO.none _)
      | (with_reducible refine LeO.ite ?_ ?_)
      | (with_reducible refine LeO.bind ?_ (fun _ => ?_))
      | exact ih0 _ _ _ _ _
      | exact ih1 _ _ _ _ _
      | exact ih2 _ _ _ _ _
      | exact ih3 _ _ _ _
      | exact oculuslaw09_alive.mono _
      | exact round_Step.mono _ _ _ _
      | exact LeO.none _
      | refine LeO.ite ?_ ?_
      | refine LeO.bind ?_ (fun _ => ?_)
    · intro y0 y1 y2 y3 y4
      unfold oculuslaw09_RoundNear.j2
      repeat' first
      | (with_reducible exact ih0 _ _ _ _ _)
      | (with_reducible exact ih1 _ _ _ _ _)
      | (with_reducible exact ih2 _ _ _ _ _)
      | (with_reducible exact ih3 _ _ _ _)
      | (with_reducible exact oculuslaw09_alive.mono _)
      | (with_reducible exact round_Step.mono _ _ _ _)
      | (with_reducible exact LeO.refl _)
      | (with_reducible exact LeO.none _)
      | (with_reducible refine LeO.ite ?_ ?_)
      | (with_reducible refine LeO.bind ?_ (fun _ => ?_))
      | exact ih0 _ _ _ _ _
      | exact ih1 _ _ _ _ _
      | exact ih2 _ _ _ _ _
      | exact ih3 _ _ _ _
      | exact oculuslaw09_alive.mono _
      | exact round_Step.mono _ _ _ _
      | exact LeO.none _
      | refine LeO.ite ?_ ?_
      | refine LeO.bind ?_ (fun _ => ?_)
    · intro y0 y1 y2 y3
      unfold oculuslaw09_RoundNear.j3
      repeat' first
      | (with_reducible exact ih0 _ _ _ _ _)
      | (with_reducible exact ih1 _ _ _ _ _)
      | (with_reducible exact ih2 _ _ _ _ _)
      | (with_reducible exact ih3 _ _ _ _)
      | (with_reducible exact oculuslaw09_alive.mono _)
      | (with_reducible exact round_Step.mono _ _ _ _)
      | (with_reducible exact LeO.refl _)
      | (with_reducible exact LeO.none _)
      | (with_reducible refine LeO.ite ?_ ?_)
      | (with_reducible refine LeO.bind ?_ (fun _ => ?_))
      | exact ih0 _ _ _ _ _
      | exact ih1 _ _ _ _ _
      | exact ih2 _ _ _ _ _
      | exact ih3 _ _ _ _
      | exact oculuslaw09_alive.mono _
      | exact round_Step.mono _ _ _ _
      | exact LeO.none _
      | refine LeO.ite ?_ ?_
      | refine LeO.bind ?_ (fun _ => ?_)
theorem oculuslaw09_RoundNear.mono : ∀ a0 a1 a2 k, LeO (oculuslaw09_RoundNear.f k a0 a1 a2) (oculuslaw09_RoundNear.f (k + 1) a0 a1 a2) := by
  intro a0 a1 a2 k
  obtain ⟨ih0, ih1, ih2, ih3⟩ := oculuslaw09_RoundNear.mono_l k
  unfold oculuslaw09_RoundNear.f
  repeat' first
      | (with_reducible exact ih0 _ _ _ _ _)
      | (with_reducible exact ih1 _ _ _ _ _)
      | (with_reducible exact ih2 _ _ _ _ _)
      | (with_reducible exact ih3 _ _ _ _)
      | (with_reducible exact oculuslaw09_alive.mono _)
      | (with_reducible exact round_Step.mono _ _ _ _)
      | (with_reducible exact LeO.refl _)
      | (with_reducible exact LeO.none _)
      | (with_reducible refine LeO.ite ?_ ?_)
      | (with_reducible refine LeO.bind ?_ (fun _ => ?_))
      | exact ih0 _ _ _ _ _
      | exact ih1 _ _ _ _ _
      | exact ih2 _ _ _ _ _
      | exact ih3 _ _ _ _
      | exact oculuslaw09_alive.mono _
      | exact round_Step.mono _ _ _ _
      | exact LeO.none _
      | refine LeO.ite ?_ ?_
      | refine LeO.bind ?_ (fun _ => ?_)
set_option maxHeartbeats 8000000 in
set_option maxRecDepth 100000 in
theorem oculuslaw09_RoundNear.calls (k : Nat) (a0 : Int) (a1 : Int) (a2 : Int) (r : Bool) (w : World) (h : oculuslaw09_RoundNear.f k a0 a1 a2 = some r) :
    Calls Try.prog 3 #[.int .i64 a0, .int .i64 a1, .int .i64 a2] w fun e w' => e = .returned (.bool r) ∧ Below w.heap.size w w' := by
  have HB := Aside0.mk (Below.refl w.heap.size w)
  have H := h
  (try unfold oculuslaw09_RoundNear.f at H)
  clear h
  replace H := Option.bind_eq_some_iff.mp H
  obtain ⟨⟨t199, t200⟩, A40, H⟩ := H
  (try dsimp only at H)
  have A4 := Aside0.mk A40
  clear A40
  by_cases c5 : t200 = true
  · subst c5
    rw [if_pos rfl] at H
    have HC6 := Aside0.mk H
    clear H
    go_enter Try.func3, Try.ntmps3
    go_upto_region 4 with (first | ((with_reducible refine gate_callee (f := 15) rfl ?_); refine goB (some 16) rfl Try.func15 (round_Step.calls k a0 a1 a2 t199 true _ A4.out) ?_; clear HB; intro w7 HB))
    (try simp only [Act.put, List.setIfInBounds_toArray, List.set_cons_zero, List.set_cons_succ])
    go_cut [33] (fun v33 wc => ∃ (kq : Nat) (x33_5 : Bool), v33 = .bool x33_5 ∧ Aside0 (oculuslaw09_RoundNear.j0 kq a0 a1 a2 t199 x33_5 = some r) ∧ Aside0 (kq ≤ k) ∧ Aside0 (Below w.heap.size w wc))
    case first =>
      have H := HC6.out
      clear HC6
      by_cases c8 : a1 ≤ 0
      · rw [if_pos c8] at H
        have c8b0 : decide (a1 ≤ 0) = true := decide_eq_true c8
        clear c8
        (first | rw [c8b0] | (simp only [i64_w, i32_w]; rw [c8b0]) | skip)
        have H' := Aside0.mk H
        clear H
        go_wp2
        go_meet
        case rel => exact ⟨_, (true), eqv, H', lev, blv⟩
      · rw [if_neg c8] at H
        have c8b0 : decide (a1 ≤ 0) = false := decide_eq_false c8
        clear c8
        (first | rw [c8b0] | (simp only [i64_w, i32_w]; rw [c8b0]) | skip)
        by_cases c9 : a1 = 0
        · rw [if_pos c9] at H
          exact absurd H (by simp)
        · rw [if_neg c9] at H
          have c9b0 : (a1 == 0) = false := beq_eq_false_iff_ne.mpr c9
          have c9b1 : (a1 != 0) = true := bne_iff_ne.mpr c9
          have H' := Aside0.mk H
          clear H
          go_wp2
          go_meet
          case rel => exact ⟨_, (((Int.tmod t199 a1) != 0)), eqv, H', lev, blv⟩
    case rest =>
      clear HC6
      try clear c1
      try clear p2
      try clear c3
      try clear c5
      try clear c8
      try clear c8b0
      try clear c9
      try clear c9b0
      try clear c9b1
      obtain ⟨kq, x33_5, rfl, HA, HJ5, HB⟩ := hcut
      cases kq with
      | zero => exact absurd HA.out (by simp [oculuslaw09_RoundNear.j0])
      | succ kj5 =>
        have H := HA.out
        clear HA
        simp only [oculuslaw09_RoundNear.j0] at H
        by_cases c10 : x33_5 = true
        · subst c10
          rw [if_pos rfl] at H
          exact absurd H (by simp)
        · replace c10 := Bool.eq_false_iff.mpr c10
          subst c10
          rw [if_neg (show ¬ (false = true) by decide)] at H
          replace H := Option.bind_eq_some_iff.mp H
          obtain ⟨t202, A110, H⟩ := H
          (try dsimp only at H)
          have A11 := Aside0.mk A110
          clear A110
          replace H := Option.bind_eq_some_iff.mp H
          obtain ⟨t203, A120, H⟩ := H
          (try dsimp only at H)
          have A12 := Aside0.mk A120
          clear A120
          replace H := Option.bind_eq_some_iff.mp H
          obtain ⟨t204, A130, H⟩ := H
          (try dsimp only at H)
          have A13 := Aside0.mk A130
          clear A130
          replace H := Option.bind_eq_some_iff.mp H
          obtain ⟨t205, A140, H⟩ := H
          (try dsimp only at H)
          have A14 := Aside0.mk A140
          clear A140
          have HC15 := Aside0.mk H
          clear H
          go_upto_if 43 with (first | ((with_reducible refine gate_callee (f := 17) rfl ?_); refine goD (some 35) rfl Try.func17 (oculusref08_Abs.calls t199 t202 _ A11.out) ?_; intro nd) | ((with_reducible refine gate_callee (f := 17) rfl ?_); refine goD (some 37) rfl Try.func17 (oculusref08_Abs.calls a0 t203 _ A12.out) ?_; intro nd) | ((with_reducible refine gate_callee (f := 17) rfl ?_); refine goD (some 40) rfl Try.func17 (oculusref08_Abs.calls a0 t204 _ A13.out) ?_; intro nd) | ((with_reducible refine gate_callee (f := 17) rfl ?_); refine goD (some 42) rfl Try.func17 (oculusref08_Abs.calls t199 t205 _ A14.out) ?_; intro nd))
          (try simp only [Act.put, List.setIfInBounds_toArray, List.set_cons_zero, List.set_cons_succ])
          go_cut [9] (fun v9 wc => ∃ (kq : Nat) (x9_14 : Int), v9 = .int .u64 x9_14 ∧ Aside0 (oculuslaw09_RoundNear.j1 kq a0 a1 a2 t199 x9_14 = some r) ∧ Aside0 (kq ≤ kj5) ∧ Aside0 (Below w.heap.size w wc))
          case first =>
            have H := HC15.out
            clear HC15
            by_cases c16 : t204 > t205
            · rw [if_pos c16] at H
              have c16b0 : decide (t205 < t204) = true := decide_eq_true c16
              clear c16
              (first | rw [c16b0] | (simp only [i64_w, i32_w]; rw [c16b0]) | skip)
              replace H := Option.bind_eq_some_iff.mp H
              obtain ⟨t206, A170, H⟩ := H
              (try dsimp only at H)
              have A17 := Aside0.mk A170
              clear A170
              replace H := Option.bind_eq_some_iff.mp H
              obtain ⟨t207, A180, H⟩ := H
              (try dsimp only at H)
              have A18 := Aside0.mk A180
              clear A180
              have H' := Aside0.mk H
              clear H
              go_wp2_with (first | ((with_reducible refine gate_callee (f := 17) rfl ?_); refine goD (some 45) rfl Try.func17 (oculusref08_Abs.calls a0 t206 _ A17.out) ?_; intro nd) | ((with_reducible refine gate_callee (f := 17) rfl ?_); refine goD (some 47) rfl Try.func17 (oculusref08_Abs.calls t199 t207 _ A18.out) ?_; intro nd))
              go_meet
              case rel => exact ⟨_, (IntKind.u64.wrap (t206 - t207)), eqv, H', ⟨by have := HJ5.out; first | omega | exact Nat.le_refl _⟩, blv⟩
            · rw [if_neg c16] at H
              have c16b0 : decide (t205 < t204) = false := decide_eq_false c16
              clear c16
              (first | rw [c16b0] | (simp only [i64_w, i32_w]; rw [c16b0]) | skip)
              have H' := Aside0.mk H
              clear H
              go_wp2
              go_meet
              case rel => exact ⟨_, (IntKind.u64.wrap (t202 - t203)), eqv, H', ⟨by have := HJ5.out; first | omega | exact Nat.le_refl _⟩, blv⟩
          case rest =>
            clear HC15
            try clear c1
            try clear p2
            try clear c3
            try clear c5
            try clear c8
            try clear c8b0
            try clear c9
            try clear c9b0
            try clear c9b1
            try clear c10
            try clear c15
            try clear c16
            try clear c16b0
            try clear c17
            try clear p2
            obtain ⟨kq, x9_14, rfl, HA, HJ14, HB⟩ := hcut
            cases kq with
            | zero => exact absurd HA.out (by simp [oculuslaw09_RoundNear.j1])
            | succ kj14 =>
              have H := HA.out
              clear HA
              simp only [oculuslaw09_RoundNear.j1] at H
              have HC19 := Aside0.mk H
              clear H
              go_upto_region 9 with (fail)
              go_cut [82] (fun v82 wc => ∃ (kq : Nat) (x82_18 : Bool), v82 = .bool x82_18 ∧ Aside0 (oculuslaw09_RoundNear.j2 kq a0 a1 a2 t199 x82_18 = some r) ∧ Aside0 (kq ≤ kj14) ∧ Aside0 (Below w.heap.size w wc))
              case first =>
                have H := HC19.out
                clear HC19
                by_cases c20 : x9_14 ≥ (IntKind.u64.wrap (a1))
                · rw [if_pos c20] at H
                  have c20b0 : decide ((IntKind.u64.wrap (a1)) ≤ x9_14) = true := decide_eq_true c20
                  clear c20
                  (first | rw [c20b0] | (simp only [i64_w, i32_w]; rw [c20b0]) | skip)
                  have H' := Aside0.mk H
                  clear H
                  go_wp2
                  go_meet
                  case rel => exact ⟨_, (true), eqv, H', ⟨by have := HJ5.out; have := HJ14.out; first | omega | exact Nat.le_refl _⟩, blv⟩
                · rw [if_neg c20] at H
                  have c20b0 : decide ((IntKind.u64.wrap (a1)) ≤ x9_14) = false := decide_eq_false c20
                  clear c20
                  (first | rw [c20b0] | (simp only [i64_w, i32_w]; rw [c20b0]) | skip)
                  by_cases c21 : a2 = 1
                  · rw [if_pos c21] at H
                    have c21b0 : (a2 == 1) = true := beq_iff_eq.mpr c21
                    have c21b1 : (a2 != 1) = false := bne_eq_false_iff_eq.mpr c21
                    clear c21
                    by_cases c22 : x9_14 > (IntKind.u64.wrap ((IntKind.u64.wrap (a1)) - x9_14))
                    · rw [if_pos c22] at H
                      have c22b0 : decide ((IntKind.u64.wrap ((IntKind.u64.wrap (a1)) - x9_14)) < x9_14) = true := decide_eq_true c22
                      clear c22
                      have H' := Aside0.mk H
                      clear H
                      go_wp2
                      go_meet
                      case rel => exact ⟨_, (true), eqv, H', ⟨by have := HJ5.out; have := HJ14.out; first | omega | exact Nat.le_refl _⟩, blv⟩
                    · rw [if_neg c22] at H
                      have c22b0 : decide ((IntKind.u64.wrap ((IntKind.u64.wrap (a1)) - x9_14)) < x9_14) = false := decide_eq_false c22
                      clear c22
                      by_cases c23 : a2 = 4
                      · rw [if_pos c23] at H
                        have c23b0 : (a2 == 4) = true := beq_iff_eq.mpr c23
                        have c23b1 : (a2 != 4) = false := bne_eq_false_iff_eq.mpr c23
                        clear c23
                        by_cases c24 : t199 > a0
                        · rw [if_pos c24] at H
                          have c24b0 : decide (a0 < t199) = true := decide_eq_true c24
                          clear c24
                          have H' := Aside0.mk H
                          clear H
                          go_wp2
                          go_meet
                          case rel => exact ⟨_, (true), eqv, H', ⟨by have := HJ5.out; have := HJ14.out; first | omega | exact Nat.le_refl _⟩, blv⟩
                        · rw [if_neg c24] at H
                          have c24b0 : decide (a0 < t199) = false := decide_eq_false c24
                          clear c24
                          by_cases c25 : a2 = 5
                          · rw [if_pos c25] at H
                            have c25b0 : (a2 == 5) = true := beq_iff_eq.mpr c25
                            have c25b1 : (a2 != 5) = false := bne_eq_false_iff_eq.mpr c25
                            clear c25
                            have H' := Aside0.mk H
                            clear H
                            go_wp2
                            go_meet
                            case rel => exact ⟨_, (decide (t199 < a0)), eqv, H', ⟨by have := HJ5.out; have := HJ14.out; first | omega | exact Nat.le_refl _⟩, blv⟩
                          · rw [if_neg c25] at H
                            have c25b0 : (a2 == 5) = false := beq_eq_false_iff_ne.mpr c25
                            have c25b1 : (a2 != 5) = true := bne_iff_ne.mpr c25
                            have H' := Aside0.mk H
                            clear H
                            go_wp2
                            go_meet
                            case rel => exact ⟨_, (false), eqv, H', ⟨by have := HJ5.out; have := HJ14.out; first | omega | exact Nat.le_refl _⟩, blv⟩
                      · rw [if_neg c23] at H
                        have c23b0 : (a2 == 4) = false := beq_eq_false_iff_ne.mpr c23
                        have c23b1 : (a2 != 4) = true := bne_iff_ne.mpr c23
                        by_cases c26 : a2 = 5
                        · rw [if_pos c26] at H
                          have c26b0 : (a2 == 5) = true := beq_iff_eq.mpr c26
                          have c26b1 : (a2 != 5) = false := bne_eq_false_iff_eq.mpr c26
                          clear c26
                          have H' := Aside0.mk H
                          clear H
                          go_wp2
                          go_meet
                          case rel => exact ⟨_, (decide (t199 < a0)), eqv, H', ⟨by have := HJ5.out; have := HJ14.out; first | omega | exact Nat.le_refl _⟩, blv⟩
                        · rw [if_neg c26] at H
                          have c26b0 : (a2 == 5) = false := beq_eq_false_iff_ne.mpr c26
                          have c26b1 : (a2 != 5) = true := bne_iff_ne.mpr c26
                          have H' := Aside0.mk H
                          clear H
                          go_wp2
                          go_meet
                          case rel => exact ⟨_, (false), eqv, H', ⟨by have := HJ5.out; have := HJ14.out; first | omega | exact Nat.le_refl _⟩, blv⟩
                  · rw [if_neg c21] at H
                    have c21b0 : (a2 == 1) = false := beq_eq_false_iff_ne.mpr c21
                    have c21b1 : (a2 != 1) = true := bne_iff_ne.mpr c21
                    by_cases c27 : a2 = 4
                    · rw [if_pos c27] at H
                      have c27b0 : (a2 == 4) = true := beq_iff_eq.mpr c27
                      have c27b1 : (a2 != 4) = false := bne_eq_false_iff_eq.mpr c27
                      clear c27
                      by_cases c28 : t199 > a0
                      · rw [if_pos c28] at H
                        have c28b0 : decide (a0 < t199) = true := decide_eq_true c28
                        clear c28
                        have H' := Aside0.mk H
                        clear H
                        go_wp2
                        go_meet
                        case rel => exact ⟨_, (true), eqv, H', ⟨by have := HJ5.out; have := HJ14.out; first | omega | exact Nat.le_refl _⟩, blv⟩
                      · rw [if_neg c28] at H
                        have c28b0 : decide (a0 < t199) = false := decide_eq_false c28
                        clear c28
                        by_cases c29 : a2 = 5
                        · rw [if_pos c29] at H
                          have c29b0 : (a2 == 5) = true := beq_iff_eq.mpr c29
                          have c29b1 : (a2 != 5) = false := bne_eq_false_iff_eq.mpr c29
                          clear c29
                          have H' := Aside0.mk H
                          clear H
                          go_wp2
                          go_meet
                          case rel => exact ⟨_, (decide (t199 < a0)), eqv, H', ⟨by have := HJ5.out; have := HJ14.out; first | omega | exact Nat.le_refl _⟩, blv⟩
                        · rw [if_neg c29] at H
                          have c29b0 : (a2 == 5) = false := beq_eq_false_iff_ne.mpr c29
                          have c29b1 : (a2 != 5) = true := bne_iff_ne.mpr c29
                          have H' := Aside0.mk H
                          clear H
                          go_wp2
                          go_meet
                          case rel => exact ⟨_, (false), eqv, H', ⟨by have := HJ5.out; have := HJ14.out; first | omega | exact Nat.le_refl _⟩, blv⟩
                    · rw [if_neg c27] at H
                      have c27b0 : (a2 == 4) = false := beq_eq_false_iff_ne.mpr c27
                      have c27b1 : (a2 != 4) = true := bne_iff_ne.mpr c27
                      by_cases c30 : a2 = 5
                      · rw [if_pos c30] at H
                        have c30b0 : (a2 == 5) = true := beq_iff_eq.mpr c30
                        have c30b1 : (a2 != 5) = false := bne_eq_false_iff_eq.mpr c30
                        clear c30
                        have H' := Aside0.mk H
                        clear H
                        go_wp2
                        go_meet
                        case rel => exact ⟨_, (decide (t199 < a0)), eqv, H', ⟨by have := HJ5.out; have := HJ14.out; first | omega | exact Nat.le_refl _⟩, blv⟩
                      · rw [if_neg c30] at H
                        have c30b0 : (a2 == 5) = false := beq_eq_false_iff_ne.mpr c30
                        have c30b1 : (a2 != 5) = true := bne_iff_ne.mpr c30
                        have H' := Aside0.mk H
                        clear H
                        go_wp2
                        go_meet
                        case rel => exact ⟨_, (false), eqv, H', ⟨by have := HJ5.out; have := HJ14.out; first | omega | exact Nat.le_refl _⟩, blv⟩
              case rest =>
                clear HC19
                try clear c1
                try clear c2
                try clear p2
                try clear c3
                try clear c5
                try clear c8
                try clear c8b0
                try clear c9
                try clear c9b0
                try clear c9b1
                try clear c10
                try clear c15
                try clear c16
                try clear c16b0
                try clear c17
                try clear c20
                try clear c20b0
                try clear c21
                try clear c21b0
                try clear c21b1
                try clear c22
                try clear c22b0
                try clear c23
                try clear c23b0
                try clear c23b1
                try clear c24
                try clear c24b0
                try clear c25
                try clear c25b0
                try clear c25b1
                try clear c26
                try clear c26b0
                try clear c26b1
                try clear c27
                try clear c27b0
                try clear c27b1
                try clear c28
                try clear c28b0
                try clear c29
                try clear c29b0
                try clear c29b1
                try clear c30
                try clear c30b0
                try clear c30b1
                try clear p2
                obtain ⟨kq, x82_18, rfl, HA, HJ18, HB⟩ := hcut
                cases kq with
                | zero => exact absurd HA.out (by simp [oculuslaw09_RoundNear.j2])
                | succ kj18 =>
                  have H := HA.out
                  clear HA
                  simp only [oculuslaw09_RoundNear.j2] at H
                  by_cases c31 : x82_18 = true
                  · subst c31
                    rw [if_pos rfl] at H
                    exact absurd H (by simp)
                  · replace c31 := Bool.eq_false_iff.mpr c31
                    subst c31
                    rw [if_neg (show ¬ (false = true) by decide)] at H
                    have HC32 := Aside0.mk H
                    clear H
                    go_upto_region 11 with (fail)
                    go_cut [102] (fun v102 wc => ∃ (kq : Nat) (x102_31 : Bool), v102 = .bool x102_31 ∧ Aside0 (oculuslaw09_RoundNear.j3 kq a1 a2 t199 x102_31 = some r) ∧ Aside0 (kq ≤ kj18) ∧ Aside0 (Below w.heap.size w wc))
                    case first =>
                      have H := HC32.out
                      clear HC32
                      by_cases c33 : a2 = 2
                      · rw [if_pos c33] at H
                        have c33b0 : (a2 == 2) = true := beq_iff_eq.mpr c33
                        have c33b1 : (a2 != 2) = false := bne_eq_false_iff_eq.mpr c33
                        clear c33
                        (first | rw [c33b0] | (simp only [i64_w, i32_w]; rw [c33b0]) | skip)
                        replace H := Option.bind_eq_some_iff.mp H
                        obtain ⟨t208, A340, H⟩ := H
                        (try dsimp only at H)
                        have A34 := Aside0.mk A340
                        clear A340
                        replace H := Option.bind_eq_some_iff.mp H
                        obtain ⟨t209, A350, H⟩ := H
                        (try dsimp only at H)
                        have A35 := Aside0.mk A350
                        clear A350
                        by_cases c36 : t208 > t209
                        · rw [if_pos c36] at H
                          have c36b0 : decide (t209 < t208) = true := decide_eq_true c36
                          clear c36
                          have H' := Aside0.mk H
                          clear H
                          go_wp2_with (first | (go_at_call 17; (with_reducible refine (oculusref08_Abs.calls t199 t208 _ A34.out).mono ?_); rintro e w' ⟨rfl, ⟨nd, rfl⟩⟩; (try clear A34)) | (go_at_call 17; (with_reducible refine (oculusref08_Abs.calls a0 t209 _ A35.out).mono ?_); rintro e w' ⟨rfl, ⟨nd, rfl⟩⟩; (try clear A35)))
                          go_meet
                          case rel => exact ⟨_, (true), eqv, H', ⟨by have := HJ5.out; have := HJ14.out; have := HJ18.out; first | omega | exact Nat.le_refl _⟩, blv⟩
                        · rw [if_neg c36] at H
                          have c36b0 : decide (t209 < t208) = false := decide_eq_false c36
                          clear c36
                          by_cases c37 : a2 = 3
                          · rw [if_pos c37] at H
                            have c37b0 : (a2 == 3) = true := beq_iff_eq.mpr c37
                            have c37b1 : (a2 != 3) = false := bne_eq_false_iff_eq.mpr c37
                            clear c37
                            replace H := Option.bind_eq_some_iff.mp H
                            obtain ⟨t210, A380, H⟩ := H
                            (try dsimp only at H)
                            have A38 := Aside0.mk A380
                            clear A380
                            replace H := Option.bind_eq_some_iff.mp H
                            obtain ⟨t211, A390, H⟩ := H
                            (try dsimp only at H)
                            have A39 := Aside0.mk A390
                            clear A390
                            have H' := Aside0.mk H
                            clear H
                            go_wp2_with (first | (go_at_call 17; (with_reducible refine (oculusref08_Abs.calls t199 t208 _ A34.out).mono ?_); rintro e w' ⟨rfl, ⟨nd, rfl⟩⟩; (try clear A34)) | (go_at_call 17; (with_reducible refine (oculusref08_Abs.calls a0 t209 _ A35.out).mono ?_); rintro e w' ⟨rfl, ⟨nd, rfl⟩⟩; (try clear A35)) | (go_at_call 17; (with_reducible refine (oculusref08_Abs.calls t199 t210 _ A38.out).mono ?_); rintro e w' ⟨rfl, ⟨nd, rfl⟩⟩; (try clear A38)) | (go_at_call 17; (with_reducible refine (oculusref08_Abs.calls a0 t211 _ A39.out).mono ?_); rintro e w' ⟨rfl, ⟨nd, rfl⟩⟩; (try clear A39)))
                            go_meet
                            case rel => exact ⟨_, (decide (t210 < t211)), eqv, H', ⟨by have := HJ5.out; have := HJ14.out; have := HJ18.out; first | omega | exact Nat.le_refl _⟩, blv⟩
                          · rw [if_neg c37] at H
                            have c37b0 : (a2 == 3) = false := beq_eq_false_iff_ne.mpr c37
                            have c37b1 : (a2 != 3) = true := bne_iff_ne.mpr c37
                            have H' := Aside0.mk H
                            clear H
                            go_wp2_with (first | (go_at_call 17; (with_reducible refine (oculusref08_Abs.calls t199 t208 _ A34.out).mono ?_); rintro e w' ⟨rfl, ⟨nd, rfl⟩⟩; (try clear A34)) | (go_at_call 17; (with_reducible refine (oculusref08_Abs.calls a0 t209 _ A35.out).mono ?_); rintro e w' ⟨rfl, ⟨nd, rfl⟩⟩; (try clear A35)))
                            go_meet
                            case rel => exact ⟨_, (false), eqv, H', ⟨by have := HJ5.out; have := HJ14.out; have := HJ18.out; first | omega | exact Nat.le_refl _⟩, blv⟩
                      · rw [if_neg c33] at H
                        have c33b0 : (a2 == 2) = false := beq_eq_false_iff_ne.mpr c33
                        have c33b1 : (a2 != 2) = true := bne_iff_ne.mpr c33
                        (first | rw [c33b0] | (simp only [i64_w, i32_w]; rw [c33b0]) | skip)
                        by_cases c40 : a2 = 3
                        · rw [if_pos c40] at H
                          have c40b0 : (a2 == 3) = true := beq_iff_eq.mpr c40
                          have c40b1 : (a2 != 3) = false := bne_eq_false_iff_eq.mpr c40
                          clear c40
                          replace H := Option.bind_eq_some_iff.mp H
                          obtain ⟨t212, A410, H⟩ := H
                          (try dsimp only at H)
                          have A41 := Aside0.mk A410
                          clear A410
                          replace H := Option.bind_eq_some_iff.mp H
                          obtain ⟨t213, A420, H⟩ := H
                          (try dsimp only at H)
                          have A42 := Aside0.mk A420
                          clear A420
                          have H' := Aside0.mk H
                          clear H
                          go_wp2_with (first | (go_at_call 17; (with_reducible refine (oculusref08_Abs.calls t199 t212 _ A41.out).mono ?_); rintro e w' ⟨rfl, ⟨nd, rfl⟩⟩; (try clear A41)) | (go_at_call 17; (with_reducible refine (oculusref08_Abs.calls a0 t213 _ A42.out).mono ?_); rintro e w' ⟨rfl, ⟨nd, rfl⟩⟩; (try clear A42)))
                          go_meet
                          case rel => exact ⟨_, (decide (t212 < t213)), eqv, H', ⟨by have := HJ5.out; have := HJ14.out; have := HJ18.out; first | omega | exact Nat.le_refl _⟩, blv⟩
                        · rw [if_neg c40] at H
                          have c40b0 : (a2 == 3) = false := beq_eq_false_iff_ne.mpr c40
                          have c40b1 : (a2 != 3) = true := bne_iff_ne.mpr c40
                          have H' := Aside0.mk H
                          clear H
                          go_wp2
                          go_meet
                          case rel => exact ⟨_, (false), eqv, H', ⟨by have := HJ5.out; have := HJ14.out; have := HJ18.out; first | omega | exact Nat.le_refl _⟩, blv⟩
                    case rest =>
                      clear HC32
                      try clear c1
                      try clear c2
                      try clear p2
                      try clear c3
                      try clear c4
                      try clear c5
                      try clear c8
                      try clear c8b0
                      try clear c9
                      try clear c9b0
                      try clear c9b1
                      try clear c10
                      try clear c15
                      try clear c16
                      try clear c16b0
                      try clear c17
                      try clear c20
                      try clear c20b0
                      try clear c21
                      try clear c21b0
                      try clear c21b1
                      try clear c22
                      try clear c22b0
                      try clear c23
                      try clear c23b0
                      try clear c23b1
                      try clear c24
                      try clear c24b0
                      try clear c25
                      try clear c25b0
                      try clear c25b1
                      try clear c26
                      try clear c26b0
                      try clear c26b1
                      try clear c27
                      try clear c27b0
                      try clear c27b1
                      try clear c28
                      try clear c28b0
                      try clear c29
                      try clear c29b0
                      try clear c29b1
                      try clear c30
                      try clear c30b0
                      try clear c30b1
                      try clear c31
                      try clear c33
                      try clear c33b0
                      try clear c33b1
                      try clear c36
                      try clear c36b0
                      try clear c37
                      try clear c37b0
                      try clear c37b1
                      try clear c40
                      try clear c40b0
                      try clear c40b1
                      try clear p2
                      obtain ⟨kq, x102_31, rfl, HA, HJ31, HB⟩ := hcut
                      cases kq with
                      | zero => exact absurd HA.out (by simp [oculuslaw09_RoundNear.j3])
                      | succ kj31 =>
                        have H := HA.out
                        clear HA
                        simp only [oculuslaw09_RoundNear.j3] at H
                        by_cases c43 : x102_31 = true
                        · subst c43
                          rw [if_pos rfl] at H
                          exact absurd H (by simp)
                        · replace c43 := Bool.eq_false_iff.mpr c43
                          subst c43
                          rw [if_neg (show ¬ (false = true) by decide)] at H
                          replace H := Option.bind_eq_some_iff.mp H
                          obtain ⟨⟨t214, t215⟩, A440, H⟩ := H
                          (try dsimp only at H)
                          have A44 := Aside0.mk A440
                          clear A440
                          by_cases c45 : t215 = true
                          · subst c45
                            rw [if_pos rfl] at H
                            by_cases c46 : t214 = t199
                            · rw [if_pos c46] at H
                              have c46b0 : (t214 == t199) = true := beq_iff_eq.mpr c46
                              have c46b1 : (t214 != t199) = false := bne_eq_false_iff_eq.mpr c46
                              clear c46
                              replace H := Option.bind_eq_some_iff.mp H
                              obtain ⟨t216, A470, H⟩ := H
                              (try dsimp only at H)
                              have A47 := Aside0.mk A470
                              clear A470
                              obtain rfl := Option.some.inj H
                              go_wp2_with (first | ((with_reducible refine gate_callee (f := 15) rfl ?_); refine goB (some 107) rfl Try.func15 (round_Step.calls kj31 t199 a1 a2 t214 true _ A44.out) ?_; clear HB; intro w48 HB) | (go_at_call 16; refine monoB (oculuslaw09_alive.calls kj31  t216 _ A47.out) ?_; clear HB; intro w49 HB))
                              go_ret
                              exact finB
                            · rw [if_neg c46] at H
                              exact absurd H (by simp)
                          · replace c45 := Bool.eq_false_iff.mpr c45
                            subst c45
                            rw [if_neg (show ¬ (false = true) by decide)] at H
                            exact absurd H (by simp)
  · replace c5 := Bool.eq_false_iff.mpr c5
    subst c5
    rw [if_neg (show ¬ (false = true) by decide)] at H
    by_cases c50 : t199 = 0
    · rw [if_pos c50] at H
      have c50b0 : (t199 == 0) = true := beq_iff_eq.mpr c50
      have c50b1 : (t199 != 0) = false := bne_eq_false_iff_eq.mpr c50
      clear c50
      replace H := Option.bind_eq_some_iff.mp H
      obtain ⟨t201, A510, H⟩ := H
      (try dsimp only at H)
      have A51 := Aside0.mk A510
      clear A510
      obtain rfl := Option.some.inj H
      go_enter Try.func3, Try.ntmps3
      go_wp2_with (first | ((with_reducible refine gate_callee (f := 15) rfl ?_); refine goB (some 16) rfl Try.func15 (round_Step.calls k a0 a1 a2 t199 false _ A4.out) ?_; clear HB; intro w52 HB) | (go_at_call 16; refine monoB (oculuslaw09_alive.calls k  t201 _ A51.out) ?_; clear HB; intro w53 HB))
      go_ret
      exact finB
    · rw [if_neg c50] at H
      exact absurd H (by simp)

/-- THE ONE PURE STATEMENT of oculuslaw09_RoundNear: yours. -/
def oculuslaw09_RoundNear.Pure : Prop := ∀ (a0 : Int) (a1 : Int) (a2 : Int), (Lit.int .i64 a0).wf = true → (Lit.int .i64 a1).wf = true → (Lit.int .i64 a2).wf = true → ∃ k, oculuslaw09_RoundNear.f k a0 a1 a2 = some true
theorem oculuslaw09_RoundNear.walk (P : oculuslaw09_RoundNear.Pure) (a0 : Int) (a1 : Int) (a2 : Int) (w : World) (w0 : (Lit.int .i64 a0).wf = true) (w1 : (Lit.int .i64 a1).wf = true) (w2 : (Lit.int .i64 a2).wf = true) :
    Calls Try.prog 3 #[.int .i64 a0, .int .i64 a1, .int .i64 a2] w fun e w' => e = .returned (.bool true) ∧ Below w.heap.size w w' := by
  obtain ⟨k, h⟩ := P a0 a1 a2 w0 w1 w2
  refine (oculuslaw09_RoundNear.calls k a0 a1 a2 true w h).mono ?_
  rintro e w' ⟨rfl, hd⟩
  exact ⟨rfl, hd⟩

end Go.Proofs.Ytmagefemmhfkaaa.PA
