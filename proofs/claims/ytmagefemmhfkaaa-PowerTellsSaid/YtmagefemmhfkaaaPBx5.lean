-- PRINTED for this claim by wip/xprint.py (a program of this session's over the kit's print). Lean checks it.
import Derived.Test.YtmagefemmhfkaaaPBx0
import Derived.Test.YtmagefemmhfkaaaPBx2
import Derived.Test.YtmagefemmhfkaaaPBx3
import Derived.Test.YtmagefemmhfkaaaPBx4
namespace Go.Proofs.Ytmagefemmhfkaaa.PA
open Go.RowKit Go.Proofs.YtmagefemmhfkaaaW.PrintWords Go.Proofs.YtmagefemmhfkaaaW.PrintLast Go.Proofs.YtmagefemmhfkaaaW.PrintMore
attribute [local go_sem] max2_int min2_int max_two min_two max_three min_three max_four min_four   -- for this text's walks alone
set_option linter.unusedVariables false
set_option linter.unusedSimpArgs false

/-! ### dec_Scaled: function 77 -/
mutual
def dec_Scaled.j0 : Nat → Int → Int → Int → Bool → Option (Int × Bool)
  | 0, _, _, _, _ => none
  | k + 1, x0, x1, x2, x29 => if x29 = true then (some (0, false)) else ((dec_size.f x2).bind fun t111 => ((dec_size.f x0).bind fun t112 => ((dec_size.f x1).bind fun t113 => ((bits_Mul64.f t112 t113).bind fun bt114 => (if bt114.1 ≥ t111 then (some (0, false)) else ((bits_Div64.f k bt114.1 bt114.2 t111).bind fun bt116 => (if bt116.2 ≥ (IntKind.u64.wrap (t111 - bt116.2)) then (dec_Scaled.j1 k x0 x1 x2 (IntKind.u64.wrap (bt116.1 + 1))) else (dec_Scaled.j1 k x0 x1 x2 bt116.1))))))))
def dec_Scaled.j1 : Nat → Int → Int → Int → Int → Option (Int × Bool)
  | 0, _, _, _, _ => none
  | k + 1, x0, x1, x2, x11 => if x11 > 9223372036854775807 then (some (0, false)) else ((dec_Sign.f x0).bind fun t118 => ((dec_Sign.f x1).bind fun t119 => ((dec_Sign.f x2).bind fun t120 => (if (wrap64 ((wrap64 (t118 * t119)) * t120)) < 0 then (some (wrap64 (-(wrap64 (x11))), true)) else (some (wrap64 (x11), true))))))
end
def dec_Scaled.f (k : Nat) (a0 : Int) (a1 : Int) (a2 : Int) : Option (Int × Bool) := (dec_May.f a0).bind fun t108 => (if t108 = true then ((dec_May.f a1).bind fun t109 => (if t109 = true then ((dec_May.f a2).bind fun t110 => (if t110 = true then (dec_Scaled.j0 k a0 a1 a2 (a2 == 0)) else (dec_Scaled.j0 k a0 a1 a2 true))) else (dec_Scaled.j0 k a0 a1 a2 true))) else (dec_Scaled.j0 k a0 a1 a2 true))
theorem dec_Scaled.mono_l : ∀ k, (∀ y0 y1 y2 y3, LeO (dec_Scaled.j0 k y0 y1 y2 y3) (dec_Scaled.j0 (k + 1) y0 y1 y2 y3)) ∧ (∀ y0 y1 y2 y3, LeO (dec_Scaled.j1 k y0 y1 y2 y3) (dec_Scaled.j1 (k + 1) y0 y1 y2 y3))
  | 0 => ⟨fun _ _ _ _ r h => by simp [dec_Scaled.j0] at h, fun _ _ _ _ r h => by simp [dec_Scaled.j1] at h⟩
  | k + 1 => by
    obtain ⟨ih0, ih1⟩ := dec_Scaled.mono_l k
    refine ⟨?_, ?_⟩
    · intro y0 y1 y2 y3
      unfold dec_Scaled.j0
      repeat' first
      | (with_reducible exact ih0 _ _ _ _)
      | (with_reducible exact ih1 _ _ _ _)
      | (with_reducible exact bits_Div64.mono _ _ _ _)
      | (with_reducible exact LeO.refl _)
      | (with_reducible exact LeO.none _)
      | (with_reducible refine LeO.ite ?_ ?_)
      | (with_reducible refine LeO.bind ?_ (fun _ => ?_))
      | exact ih0 _ _ _ _
      | exact ih1 _ _ _ _
      | exact bits_Div64.mono _ _ _ _
      | exact LeO.none _
      | refine LeO.ite ?_ ?_
      | refine LeO.bind ?_ (fun _ => ?_)
    · intro y0 y1 y2 y3
      unfold dec_Scaled.j1
      repeat' first
      | (with_reducible exact ih0 _ _ _ _)
      | (with_reducible exact ih1 _ _ _ _)
      | (with_reducible exact bits_Div64.mono _ _ _ _)
      | (with_reducible exact LeO.refl _)
      | (with_reducible exact LeO.none _)
      | (with_reducible refine LeO.ite ?_ ?_)
      | (with_reducible refine LeO.bind ?_ (fun _ => ?_))
      | exact ih0 _ _ _ _
      | exact ih1 _ _ _ _
      | exact bits_Div64.mono _ _ _ _
      | exact LeO.none _
      | refine LeO.ite ?_ ?_
      | refine LeO.bind ?_ (fun _ => ?_)
theorem dec_Scaled.mono : ∀ a0 a1 a2 k, LeO (dec_Scaled.f k a0 a1 a2) (dec_Scaled.f (k + 1) a0 a1 a2) := by
  intro a0 a1 a2 k
  obtain ⟨ih0, ih1⟩ := dec_Scaled.mono_l k
  unfold dec_Scaled.f
  repeat' first
      | (with_reducible exact ih0 _ _ _ _)
      | (with_reducible exact ih1 _ _ _ _)
      | (with_reducible exact bits_Div64.mono _ _ _ _)
      | (with_reducible exact LeO.refl _)
      | (with_reducible exact LeO.none _)
      | (with_reducible refine LeO.ite ?_ ?_)
      | (with_reducible refine LeO.bind ?_ (fun _ => ?_))
      | exact ih0 _ _ _ _
      | exact ih1 _ _ _ _
      | exact bits_Div64.mono _ _ _ _
      | exact LeO.none _
      | refine LeO.ite ?_ ?_
      | refine LeO.bind ?_ (fun _ => ?_)
set_option maxHeartbeats 8000000 in
set_option maxRecDepth 100000 in
theorem dec_Scaled.calls (k : Nat) (a0 : Int) (a1 : Int) (a2 : Int) (r1 : Int) (r2 : Bool) (w : World) (h : dec_Scaled.f k a0 a1 a2 = some (r1, r2)) :
    Calls Try.prog 77 #[.int .i64 a0, .int .i64 a1, .int .i64 a2] w fun e w' => e = .returned (.tuple #[.int .i64 r1, .bool r2]) ∧ Drawn0 w w' := by
  have H := h
  (try unfold dec_Scaled.f at H)
  clear h
  have HC4 := Aside0.mk H
  clear H
  go_enter Try.func77, Try.ntmps77
  go_upto_region 1 with (fail)
  go_cut [29] (fun v29 wc => ∃ (kq : Nat) (x29_3 : Bool), v29 = .bool x29_3 ∧ Aside0 (dec_Scaled.j0 kq a0 a1 a2 x29_3 = some (r1, r2)) ∧ Aside0 (kq ≤ k) ∧ Drawn0 w wc)
  case first =>
    have H := HC4.out
    clear HC4
    replace H := Option.bind_eq_some_iff.mp H
    obtain ⟨t108, A50, H⟩ := H
    (try dsimp only at H)
    have A5 := Aside0.mk A50
    clear A50
    by_cases c6 : t108 = true
    · subst c6
      rw [if_pos rfl] at H
      replace H := Option.bind_eq_some_iff.mp H
      obtain ⟨t109, A70, H⟩ := H
      (try dsimp only at H)
      have A7 := Aside0.mk A70
      clear A70
      by_cases c8 : t109 = true
      · subst c8
        rw [if_pos rfl] at H
        replace H := Option.bind_eq_some_iff.mp H
        obtain ⟨t110, A90, H⟩ := H
        (try dsimp only at H)
        have A9 := Aside0.mk A90
        clear A90
        by_cases c10 : t110 = true
        · subst c10
          rw [if_pos rfl] at H
          have H' := Aside0.mk H
          clear H
          go_wp2_with (first | ((with_reducible refine gate_callee (f := 31) rfl ?_); refine goD (some 14) rfl Try.func31 (dec_May.calls a0 true _ A5.out) ?_; intro nd) | (go_at_call 31; (with_reducible refine (dec_May.calls a1 true _ A7.out).mono ?_); rintro e w' ⟨rfl, ⟨nd, rfl⟩⟩; (try clear A7)) | (go_at_call 31; (with_reducible refine (dec_May.calls a2 true _ A9.out).mono ?_); rintro e w' ⟨rfl, ⟨nd, rfl⟩⟩; (try clear A9)))
          go_meet
          case rel => exact ⟨_, ((a2 == 0)), eqv, H', lev, drv⟩
        · replace c10 := Bool.eq_false_iff.mpr c10
          subst c10
          rw [if_neg (show ¬ (false = true) by decide)] at H
          have H' := Aside0.mk H
          clear H
          go_wp2_with (first | ((with_reducible refine gate_callee (f := 31) rfl ?_); refine goD (some 14) rfl Try.func31 (dec_May.calls a0 true _ A5.out) ?_; intro nd) | (go_at_call 31; (with_reducible refine (dec_May.calls a1 true _ A7.out).mono ?_); rintro e w' ⟨rfl, ⟨nd, rfl⟩⟩; (try clear A7)) | (go_at_call 31; (with_reducible refine (dec_May.calls a2 false _ A9.out).mono ?_); rintro e w' ⟨rfl, ⟨nd, rfl⟩⟩; (try clear A9)))
          go_meet
          case rel => exact ⟨_, (true), eqv, H', lev, drv⟩
      · replace c8 := Bool.eq_false_iff.mpr c8
        subst c8
        rw [if_neg (show ¬ (false = true) by decide)] at H
        have H' := Aside0.mk H
        clear H
        go_wp2_with (first | ((with_reducible refine gate_callee (f := 31) rfl ?_); refine goD (some 14) rfl Try.func31 (dec_May.calls a0 true _ A5.out) ?_; intro nd) | (go_at_call 31; (with_reducible refine (dec_May.calls a1 false _ A7.out).mono ?_); rintro e w' ⟨rfl, ⟨nd, rfl⟩⟩; (try clear A7)))
        go_meet
        case rel => exact ⟨_, (true), eqv, H', lev, drv⟩
    · replace c6 := Bool.eq_false_iff.mpr c6
      subst c6
      rw [if_neg (show ¬ (false = true) by decide)] at H
      have H' := Aside0.mk H
      clear H
      go_wp2_with (first | ((with_reducible refine gate_callee (f := 31) rfl ?_); refine goD (some 14) rfl Try.func31 (dec_May.calls a0 false _ A5.out) ?_; intro nd))
      go_meet
      case rel => exact ⟨_, (true), eqv, H', lev, drv⟩
  case rest =>
    clear HC4
    try clear c1
    try clear p2
    try clear c3
    try clear c6
    try clear c7
    try clear c8
    try clear c10
    obtain ⟨kq, x29_3, rfl, HA, HJ3, ⟨mc3, rfl⟩⟩ := hcut
    cases kq with
    | zero => exact absurd HA.out (by simp [dec_Scaled.j0])
    | succ kj3 =>
      have H := HA.out
      clear HA
      simp only [dec_Scaled.j0] at H
      by_cases c11 : x29_3 = true
      · subst c11
        rw [if_pos rfl] at H
        simp only [Option.some.injEq, Prod.mk.injEq] at H
        obtain ⟨rfl, rfl⟩ := H
        go_wp2
        go_ret2
        exact fin0
      · replace c11 := Bool.eq_false_iff.mpr c11
        subst c11
        rw [if_neg (show ¬ (false = true) by decide)] at H
        replace H := Option.bind_eq_some_iff.mp H
        obtain ⟨t111, A120, H⟩ := H
        (try dsimp only at H)
        have A12 := Aside0.mk A120
        clear A120
        replace H := Option.bind_eq_some_iff.mp H
        obtain ⟨t112, A130, H⟩ := H
        (try dsimp only at H)
        have A13 := Aside0.mk A130
        clear A130
        replace H := Option.bind_eq_some_iff.mp H
        obtain ⟨t113, A140, H⟩ := H
        (try dsimp only at H)
        have A14 := Aside0.mk A140
        clear A140
        replace H := Option.bind_eq_some_iff.mp H
        obtain ⟨⟨t114, t115⟩, A150, H⟩ := H
        (try dsimp only at H)
        have A15 := Aside0.mk A150
        clear A150
        by_cases c16 : t114 ≥ t111
        · rw [if_pos c16] at H
          have c16b0 : decide (t111 ≤ t114) = true := decide_eq_true c16
          clear c16
          simp only [Option.some.injEq, Prod.mk.injEq] at H
          obtain ⟨rfl, rfl⟩ := H
          go_wp2_with (first | ((with_reducible refine gate_callee (f := 84) rfl ?_); refine goD (some 31) rfl Try.func84 (dec_size.calls a2 t111 _ A12.out) ?_; intro nd) | ((with_reducible refine gate_callee (f := 84) rfl ?_); refine goD (some 34) rfl Try.func84 (dec_size.calls a0 t112 _ A13.out) ?_; intro nd) | ((with_reducible refine gate_callee (f := 84) rfl ?_); refine goD (some 36) rfl Try.func84 (dec_size.calls a1 t113 _ A14.out) ?_; intro nd) | ((with_reducible refine gate_callee (f := 74) rfl ?_); refine goD (some 37) rfl Try.func74 (bits_Mul64.calls t112 t113 t114 t115 _ A15.out) ?_; intro nd))
          go_ret2
          exact fin0
        · rw [if_neg c16] at H
          have c16b0 : decide (t111 ≤ t114) = false := decide_eq_false c16
          clear c16
          replace H := Option.bind_eq_some_iff.mp H
          obtain ⟨⟨t116, t117⟩, A170, H⟩ := H
          (try dsimp only at H)
          have A17 := Aside0.mk A170
          clear A170
          have HC18 := Aside0.mk H
          clear H
          go_upto_if 54 with (first | ((with_reducible refine gate_callee (f := 84) rfl ?_); refine goD (some 31) rfl Try.func84 (dec_size.calls a2 t111 _ A12.out) ?_; intro nd) | ((with_reducible refine gate_callee (f := 84) rfl ?_); refine goD (some 34) rfl Try.func84 (dec_size.calls a0 t112 _ A13.out) ?_; intro nd) | ((with_reducible refine gate_callee (f := 84) rfl ?_); refine goD (some 36) rfl Try.func84 (dec_size.calls a1 t113 _ A14.out) ?_; intro nd) | ((with_reducible refine gate_callee (f := 74) rfl ?_); refine goD (some 37) rfl Try.func74 (bits_Mul64.calls t112 t113 t114 t115 _ A15.out) ?_; intro nd) | ((with_reducible refine gate_callee (f := 85) rfl ?_); refine goD (some 47) rfl Try.func85 (bits_Div64.calls kj3 t114 t115 t111 t116 t117 _ A17.out) ?_; intro nd))
          (try simp only [Act.put, List.setIfInBounds_toArray, List.set_cons_zero, List.set_cons_succ])
          go_cut [11] (fun v11 wc => ∃ (kq : Nat) (x11_17 : Int), v11 = .int .u64 x11_17 ∧ Aside0 (dec_Scaled.j1 kq a0 a1 a2 x11_17 = some (r1, r2)) ∧ Aside0 (kq ≤ kj3) ∧ Drawn0 w wc)
          case first =>
            have H := HC18.out
            clear HC18
            by_cases c19 : t117 ≥ (IntKind.u64.wrap (t111 - t117))
            · rw [if_pos c19] at H
              have c19b0 : decide ((IntKind.u64.wrap (t111 - t117)) ≤ t117) = true := decide_eq_true c19
              clear c19
              (first | rw [c19b0] | (simp only [i64_w, i32_w]; rw [c19b0]) | skip)
              have H' := Aside0.mk H
              clear H
              go_wp2
              go_meet
              case rel => exact ⟨_, (IntKind.u64.wrap (t116 + 1)), eqv, H', ⟨by have := HJ3.out; first | omega | exact Nat.le_refl _⟩, drv⟩
            · rw [if_neg c19] at H
              have c19b0 : decide ((IntKind.u64.wrap (t111 - t117)) ≤ t117) = false := decide_eq_false c19
              clear c19
              (first | rw [c19b0] | (simp only [i64_w, i32_w]; rw [c19b0]) | skip)
              have H' := Aside0.mk H
              clear H
              go_wp2
              go_meet
              case rel => exact ⟨_, (t116), eqv, H', ⟨by have := HJ3.out; first | omega | exact Nat.le_refl _⟩, drv⟩
          case rest =>
            clear HC18
            try clear c1
            try clear p2
            try clear c3
            try clear c6
            try clear c7
            try clear c8
            try clear c10
            try clear c11
            try clear c16
            try clear c16b0
            try clear c19
            try clear c19b0
            try clear p2
            obtain ⟨kq, x11_17, rfl, HA, HJ17, ⟨mc17, rfl⟩⟩ := hcut
            cases kq with
            | zero => exact absurd HA.out (by simp [dec_Scaled.j1])
            | succ kj17 =>
              have H := HA.out
              clear HA
              simp only [dec_Scaled.j1] at H
              by_cases c20 : x11_17 > 9223372036854775807
              · rw [if_pos c20] at H
                have c20b0 : decide (9223372036854775807 < x11_17) = true := decide_eq_true c20
                clear c20
                simp only [Option.some.injEq, Prod.mk.injEq] at H
                obtain ⟨rfl, rfl⟩ := H
                go_wp2
                go_ret2
                exact fin0
              · rw [if_neg c20] at H
                have c20b0 : decide (9223372036854775807 < x11_17) = false := decide_eq_false c20
                clear c20
                replace H := Option.bind_eq_some_iff.mp H
                obtain ⟨t118, A210, H⟩ := H
                (try dsimp only at H)
                have A21 := Aside0.mk A210
                clear A210
                replace H := Option.bind_eq_some_iff.mp H
                obtain ⟨t119, A220, H⟩ := H
                (try dsimp only at H)
                have A22 := Aside0.mk A220
                clear A220
                replace H := Option.bind_eq_some_iff.mp H
                obtain ⟨t120, A230, H⟩ := H
                (try dsimp only at H)
                have A23 := Aside0.mk A230
                clear A230
                by_cases c24 : (wrap64 ((wrap64 (t118 * t119)) * t120)) < 0
                · rw [if_pos c24] at H
                  have c24b0 : decide ((wrap64 ((wrap64 (t118 * t119)) * t120)) < 0) = true := decide_eq_true c24
                  clear c24
                  simp only [Option.some.injEq, Prod.mk.injEq] at H
                  obtain ⟨rfl, rfl⟩ := H
                  go_wp2_with (first | ((with_reducible refine gate_callee (f := 26) rfl ?_); refine goD (some 60) rfl Try.func26 (dec_Sign.calls a0 t118 _ A21.out) ?_; intro nd) | ((with_reducible refine gate_callee (f := 26) rfl ?_); refine goD (some 62) rfl Try.func26 (dec_Sign.calls a1 t119 _ A22.out) ?_; intro nd) | ((with_reducible refine gate_callee (f := 26) rfl ?_); refine goD (some 65) rfl Try.func26 (dec_Sign.calls a2 t120 _ A23.out) ?_; intro nd))
                  go_ret2
                  exact fin0
                · rw [if_neg c24] at H
                  have c24b0 : decide ((wrap64 ((wrap64 (t118 * t119)) * t120)) < 0) = false := decide_eq_false c24
                  clear c24
                  simp only [Option.some.injEq, Prod.mk.injEq] at H
                  obtain ⟨rfl, rfl⟩ := H
                  go_wp2_with (first | ((with_reducible refine gate_callee (f := 26) rfl ?_); refine goD (some 60) rfl Try.func26 (dec_Sign.calls a0 t118 _ A21.out) ?_; intro nd) | ((with_reducible refine gate_callee (f := 26) rfl ?_); refine goD (some 62) rfl Try.func26 (dec_Sign.calls a1 t119 _ A22.out) ?_; intro nd) | ((with_reducible refine gate_callee (f := 26) rfl ?_); refine goD (some 65) rfl Try.func26 (dec_Sign.calls a2 t120 _ A23.out) ?_; intro nd))
                  go_ret2
                  exact fin0

/-! ### dec_Mul: function 69 -/
def dec_Mul.f (k : Nat) (a0 : Int) (a1 : Int) : Option (Int × Bool) := (dec_Scaled.f k a0 a1 10000).bind fun bt121 => (some (bt121.1, bt121.2))
theorem dec_Mul.mono : ∀ a0 a1 k, LeO (dec_Mul.f k a0 a1) (dec_Mul.f (k + 1) a0 a1) := by
  intro a0 a1 k
  unfold dec_Mul.f
  repeat' first
      | (with_reducible exact dec_Scaled.mono _ _ _ _)
      | (with_reducible exact LeO.refl _)
      | (with_reducible exact LeO.none _)
      | (with_reducible refine LeO.ite ?_ ?_)
      | (with_reducible refine LeO.bind ?_ (fun _ => ?_))
      | exact dec_Scaled.mono _ _ _ _
      | exact LeO.none _
      | refine LeO.ite ?_ ?_
      | refine LeO.bind ?_ (fun _ => ?_)
set_option maxHeartbeats 8000000 in
set_option maxRecDepth 100000 in
theorem dec_Mul.calls (k : Nat) (a0 : Int) (a1 : Int) (r1 : Int) (r2 : Bool) (w : World) (h : dec_Mul.f k a0 a1 = some (r1, r2)) :
    Calls Try.prog 69 #[.int .i64 a0, .int .i64 a1] w fun e w' => e = .returned (.tuple #[.int .i64 r1, .bool r2]) ∧ Drawn0 w w' := by
  have H := h
  (try unfold dec_Mul.f at H)
  clear h
  replace H := Option.bind_eq_some_iff.mp H
  obtain ⟨⟨t121, t122⟩, A30, H⟩ := H
  (try dsimp only at H)
  have A3 := Aside0.mk A30
  clear A30
  simp only [Option.some.injEq, Prod.mk.injEq] at H
  obtain ⟨rfl, rfl⟩ := H
  go_enter Try.func69, Try.ntmps69
  go_wp2_with (first | ((with_reducible refine gate_callee (f := 77) rfl ?_); refine goD (some 8) rfl Try.func77 (dec_Scaled.calls k a0 a1 10000 t121 t122 _ A3.out) ?_; intro nd))
  go_ret2
  exact fin0

end Go.Proofs.Ytmagefemmhfkaaa.PA
