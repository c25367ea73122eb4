-- PRINTED for this claim by wip/xprint.py (a program of this session's over the kit's print). Lean checks it.
import Derived.Test.YtmagefemmhfkaaaPBx0
import Derived.Test.YtmagefemmhfkaaaPBx2
namespace Go.Proofs.Ytmagefemmhfkaaa.PA
open Go.RowKit Go.Proofs.YtmagefemmhfkaaaW.PrintWords Go.Proofs.YtmagefemmhfkaaaW.PrintLast Go.Proofs.YtmagefemmhfkaaaW.PrintMore
attribute [local go_sem] max2_int min2_int max_two min_two max_three min_three max_four min_four   -- for this text's walks alone
set_option linter.unusedVariables false
set_option linter.unusedSimpArgs false

/-! ### round_Step: function 15 -/
mutual
def round_Step.j0 : Nat → Int → Int → Int → Bool → Option (Int × Bool)
  | 0, _, _, _, _ => none
  | k + 1, x0, x1, x2, x26 => if x26 = true then (some (0, false)) else (if x1 = 0 then (none) else (if (Int.tmod x0 x1) = 0 then (some (x0, true)) else (if x0 < 0 then (round_Step.j1 k x0 x1 x2 (Int.tmod x0 x1) (wrap64 (x0 - (Int.tmod x0 x1))) (wrap64 (-x1))) else (round_Step.j1 k x0 x1 x2 (Int.tmod x0 x1) (wrap64 (x0 - (Int.tmod x0 x1))) x1))))
def round_Step.j1 : Nat → Int → Int → Int → Int → Int → Int → Option (Int × Bool)
  | 0, _, _, _, _, _, _ => none
  | k + 1, x0, x1, x2, x8, x9, x10 => if x2 = 1 then (if (mx x8 (wrap64 (-x8))) < (wrap64 (x1 - (mx x8 (wrap64 (-x8))))) then (some (x9, true)) else ((dec_Add.f x9 x10).bind fun bt169 => (some (bt169.1, bt169.2)))) else (if x2 = 3 then ((dec_Add.f x9 x10).bind fun bt171 => (some (bt171.1, bt171.2))) else (if x2 = 4 then (if x0 < 0 then ((dec_Add.f x9 x10).bind fun bt173 => (some (bt173.1, bt173.2))) else (some (x9, true))) else (if x2 = 5 then (if x0 > 0 then ((dec_Add.f x9 x10).bind fun bt175 => (some (bt175.1, bt175.2))) else (some (x9, true))) else (some (x9, true)))))
end
def round_Step.f (k : Nat) (a0 : Int) (a1 : Int) (a2 : Int) : Option (Int × Bool) := if a1 ≤ 0 then (round_Step.j0 k a0 a1 a2 true) else ((dec_May.f a0).bind fun t168 => (if t168 = true then (if a2 < 1 then (round_Step.j0 k a0 a1 a2 true) else (round_Step.j0 k a0 a1 a2 (decide (a2 > 5)))) else (round_Step.j0 k a0 a1 a2 true)))
theorem round_Step.mono_l : ∀ k, (∀ y0 y1 y2 y3, LeO (round_Step.j0 k y0 y1 y2 y3) (round_Step.j0 (k + 1) y0 y1 y2 y3)) ∧ (∀ y0 y1 y2 y3 y4 y5, LeO (round_Step.j1 k y0 y1 y2 y3 y4 y5) (round_Step.j1 (k + 1) y0 y1 y2 y3 y4 y5))
  | 0 => ⟨fun _ _ _ _ r h => by simp [round_Step.j0] at h, fun _ _ _ _ _ _ r h => by simp [round_Step.j1] at h⟩
  | k + 1 => by
    obtain ⟨ih0, ih1⟩ := round_Step.mono_l k
    refine ⟨?_, ?_⟩
    · intro y0 y1 y2 y3
      unfold round_Step.j0
      repeat' first
      | (with_reducible exact ih0 _ _ _ _)
      | (with_reducible exact ih1 _ _ _ _ _ _)
      | (with_reducible exact LeO.refl _)
      | (with_reducible exact LeO.none _)
      | (with_reducible refine LeO.ite ?_ ?_)
      | (with_reducible refine LeO.bind ?_ (fun _ => ?_))
      | exact ih0 _ _ _ _
      | exact ih1 _ _ _ _ _ _
      | exact LeO.none _
      | refine LeO.ite ?_ ?_
      | refine LeO.bind ?_ (fun _ => ?_)
    · intro y0 y1 y2 y3 y4 y5
      unfold round_Step.j1
      repeat' first
      | (with_reducible exact ih0 _ _ _ _)
      | (with_reducible exact ih1 _ _ _ _ _ _)
      | (with_reducible exact LeO.refl _)
      | (with_reducible exact LeO.none _)
      | (with_reducible refine LeO.ite ?_ ?_)
      | (with_reducible refine LeO.bind ?_ (fun _ => ?_))
      | exact ih0 _ _ _ _
      | exact ih1 _ _ _ _ _ _
      | exact LeO.none _
      | refine LeO.ite ?_ ?_
      | refine LeO.bind ?_ (fun _ => ?_)
theorem round_Step.mono : ∀ a0 a1 a2 k, LeO (round_Step.f k a0 a1 a2) (round_Step.f (k + 1) a0 a1 a2) := by
  intro a0 a1 a2 k
  obtain ⟨ih0, ih1⟩ := round_Step.mono_l k
  unfold round_Step.f
  repeat' first
      | (with_reducible exact ih0 _ _ _ _)
      | (with_reducible exact ih1 _ _ _ _ _ _)
      | (with_reducible exact LeO.refl _)
      | (with_reducible exact LeO.none _)
      | (with_reducible refine LeO.ite ?_ ?_)
      | (with_reducible refine LeO.bind ?_ (fun _ => ?_))
      | exact ih0 _ _ _ _
      | exact ih1 _ _ _ _ _ _
      | exact LeO.none _
      | refine LeO.ite ?_ ?_
      | refine LeO.bind ?_ (fun _ => ?_)
set_option maxHeartbeats 8000000 in
set_option maxRecDepth 100000 in
theorem round_Step.calls (k : Nat) (a0 : Int) (a1 : Int) (a2 : Int) (r1 : Int) (r2 : Bool) (w : World) (h : round_Step.f k a0 a1 a2 = some (r1, r2)) :
    Calls Try.prog 15 #[.int .i64 a0, .int .i64 a1, .int .i64 a2] w fun e w' => e = .returned (.tuple #[.int .i64 r1, .bool r2]) ∧ Below w.heap.size w w' := by
  have HB := Aside0.mk (Below.refl w.heap.size w)
  have H := h
  (try unfold round_Step.f at H)
  clear h
  have HC4 := Aside0.mk H
  clear H
  go_enter Try.func15, Try.ntmps15
  go_upto_region 1 with (fail)
  go_cut [26] (fun v26 wc => ∃ (kq : Nat) (x26_3 : Bool), v26 = .bool x26_3 ∧ Aside0 (round_Step.j0 kq a0 a1 a2 x26_3 = some (r1, r2)) ∧ Aside0 (kq ≤ k) ∧ Aside0 (Below w.heap.size w wc))
  case first =>
    have H := HC4.out
    clear HC4
    by_cases c5 : a1 ≤ 0
    · rw [if_pos c5] at H
      have c5b0 : decide (a1 ≤ 0) = true := decide_eq_true c5
      clear c5
      (first | rw [c5b0] | (simp only [i64_w, i32_w]; rw [c5b0]) | skip)
      have H' := Aside0.mk H
      clear H
      go_wp2
      go_meet
      case rel => exact ⟨_, (true), eqv, H', lev, blv⟩
    · rw [if_neg c5] at H
      have c5b0 : decide (a1 ≤ 0) = false := decide_eq_false c5
      clear c5
      (first | rw [c5b0] | (simp only [i64_w, i32_w]; rw [c5b0]) | skip)
      replace H := Option.bind_eq_some_iff.mp H
      obtain ⟨t168, A60, H⟩ := H
      (try dsimp only at H)
      have A6 := Aside0.mk A60
      clear A60
      by_cases c7 : t168 = true
      · subst c7
        rw [if_pos rfl] at H
        by_cases c8 : a2 < 1
        · rw [if_pos c8] at H
          have c8b0 : decide (a2 < 1) = true := decide_eq_true c8
          clear c8
          have H' := Aside0.mk H
          clear H
          go_wp2_with (first | (go_at_call 31; (with_reducible refine (dec_May.calls a0 true _ A6.out).mono ?_); rintro e w' ⟨rfl, ⟨nd, rfl⟩⟩; (try clear A6)))
          go_meet
          case rel => exact ⟨_, (true), eqv, H', lev, blv⟩
        · rw [if_neg c8] at H
          have c8b0 : decide (a2 < 1) = false := decide_eq_false c8
          clear c8
          have H' := Aside0.mk H
          clear H
          go_wp2_with (first | (go_at_call 31; (with_reducible refine (dec_May.calls a0 true _ A6.out).mono ?_); rintro e w' ⟨rfl, ⟨nd, rfl⟩⟩; (try clear A6)))
          go_meet
          case rel => exact ⟨_, (decide (a2 > 5)), eqv, H', lev, blv⟩
      · replace c7 := Bool.eq_false_iff.mpr c7
        subst c7
        rw [if_neg (show ¬ (false = true) by decide)] at H
        have H' := Aside0.mk H
        clear H
        go_wp2_with (first | (go_at_call 31; (with_reducible refine (dec_May.calls a0 false _ A6.out).mono ?_); rintro e w' ⟨rfl, ⟨nd, rfl⟩⟩; (try clear A6)))
        go_meet
        case rel => exact ⟨_, (true), eqv, H', lev, blv⟩
  case rest =>
    clear HC4
    try clear c1
    try clear p2
    try clear c5
    try clear c5b0
    try clear c7
    try clear c8
    try clear c8b0
    obtain ⟨kq, x26_3, rfl, HA, HJ3, HB⟩ := hcut
    cases kq with
    | zero => exact absurd HA.out (by simp [round_Step.j0])
    | succ kj3 =>
      have H := HA.out
      clear HA
      simp only [round_Step.j0] at H
      by_cases c9 : x26_3 = true
      · subst c9
        rw [if_pos rfl] at H
        simp only [Option.some.injEq, Prod.mk.injEq] at H
        obtain ⟨rfl, rfl⟩ := H
        go_wp2
        go_ret2
        exact finB
      · replace c9 := Bool.eq_false_iff.mpr c9
        subst c9
        rw [if_neg (show ¬ (false = true) by decide)] at H
        by_cases c10 : a1 = 0
        · rw [if_pos c10] at H
          exact absurd H (by simp)
        · rw [if_neg c10] at H
          have c10b0 : (a1 == 0) = false := beq_eq_false_iff_ne.mpr c10
          have c10b1 : (a1 != 0) = true := bne_iff_ne.mpr c10
          by_cases c11 : (Int.tmod a0 a1) = 0
          · rw [if_pos c11] at H
            have c11b0 : ((Int.tmod a0 a1) == 0) = true := beq_iff_eq.mpr c11
            have c11b1 : ((Int.tmod a0 a1) != 0) = false := bne_eq_false_iff_eq.mpr c11
            clear c11
            simp only [Option.some.injEq, Prod.mk.injEq] at H
            obtain ⟨rfl, rfl⟩ := H
            go_wp2
            go_ret2
            exact finB
          · rw [if_neg c11] at H
            have c11b0 : ((Int.tmod a0 a1) == 0) = false := beq_eq_false_iff_ne.mpr c11
            have c11b1 : ((Int.tmod a0 a1) != 0) = true := bne_iff_ne.mpr c11
            have HC12 := Aside0.mk H
            clear H
            go_upto_if 38 with (fail)
            go_cut [10] (fun v10 wc => ∃ (kq : Nat) (x10_11 : Int), v10 = .int .i64 x10_11 ∧ Aside0 (round_Step.j1 kq a0 a1 a2 (Int.tmod a0 a1) (wrap64 (a0 - (Int.tmod a0 a1))) x10_11 = some (r1, r2)) ∧ Aside0 (kq ≤ kj3) ∧ Aside0 (Below w.heap.size w wc))
            case first =>
              have H := HC12.out
              clear HC12
              by_cases c13 : a0 < 0
              · rw [if_pos c13] at H
                have c13b0 : decide (a0 < 0) = true := decide_eq_true c13
                clear c13
                (first | rw [c13b0] | (simp only [i64_w, i32_w]; rw [c13b0]) | skip)
                have H' := Aside0.mk H
                clear H
                go_wp2
                go_meet
                case rel => exact ⟨_, (wrap64 (-a1)), eqv, H', ⟨by have := HJ3.out; first | omega | exact Nat.le_refl _⟩, blv⟩
              · rw [if_neg c13] at H
                have c13b0 : decide (a0 < 0) = false := decide_eq_false c13
                clear c13
                (first | rw [c13b0] | (simp only [i64_w, i32_w]; rw [c13b0]) | skip)
                have H' := Aside0.mk H
                clear H
                go_wp2
                go_meet
                case rel => exact ⟨_, (a1), eqv, H', ⟨by have := HJ3.out; first | omega | exact Nat.le_refl _⟩, blv⟩
            case rest =>
              clear HC12
              try clear c1
              try clear p2
              try clear c5
              try clear c5b0
              try clear p6
              try clear c7
              try clear c8
              try clear c8b0
              try clear c9
              try clear c10
              try clear c10b0
              try clear c10b1
              try clear c11
              try clear c11b0
              try clear c11b1
              try clear c13
              try clear c13b0
              try clear p2
              obtain ⟨kq, x10_11, rfl, HA, HJ11, HB⟩ := hcut
              cases kq with
              | zero => exact absurd HA.out (by simp [round_Step.j1])
              | succ kj11 =>
                have H := HA.out
                clear HA
                simp only [round_Step.j1] at H
                by_cases c14 : a2 = 1
                · rw [if_pos c14] at H
                  have c14b0 : (a2 == 1) = true := beq_iff_eq.mpr c14
                  have c14b1 : (a2 != 1) = false := bne_eq_false_iff_eq.mpr c14
                  clear c14
                  obtain ⟨ji15, hji15⟩ : ∃ j_ : Int, (mx (Int.tmod a0 a1) (wrap64 (-(Int.tmod a0 a1)))) = j_ := ⟨_, rfl⟩
                  replace H : (if (ji15) < (wrap64 (a1 - (ji15))) then (some ((wrap64 (a0 - (Int.tmod a0 a1))), true)) else ((dec_Add.f (wrap64 (a0 - (Int.tmod a0 a1))) x10_11).bind fun bt169 => (some (bt169.1, bt169.2)))) = some (r1, r2) := by first | (rw [hji15] at H; exact H) | (simp only [hji15] at H ⊢; exact H)
                  have hji15_ : (if (Int.tmod a0 a1) < (wrap64 (-(Int.tmod a0 a1))) then (wrap64 (-(Int.tmod a0 a1))) else (Int.tmod a0 a1)) = ji15 := hji15
                  by_cases c16 : (ji15) < (wrap64 (a1 - (ji15)))
                  · rw [if_pos c16] at H
                    have c16b0 : decide ((ji15) < (wrap64 (a1 - (ji15)))) = true := decide_eq_true c16
                    clear c16
                    simp only [Option.some.injEq, Prod.mk.injEq] at H
                    obtain ⟨rfl, rfl⟩ := H
                    go_wp2
                    go_ret2
                    exact ⟨by first | rfl | (simp [errW_none, errW_some] <;> rfl) | (simp only [← hji15]; first | rfl | (simp [errW_none, errW_some] <;> rfl)) | (simp [*, errW_none, errW_some] <;> rfl), by repeat (first | (with_reducible first | exact HB.out | apply below_alloc | apply pw_below_drewN | apply below_drew1) | exact HB.out)⟩
                  · rw [if_neg c16] at H
                    have c16b0 : decide ((ji15) < (wrap64 (a1 - (ji15)))) = false := decide_eq_false c16
                    clear c16
                    replace H := Option.bind_eq_some_iff.mp H
                    obtain ⟨⟨t169, t170⟩, A170, H⟩ := H
                    (try dsimp only at H)
                    have A17 := Aside0.mk A170
                    clear A170
                    simp only [Option.some.injEq, Prod.mk.injEq] at H
                    obtain ⟨rfl, rfl⟩ := H
                    go_wp2_with (first | ((with_reducible refine gate_callee (f := 27) rfl ?_); refine goD (some 56) rfl Try.func27 (dec_Add.calls (wrap64 (a0 - (Int.tmod a0 a1))) x10_11 t169 t170 _ A17.out) ?_; intro nd))
                    go_ret2
                    exact ⟨by first | rfl | (simp [errW_none, errW_some] <;> rfl) | (simp only [← hji15]; first | rfl | (simp [errW_none, errW_some] <;> rfl)) | (simp [*, errW_none, errW_some] <;> rfl), by repeat (first | (with_reducible first | exact HB.out | apply below_alloc | apply pw_below_drewN | apply below_drew1) | exact HB.out)⟩
                · rw [if_neg c14] at H
                  have c14b0 : (a2 == 1) = false := beq_eq_false_iff_ne.mpr c14
                  have c14b1 : (a2 != 1) = true := bne_iff_ne.mpr c14
                  by_cases c18 : a2 = 3
                  · rw [if_pos c18] at H
                    have c18b0 : (a2 == 3) = true := beq_iff_eq.mpr c18
                    have c18b1 : (a2 != 3) = false := bne_eq_false_iff_eq.mpr c18
                    clear c18
                    replace H := Option.bind_eq_some_iff.mp H
                    obtain ⟨⟨t171, t172⟩, A190, H⟩ := H
                    (try dsimp only at H)
                    have A19 := Aside0.mk A190
                    clear A190
                    simp only [Option.some.injEq, Prod.mk.injEq] at H
                    obtain ⟨rfl, rfl⟩ := H
                    go_wp2_with (first | ((with_reducible refine gate_callee (f := 27) rfl ?_); refine goD (some 63) rfl Try.func27 (dec_Add.calls (wrap64 (a0 - (Int.tmod a0 a1))) x10_11 t171 t172 _ A19.out) ?_; intro nd))
                    go_ret2
                    exact finB
                  · rw [if_neg c18] at H
                    have c18b0 : (a2 == 3) = false := beq_eq_false_iff_ne.mpr c18
                    have c18b1 : (a2 != 3) = true := bne_iff_ne.mpr c18
                    by_cases c20 : a2 = 4
                    · rw [if_pos c20] at H
                      have c20b0 : (a2 == 4) = true := beq_iff_eq.mpr c20
                      have c20b1 : (a2 != 4) = false := bne_eq_false_iff_eq.mpr c20
                      clear c20
                      by_cases c21 : a0 < 0
                      · rw [if_pos c21] at H
                        have c21b0 : decide (a0 < 0) = true := decide_eq_true c21
                        clear c21
                        replace H := Option.bind_eq_some_iff.mp H
                        obtain ⟨⟨t173, t174⟩, A220, H⟩ := H
                        (try dsimp only at H)
                        have A22 := Aside0.mk A220
                        clear A220
                        simp only [Option.some.injEq, Prod.mk.injEq] at H
                        obtain ⟨rfl, rfl⟩ := H
                        go_wp2_with (first | ((with_reducible refine gate_callee (f := 27) rfl ?_); refine goD (some 72) rfl Try.func27 (dec_Add.calls (wrap64 (a0 - (Int.tmod a0 a1))) x10_11 t173 t174 _ A22.out) ?_; intro nd))
                        go_ret2
                        exact finB
                      · rw [if_neg c21] at H
                        have c21b0 : decide (a0 < 0) = false := decide_eq_false c21
                        clear c21
                        simp only [Option.some.injEq, Prod.mk.injEq] at H
                        obtain ⟨rfl, rfl⟩ := H
                        go_wp2
                        go_ret2
                        exact finB
                    · rw [if_neg c20] at H
                      have c20b0 : (a2 == 4) = false := beq_eq_false_iff_ne.mpr c20
                      have c20b1 : (a2 != 4) = true := bne_iff_ne.mpr c20
                      by_cases c23 : a2 = 5
                      · rw [if_pos c23] at H
                        have c23b0 : (a2 == 5) = true := beq_iff_eq.mpr c23
                        have c23b1 : (a2 != 5) = false := bne_eq_false_iff_eq.mpr c23
                        clear c23
                        by_cases c24 : a0 > 0
                        · rw [if_pos c24] at H
                          have c24b0 : decide (0 < a0) = true := decide_eq_true c24
                          clear c24
                          replace H := Option.bind_eq_some_iff.mp H
                          obtain ⟨⟨t175, t176⟩, A250, H⟩ := H
                          (try dsimp only at H)
                          have A25 := Aside0.mk A250
                          clear A250
                          simp only [Option.some.injEq, Prod.mk.injEq] at H
                          obtain ⟨rfl, rfl⟩ := H
                          go_wp2_with (first | ((with_reducible refine gate_callee (f := 27) rfl ?_); refine goD (some 81) rfl Try.func27 (dec_Add.calls (wrap64 (a0 - (Int.tmod a0 a1))) x10_11 t175 t176 _ A25.out) ?_; intro nd))
                          go_ret2
                          exact finB
                        · rw [if_neg c24] at H
                          have c24b0 : decide (0 < a0) = false := decide_eq_false c24
                          clear c24
                          simp only [Option.some.injEq, Prod.mk.injEq] at H
                          obtain ⟨rfl, rfl⟩ := H
                          go_wp2
                          go_ret2
                          exact finB
                      · rw [if_neg c23] at H
                        have c23b0 : (a2 == 5) = false := beq_eq_false_iff_ne.mpr c23
                        have c23b1 : (a2 != 5) = true := bne_iff_ne.mpr c23
                        simp only [Option.some.injEq, Prod.mk.injEq] at H
                        obtain ⟨rfl, rfl⟩ := H
                        go_wp2
                        go_ret2
                        exact finB

end Go.Proofs.Ytmagefemmhfkaaa.PA
