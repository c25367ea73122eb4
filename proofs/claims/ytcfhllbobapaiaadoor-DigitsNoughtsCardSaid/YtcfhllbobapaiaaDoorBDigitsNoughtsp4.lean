/- Texts that DigitsNoughts rests on. -/
import Derived.Test.YtcfhllbobapaiaaDoorBDigitsNoughtsp0
import Derived.Test.YtcfhllbobapaiaaDoorBDigitsNoughtsp3
import Derived.Test.YtcfhllbobapaiaaDoorBDigitsNoughtsp2

namespace Go.Proofs.YtcfhllbobapaiaaDoor.PA
open Go.RowKit Go.Proofs.YtcfhllbobapaiaaDoorW.PrintWords Go.Proofs.YtcfhllbobapaiaaDoorW.PrintLast Go.Proofs.YtcfhllbobapaiaaDoorW.PrintMore
attribute [local go_sem] max2_int min2_int max_two min_two max_three min_three max_four min_four
set_option linter.unusedVariables false
set_option linter.unusedSimpArgs false
mutual
def digits_Lead.j1 : Nat → ByteArray → Int → Option (Int × Int × Bool)
  | 0, _, _ => none
  | k + 1, x0, x5 => if x5 > 0 then (if x5 < (x0.size : Int) then (if 0 ≤ x5 then (if (bt x0 x5) = 46 then ((digits_digit.f x0 (wrap64 (x5 + 1))).bind fun t163 => (digits_Lead.j2 k x0 x5 t163)) else (digits_Lead.j2 k x0 x5 false)) else (none)) else (digits_Lead.j2 k x0 x5 false)) else (digits_Lead.j2 k x0 x5 false)
def digits_Lead.j2 : Nat → ByteArray → Int → Bool → Option (Int × Int × Bool)
  | 0, _, _, _ => none
  | k + 1, x0, x5, x37 => if x37 = true then (digits_Lead.l1 k x0 x5 (wrap64 (x5 + 1))) else (if 0 ≤ x5 then (if x5 ≤ (x0.size : Int) then ((digits_Read.f k (x0.extract 0 (x5 : Int).toNat)).bind fun bt169 => (if bt169.2 = true then (some (bt169.1, x5, true)) else (some (0, 0, false)))) else (none)) else (none))
def digits_Lead.l1 : Nat → ByteArray → Int → Int → Option (Int × Int × Bool)
  | 0, _, _, _ => none
  | k + 1, x0, x5, x6 => if x6 ≤ (wrap64 (x5 + 4)) then ((digits_digit.f x0 x6).bind fun t164 => (if t164 = true then (digits_Lead.l1 k x0 x5 (wrap64 (x6 + 1))) else (if 0 ≤ x6 then (if x6 ≤ (x0.size : Int) then ((digits_Read.f k (x0.extract 0 (x6 : Int).toNat)).bind fun bt165 => (if bt165.2 = true then (some (bt165.1, x6, true)) else (some (0, 0, false)))) else (none)) else (none)))) else (if 0 ≤ x6 then (if x6 ≤ (x0.size : Int) then ((digits_Read.f k (x0.extract 0 (x6 : Int).toNat)).bind fun bt167 => (if bt167.2 = true then (some (bt167.1, x6, true)) else (some (0, 0, false)))) else (none)) else (none))
def digits_Lead.l0 : Nat → ByteArray → Int → Option (Int × Int × Bool)
  | 0, _, _ => none
  | k + 1, x0, x5 => if x5 < 30 then ((digits_digit.f x0 x5).bind fun t162 => (if t162 = true then (digits_Lead.l0 k x0 (wrap64 (x5 + 1))) else (digits_Lead.j1 k x0 x5))) else (digits_Lead.j1 k x0 x5)
end
def digits_Lead.f (k : Nat) (a0 : ByteArray) : Option (Int × Int × Bool) := digits_Lead.l0 k a0 0
theorem digits_Lead.mono_l : ∀ k, (∀ y0 y1, LeO (digits_Lead.j1 k y0 y1) (digits_Lead.j1 (k + 1) y0 y1)) ∧ (∀ y0 y1 y2, LeO (digits_Lead.j2 k y0 y1 y2) (digits_Lead.j2 (k + 1) y0 y1 y2)) ∧ (∀ y0 y1 y2, LeO (digits_Lead.l1 k y0 y1 y2) (digits_Lead.l1 (k + 1) y0 y1 y2)) ∧ (∀ y0 y1, LeO (digits_Lead.l0 k y0 y1) (digits_Lead.l0 (k + 1) y0 y1))
  | 0 => ⟨fun _ _ r h => by simp [digits_Lead.j1] at h, fun _ _ _ r h => by simp [digits_Lead.j2] at h, fun _ _ _ r h => by simp [digits_Lead.l1] at h, fun _ _ r h => by simp [digits_Lead.l0] at h⟩
  | k + 1 => by
    obtain ⟨ih0, ih1, ih2, ih3⟩ := digits_Lead.mono_l k
    refine ⟨?_, ?_, ?_, ?_⟩
    · intro y0 y1
      unfold digits_Lead.j1
      repeat' first
      | (with_reducible exact ih0 _ _)
      | (with_reducible exact ih1 _ _ _)
      | (with_reducible exact ih2 _ _ _)
      | (with_reducible exact ih3 _ _)
      | (with_reducible exact digits_Read.mono _ _)
      | (with_reducible exact LeO.refl _)
      | (with_reducible exact LeO.none _)
      | (with_reducible refine LeO.ite ?_ ?_)
      | (with_reducible refine LeO.bind ?_ (fun _ => ?_))
      | exact ih0 _ _
      | exact ih1 _ _ _
      | exact ih2 _ _ _
      | exact ih3 _ _
      | exact digits_Read.mono _ _
      | exact LeO.none _
      | refine LeO.ite ?_ ?_
      | refine LeO.bind ?_ (fun _ => ?_)
    · intro y0 y1 y2
      unfold digits_Lead.j2
      repeat' first
      | (with_reducible exact ih0 _ _)
      | (with_reducible exact ih1 _ _ _)
      | (with_reducible exact ih2 _ _ _)
      | (with_reducible exact ih3 _ _)
      | (with_reducible exact digits_Read.mono _ _)
      | (with_reducible exact LeO.refl _)
      | (with_reducible exact LeO.none _)
      | (with_reducible refine LeO.ite ?_ ?_)
      | (with_reducible refine LeO.bind ?_ (fun _ => ?_))
      | exact ih0 _ _
      | exact ih1 _ _ _
      | exact ih2 _ _ _
      | exact ih3 _ _
      | exact digits_Read.mono _ _
      | exact LeO.none _
      | refine LeO.ite ?_ ?_
      | refine LeO.bind ?_ (fun _ => ?_)
    · intro y0 y1 y2
      unfold digits_Lead.l1
      repeat' first
      | (with_reducible exact ih0 _ _)
      | (with_reducible exact ih1 _ _ _)
      | (with_reducible exact ih2 _ _ _)
      | (with_reducible exact ih3 _ _)
      | (with_reducible exact digits_Read.mono _ _)
      | (with_reducible exact LeO.refl _)
      | (with_reducible exact LeO.none _)
      | (with_reducible refine LeO.ite ?_ ?_)
      | (with_reducible refine LeO.bind ?_ (fun _ => ?_))
      | exact ih0 _ _
      | exact ih1 _ _ _
      | exact ih2 _ _ _
      | exact ih3 _ _
      | exact digits_Read.mono _ _
      | exact LeO.none _
      | refine LeO.ite ?_ ?_
      | refine LeO.bind ?_ (fun _ => ?_)
    · intro y0 y1
      unfold digits_Lead.l0
      repeat' first
      | (with_reducible exact ih0 _ _)
      | (with_reducible exact ih1 _ _ _)
      | (with_reducible exact ih2 _ _ _)
      | (with_reducible exact ih3 _ _)
      | (with_reducible exact digits_Read.mono _ _)
      | (with_reducible exact LeO.refl _)
      | (with_reducible exact LeO.none _)
      | (with_reducible refine LeO.ite ?_ ?_)
      | (with_reducible refine LeO.bind ?_ (fun _ => ?_))
      | exact ih0 _ _
      | exact ih1 _ _ _
      | exact ih2 _ _ _
      | exact ih3 _ _
      | exact digits_Read.mono _ _
      | exact LeO.none _
      | refine LeO.ite ?_ ?_
      | refine LeO.bind ?_ (fun _ => ?_)
theorem digits_Lead.mono : ∀ a0 k, LeO (digits_Lead.f k a0) (digits_Lead.f (k + 1) a0) := by
  intro a0 k
  obtain ⟨ih0, ih1, ih2, ih3⟩ := digits_Lead.mono_l k
  unfold digits_Lead.f
  repeat' first
      | (with_reducible exact ih0 _ _)
      | (with_reducible exact ih1 _ _ _)
      | (with_reducible exact ih2 _ _ _)
      | (with_reducible exact ih3 _ _)
      | (with_reducible exact digits_Read.mono _ _)
      | (with_reducible exact LeO.refl _)
      | (with_reducible exact LeO.none _)
      | (with_reducible refine LeO.ite ?_ ?_)
      | (with_reducible refine LeO.bind ?_ (fun _ => ?_))
      | exact ih0 _ _
      | exact ih1 _ _ _
      | exact ih2 _ _ _
      | exact ih3 _ _
      | exact digits_Read.mono _ _
      | exact LeO.none _
      | refine LeO.ite ?_ ?_
      | refine LeO.bind ?_ (fun _ => ?_)
set_option maxHeartbeats 8000000 in
set_option maxRecDepth 100000 in
theorem digits_Lead.calls (k : Nat) (a0 : ByteArray) (r1 : Int) (r2 : Int) (r3 : Bool) (w : World) (hT_ : Go.Proofs.YtcfhllbobapaiaaDoorW.XTabs.Tabs w) (h : digits_Lead.f k a0 = some (r1, r2, r3)) :
    Calls Tryd.prog 22 #[.string a0] w fun e w' => e = .returned (.tuple #[.int .i64 r1, .int .i64 r2, .bool r3]) ∧ Drawn0 w w' := by
  have H := h
  (try unfold digits_Lead.f at H)
  clear h
  have HC2 := Aside0.mk H
  clear H
  go_enter Tryd.func22, Tryd.ntmps22
  go_upto_block 0 with (fail)
  go_cut [5] (fun v5 wc => ∃ (kq : Nat) (x5_1 : Int), v5 = .int .i64 x5_1 ∧ Aside0 (digits_Lead.j1 kq a0 x5_1 = some (r1, r2, r3)) ∧ Aside0 (kq ≤ k) ∧ Drawn0 w wc)
  case first =>
    have H := HC2.out
    clear HC2
    have H' := Aside0.mk H
    clear H
    go_wp2
    go_loopg [5] k (fun kq v5 w' => ∃ (x5_1 : Int), v5 = .int .i64 x5_1 ∧ Aside0 (digits_Lead.l0 kq a0 x5_1 = some (r1, r2, r3)) ∧ Aside0 (kq ≤ k) ∧ Drawn0 w w')
    case atStart => exact ⟨(0), eqv, H', ⟨Nat.le_refl _⟩, drv⟩
    case round =>
      clear H'
      try clear c2
      try clear p2
      obtain ⟨x5_1, rfl, HA, HK1, ⟨m1, rfl⟩⟩ := hrel
      cases gk with
      | zero => exact absurd HA.out (by simp [digits_Lead.l0])
      | succ k1 =>
        have H := HA.out
        clear HA
        simp only [digits_Lead.l0] at H
        by_cases c3 : x5_1 < 30
        · rw [if_pos c3] at H
          have c3b0 : decide (x5_1 < 30) = true := decide_eq_true c3
          clear c3
          (first | rw [c3b0] | (simp only [i64_w, i32_w]; rw [c3b0]) | skip)
          replace H := Option.bind_eq_some_iff.mp H
          obtain ⟨t162, A40, H⟩ := H
          (try dsimp only at H)
          have A4 := Aside0.mk A40
          clear A40
          by_cases c5 : t162 = true
          · subst c5
            rw [if_pos rfl] at H
            have H' := Aside0.mk H
            clear H
            go_wp2_with (first | (go_at_call 74; (with_reducible refine (digits_digit.calls a0 x5_1 true _ A4.out).mono ?_); rintro e w' ⟨rfl, ⟨nd, rfl⟩⟩; (try clear A4)))
            go_roundg k1
            case measure => have := HK1.out; omega
            case rel => exact ⟨(wrap64 (x5_1 + 1)), eqv, H', ⟨by have := HK1.out; omega⟩, drv⟩
          · replace c5 := Bool.eq_false_iff.mpr c5
            subst c5
            rw [if_neg (show ¬ (false = true) by decide)] at H
            have H' := Aside0.mk H
            clear H
            go_wp2_with (first | (go_at_call 74; (with_reducible refine (digits_digit.calls a0 x5_1 false _ A4.out).mono ?_); rintro e w' ⟨rfl, ⟨nd, rfl⟩⟩; (try clear A4)))
            go_meet
            case rel => exact ⟨_, (x5_1), eqv, H', ⟨by have := HK1.out; first | omega | exact Nat.le_refl _⟩, drv⟩
        · rw [if_neg c3] at H
          have c3b0 : decide (x5_1 < 30) = false := decide_eq_false c3
          clear c3
          (first | rw [c3b0] | (simp only [i64_w, i32_w]; rw [c3b0]) | skip)
          have H' := Aside0.mk H
          clear H
          go_wp2
          go_meet
          case rel => exact ⟨_, (x5_1), eqv, H', ⟨by have := HK1.out; first | omega | exact Nat.le_refl _⟩, drv⟩
  case rest =>
    clear HC2
    try clear c2
    try clear p2
    try clear c3
    try clear c3b0
    try clear c5
    try clear p2
    obtain ⟨kq, x5_1, rfl, HA, HJ1, ⟨mc1, rfl⟩⟩ := hcut
    cases kq with
    | zero => exact absurd HA.out (by simp [digits_Lead.j1])
    | succ kj1 =>
      have H := HA.out
      clear HA
      simp only [digits_Lead.j1] at H
      have HC6 := Aside0.mk H
      clear H
      go_upto_region 4 with (fail)
      go_cut [37] (fun v37 wc => ∃ (kq : Nat) (x37_5 : Bool), v37 = .bool x37_5 ∧ Aside0 (digits_Lead.j2 kq a0 x5_1 x37_5 = some (r1, r2, r3)) ∧ Aside0 (kq ≤ kj1) ∧ Drawn0 w wc)
      case first =>
        have H := HC6.out
        clear HC6
        by_cases c7 : x5_1 > 0
        · rw [if_pos c7] at H
          have c7b0 : decide (0 < x5_1) = true := decide_eq_true c7
          clear c7
          (first | rw [c7b0] | (simp only [i64_w, i32_w]; rw [c7b0]) | skip)
          by_cases c8 : x5_1 < (a0.size : Int)
          · rw [if_pos c8] at H
            have c8b0 : decide (x5_1 < (a0.size : Int)) = true := decide_eq_true c8
            clear c8
            by_cases c9 : 0 ≤ x5_1
            · rw [if_pos c9] at H
              have c9b0 : decide (0 ≤ x5_1) = true := decide_eq_true c9
              clear c9
              by_cases c11 : (bt a0 x5_1) = 46
              · rw [if_pos c11] at H
                have c11b0 : ((bt a0 x5_1) == 46) = true := beq_iff_eq.mpr c11
                have c11b1 : ((bt a0 x5_1) != 46) = false := bne_eq_false_iff_eq.mpr c11
                clear c11
                replace H := Option.bind_eq_some_iff.mp H
                obtain ⟨t163, A120, H⟩ := H
                (try dsimp only at H)
                have A12 := Aside0.mk A120
                clear A120
                have H' := Aside0.mk H
                clear H
                have p10 : 0 ≤ (x5_1 : Int) := of_decide_eq_true (by first | (with_reducible assumption) | assumption)
                have q10 : x5_1 < (a0.size : Int) := of_decide_eq_true (by first | (with_reducible assumption) | assumption)
                have hx10 := bt_at a0 x5_1
                replace p10 := eq_true p10
                replace q10 := eq_true q10
                go_wp2_with (first | (go_at_call 74; (with_reducible refine (digits_digit.calls a0 (wrap64 (x5_1 + 1)) t163 _ A12.out).mono ?_); rintro e w' ⟨rfl, ⟨nd, rfl⟩⟩; (try clear A12)))
                go_meet
                case rel => exact ⟨_, (t163), eqv, H', ⟨by have := HJ1.out; first | omega | exact Nat.le_refl _⟩, drv⟩
              · rw [if_neg c11] at H
                have c11b0 : ((bt a0 x5_1) == 46) = false := beq_eq_false_iff_ne.mpr c11
                have c11b1 : ((bt a0 x5_1) != 46) = true := bne_iff_ne.mpr c11
                have H' := Aside0.mk H
                clear H
                have p10 : 0 ≤ (x5_1 : Int) := of_decide_eq_true (by first | (with_reducible assumption) | assumption)
                have q10 : x5_1 < (a0.size : Int) := of_decide_eq_true (by first | (with_reducible assumption) | assumption)
                have hx10 := bt_at a0 x5_1
                replace p10 := eq_true p10
                replace q10 := eq_true q10
                go_wp2
                go_meet
                case rel => exact ⟨_, (false), eqv, H', ⟨by have := HJ1.out; first | omega | exact Nat.le_refl _⟩, drv⟩
            · rw [if_neg c9] at H
              exact absurd H (by simp)
          · rw [if_neg c8] at H
            have c8b0 : decide (x5_1 < (a0.size : Int)) = false := decide_eq_false c8
            clear c8
            have H' := Aside0.mk H
            clear H
            go_wp2
            go_meet
            case rel => exact ⟨_, (false), eqv, H', ⟨by have := HJ1.out; first | omega | exact Nat.le_refl _⟩, drv⟩
        · rw [if_neg c7] at H
          have c7b0 : decide (0 < x5_1) = false := decide_eq_false c7
          clear c7
          (first | rw [c7b0] | (simp only [i64_w, i32_w]; rw [c7b0]) | skip)
          have H' := Aside0.mk H
          clear H
          go_wp2
          go_meet
          case rel => exact ⟨_, (false), eqv, H', ⟨by have := HJ1.out; first | omega | exact Nat.le_refl _⟩, drv⟩
      case rest =>
        clear HC6
        try clear c1
        try clear p1
        try clear q1
        try clear hx1
        try clear c2
        try clear p2
        try clear c3
        try clear c3b0
        try clear c5
        try clear p6
        try clear c7
        try clear c7b0
        try clear c8
        try clear c8b0
        try clear c9
        try clear c9b0
        try clear p10
        try clear q10
        try clear hx10
        try clear c11
        try clear c11b0
        try clear c11b1
        try clear p10
        try clear p2
        try clear q10
        obtain ⟨kq, x37_5, rfl, HA, HJ5, ⟨mc5, rfl⟩⟩ := hcut
        cases kq with
        | zero => exact absurd HA.out (by simp [digits_Lead.j2])
        | succ kj5 =>
          have H := HA.out
          clear HA
          simp only [digits_Lead.j2] at H
          by_cases c13 : x37_5 = true
          · subst c13
            rw [if_pos rfl] at H
            have H' := Aside0.mk H
            clear H
            go_wp2
            go_loopg [6] kj5 (fun kq v6 w' => ∃ (x6_3 : Int), v6 = .int .i64 x6_3 ∧ Aside0 (digits_Lead.l1 kq a0 x5_1 x6_3 = some (r1, r2, r3)) ∧ Aside0 (kq ≤ kj5) ∧ Drawn0 w w')
            case atStart => exact ⟨(wrap64 (x5_1 + 1)), eqv, H', ⟨Nat.le_refl _⟩, drv⟩
            case round =>
              clear H'
              try clear c1
              try clear p1
              try clear q1
              try clear hx1
              try clear c2
              try clear p2
              try clear c3
              try clear c3b0
              try clear c5
              try clear p6
              try clear c7
              try clear c7b0
              try clear c8
              try clear c8b0
              try clear c9
              try clear c9b0
              try clear p10
              try clear q10
              try clear hx10
              try clear c11
              try clear c11b0
              try clear c11b1
              try clear c13
              try clear p1
              try clear p10
              try clear p2
              try clear p6
              try clear q1
              try clear q10
              obtain ⟨x6_3, rfl, HA, HK3, ⟨m3, rfl⟩⟩ := hrel
              cases gk with
              | zero => exact absurd HA.out (by simp [digits_Lead.l1])
              | succ k3 =>
                have H := HA.out
                clear HA
                simp only [digits_Lead.l1] at H
                by_cases c14 : x6_3 ≤ (wrap64 (x5_1 + 4))
                · rw [if_pos c14] at H
                  have c14b0 : decide (x6_3 ≤ (wrap64 (x5_1 + 4))) = true := decide_eq_true c14
                  clear c14
                  replace H := Option.bind_eq_some_iff.mp H
                  obtain ⟨t164, A150, H⟩ := H
                  (try dsimp only at H)
                  have A15 := Aside0.mk A150
                  clear A150
                  by_cases c16 : t164 = true
                  · subst c16
                    rw [if_pos rfl] at H
                    have H' := Aside0.mk H
                    clear H
                    go_wp2_with (first | (go_at_call 74; (with_reducible refine (digits_digit.calls a0 x6_3 true _ A15.out).mono ?_); rintro e w' ⟨rfl, ⟨nd, rfl⟩⟩; (try clear A15)))
                    go_roundg k3
                    case measure => have := HJ1.out; have := HJ5.out; have := HK3.out; omega
                    case rel => exact ⟨(wrap64 (x6_3 + 1)), eqv, H', ⟨by have := HJ1.out; have := HJ5.out; have := HK3.out; omega⟩, drv⟩
                  · replace c16 := Bool.eq_false_iff.mpr c16
                    subst c16
                    rw [if_neg (show ¬ (false = true) by decide)] at H
                    by_cases c17 : 0 ≤ x6_3
                    · rw [if_pos c17] at H
                      have c17b0 := eq_true c17
                      have c17b1 : decide (0 ≤ x6_3) = true := decide_eq_true c17
                      clear c17
                      by_cases c18 : x6_3 ≤ (a0.size : Int)
                      · rw [if_pos c18] at H
                        have c18b0 := eq_true c18
                        have c18b1 : decide (x6_3 ≤ (a0.size : Int)) = true := decide_eq_true c18
                        clear c18
                        replace H := Option.bind_eq_some_iff.mp H
                        obtain ⟨⟨t165, t166⟩, A190, H⟩ := H
                        (try dsimp only at H)
                        have A19 := Aside0.mk A190
                        clear A190
                        by_cases c20 : t166 = true
                        · subst c20
                          rw [if_pos rfl] at H
                          simp only [Option.some.injEq, Prod.mk.injEq] at H
                          obtain ⟨rfl, rfl, rfl⟩ := H
                          go_wp2_with (first | (go_at_call 74; (with_reducible refine (digits_digit.calls a0 x6_3 false _ A15.out).mono ?_); rintro e w' ⟨rfl, ⟨nd, rfl⟩⟩; (try clear A15)) | ((with_reducible refine gate_callee (f := 17) rfl ?_); refine goD (some 56) rfl Tryd.func17 (digits_Read.calls (hT_ := by repeat (first | exact hT_ | (with_reducible apply Go.Proofs.YtcfhllbobapaiaaDoorW.XTabs.Tabs.drewN) | (with_reducible apply Go.Proofs.YtcfhllbobapaiaaDoorW.XTabs.Tabs.drew) | (with_reducible apply Go.Proofs.YtcfhllbobapaiaaDoorW.XTabs.Tabs.alloc) | exact Go.Proofs.YtcfhllbobapaiaaDoorW.XTabs.Tabs.below hT_ (by repeat (first | (with_reducible first | exact HB.out | apply below_alloc | apply pw_below_drewN | apply below_drew1) | exact HB.out | refine below_set ?_ (Aside0.out (by assumption)))))) k3 (a0.extract 0 (x6_3 : Int).toNat) t165 true _ A19.out) ?_; intro nd))
                          go_ret3
                          exact fin0
                        · replace c20 := Bool.eq_false_iff.mpr c20
                          subst c20
                          rw [if_neg (show ¬ (false = true) by decide)] at H
                          simp only [Option.some.injEq, Prod.mk.injEq] at H
                          obtain ⟨rfl, rfl, rfl⟩ := H
                          go_wp2_with (first | (go_at_call 74; (with_reducible refine (digits_digit.calls a0 x6_3 false _ A15.out).mono ?_); rintro e w' ⟨rfl, ⟨nd, rfl⟩⟩; (try clear A15)) | ((with_reducible refine gate_callee (f := 17) rfl ?_); refine goD (some 56) rfl Tryd.func17 (digits_Read.calls (hT_ := by repeat (first | exact hT_ | (with_reducible apply Go.Proofs.YtcfhllbobapaiaaDoorW.XTabs.Tabs.drewN) | (with_reducible apply Go.Proofs.YtcfhllbobapaiaaDoorW.XTabs.Tabs.drew) | (with_reducible apply Go.Proofs.YtcfhllbobapaiaaDoorW.XTabs.Tabs.alloc) | exact Go.Proofs.YtcfhllbobapaiaaDoorW.XTabs.Tabs.below hT_ (by repeat (first | (with_reducible first | exact HB.out | apply below_alloc | apply pw_below_drewN | apply below_drew1) | exact HB.out | refine below_set ?_ (Aside0.out (by assumption)))))) k3 (a0.extract 0 (x6_3 : Int).toNat) t165 false _ A19.out) ?_; intro nd))
                          go_ret3
                          exact fin0
                      · rw [if_neg c18] at H
                        exact absurd H (by simp)
                    · rw [if_neg c17] at H
                      exact absurd H (by simp)
                · rw [if_neg c14] at H
                  have c14b0 : decide (x6_3 ≤ (wrap64 (x5_1 + 4))) = false := decide_eq_false c14
                  clear c14
                  by_cases c21 : 0 ≤ x6_3
                  · rw [if_pos c21] at H
                    have c21b0 := eq_true c21
                    have c21b1 : decide (0 ≤ x6_3) = true := decide_eq_true c21
                    clear c21
                    by_cases c22 : x6_3 ≤ (a0.size : Int)
                    · rw [if_pos c22] at H
                      have c22b0 := eq_true c22
                      have c22b1 : decide (x6_3 ≤ (a0.size : Int)) = true := decide_eq_true c22
                      clear c22
                      replace H := Option.bind_eq_some_iff.mp H
                      obtain ⟨⟨t167, t168⟩, A230, H⟩ := H
                      (try dsimp only at H)
                      have A23 := Aside0.mk A230
                      clear A230
                      by_cases c24 : t168 = true
                      · subst c24
                        rw [if_pos rfl] at H
                        simp only [Option.some.injEq, Prod.mk.injEq] at H
                        obtain ⟨rfl, rfl, rfl⟩ := H
                        go_wp2_with (first | ((with_reducible refine gate_callee (f := 17) rfl ?_); refine goD (some 56) rfl Tryd.func17 (digits_Read.calls (hT_ := by repeat (first | exact hT_ | (with_reducible apply Go.Proofs.YtcfhllbobapaiaaDoorW.XTabs.Tabs.drewN) | (with_reducible apply Go.Proofs.YtcfhllbobapaiaaDoorW.XTabs.Tabs.drew) | (with_reducible apply Go.Proofs.YtcfhllbobapaiaaDoorW.XTabs.Tabs.alloc) | exact Go.Proofs.YtcfhllbobapaiaaDoorW.XTabs.Tabs.below hT_ (by repeat (first | (with_reducible first | exact HB.out | apply below_alloc | apply pw_below_drewN | apply below_drew1) | exact HB.out | refine below_set ?_ (Aside0.out (by assumption)))))) k3 (a0.extract 0 (x6_3 : Int).toNat) t167 true _ A23.out) ?_; intro nd))
                        go_ret3
                        exact fin0
                      · replace c24 := Bool.eq_false_iff.mpr c24
                        subst c24
                        rw [if_neg (show ¬ (false = true) by decide)] at H
                        simp only [Option.some.injEq, Prod.mk.injEq] at H
                        obtain ⟨rfl, rfl, rfl⟩ := H
                        go_wp2_with (first | ((with_reducible refine gate_callee (f := 17) rfl ?_); refine goD (some 56) rfl Tryd.func17 (digits_Read.calls (hT_ := by repeat (first | exact hT_ | (with_reducible apply Go.Proofs.YtcfhllbobapaiaaDoorW.XTabs.Tabs.drewN) | (with_reducible apply Go.Proofs.YtcfhllbobapaiaaDoorW.XTabs.Tabs.drew) | (with_reducible apply Go.Proofs.YtcfhllbobapaiaaDoorW.XTabs.Tabs.alloc) | exact Go.Proofs.YtcfhllbobapaiaaDoorW.XTabs.Tabs.below hT_ (by repeat (first | (with_reducible first | exact HB.out | apply below_alloc | apply pw_below_drewN | apply below_drew1) | exact HB.out | refine below_set ?_ (Aside0.out (by assumption)))))) k3 (a0.extract 0 (x6_3 : Int).toNat) t167 false _ A23.out) ?_; intro nd))
                        go_ret3
                        exact fin0
                    · rw [if_neg c22] at H
                      exact absurd H (by simp)
                  · rw [if_neg c21] at H
                    exact absurd H (by simp)
          · replace c13 := Bool.eq_false_iff.mpr c13
            subst c13
            rw [if_neg (show ¬ (false = true) by decide)] at H
            by_cases c25 : 0 ≤ x5_1
            · rw [if_pos c25] at H
              have c25b0 := eq_true c25
              have c25b1 : decide (0 ≤ x5_1) = true := decide_eq_true c25
              clear c25
              by_cases c26 : x5_1 ≤ (a0.size : Int)
              · rw [if_pos c26] at H
                have c26b0 := eq_true c26
                have c26b1 : decide (x5_1 ≤ (a0.size : Int)) = true := decide_eq_true c26
                clear c26
                replace H := Option.bind_eq_some_iff.mp H
                obtain ⟨⟨t169, t170⟩, A270, H⟩ := H
                (try dsimp only at H)
                have A27 := Aside0.mk A270
                clear A270
                by_cases c28 : t170 = true
                · subst c28
                  rw [if_pos rfl] at H
                  simp only [Option.some.injEq, Prod.mk.injEq] at H
                  obtain ⟨rfl, rfl, rfl⟩ := H
                  go_wp2_with (first | ((with_reducible refine gate_callee (f := 17) rfl ?_); refine goD (some 56) rfl Tryd.func17 (digits_Read.calls (hT_ := by repeat (first | exact hT_ | (with_reducible apply Go.Proofs.YtcfhllbobapaiaaDoorW.XTabs.Tabs.drewN) | (with_reducible apply Go.Proofs.YtcfhllbobapaiaaDoorW.XTabs.Tabs.drew) | (with_reducible apply Go.Proofs.YtcfhllbobapaiaaDoorW.XTabs.Tabs.alloc) | exact Go.Proofs.YtcfhllbobapaiaaDoorW.XTabs.Tabs.below hT_ (by repeat (first | (with_reducible first | exact HB.out | apply below_alloc | apply pw_below_drewN | apply below_drew1) | exact HB.out | refine below_set ?_ (Aside0.out (by assumption)))))) kj5 (a0.extract 0 (x5_1 : Int).toNat) t169 true _ A27.out) ?_; intro nd))
                  go_ret3
                  exact fin0
                · replace c28 := Bool.eq_false_iff.mpr c28
                  subst c28
                  rw [if_neg (show ¬ (false = true) by decide)] at H
                  simp only [Option.some.injEq, Prod.mk.injEq] at H
                  obtain ⟨rfl, rfl, rfl⟩ := H
                  go_wp2_with (first | ((with_reducible refine gate_callee (f := 17) rfl ?_); refine goD (some 56) rfl Tryd.func17 (digits_Read.calls (hT_ := by repeat (first | exact hT_ | (with_reducible apply Go.Proofs.YtcfhllbobapaiaaDoorW.XTabs.Tabs.drewN) | (with_reducible apply Go.Proofs.YtcfhllbobapaiaaDoorW.XTabs.Tabs.drew) | (with_reducible apply Go.Proofs.YtcfhllbobapaiaaDoorW.XTabs.Tabs.alloc) | exact Go.Proofs.YtcfhllbobapaiaaDoorW.XTabs.Tabs.below hT_ (by repeat (first | (with_reducible first | exact HB.out | apply below_alloc | apply pw_below_drewN | apply below_drew1) | exact HB.out | refine below_set ?_ (Aside0.out (by assumption)))))) kj5 (a0.extract 0 (x5_1 : Int).toNat) t169 false _ A27.out) ?_; intro nd))
                  go_ret3
                  exact fin0
              · rw [if_neg c26] at H
                exact absurd H (by simp)
            · rw [if_neg c25] at H
              exact absurd H (by simp)
end Go.Proofs.YtcfhllbobapaiaaDoor.PA

namespace Go.Proofs.YtcfhllbobapaiaaDoor.PA
open Go.RowKit Go.Proofs.YtcfhllbobapaiaaDoorW.PrintWords Go.Proofs.YtcfhllbobapaiaaDoorW.PrintLast Go.Proofs.YtcfhllbobapaiaaDoorW.PrintMore
attribute [local go_sem] max2_int min2_int max_two min_two max_three min_three max_four min_four
set_option linter.unusedVariables false
set_option linter.unusedSimpArgs false
mutual
def oculusref11_Text.j0 : Nat → Int → ByteArray → Option (ByteArray)
  | 0, _, _ => none
  | k + 1, x3, x4 => if (Int.tmod x3 10000) > 0 then (if x4.size + 1 ≤ 9223372036854775807 then (oculusref11_Text.j1 k (x4 ++ (⟨#[46]⟩ : ByteArray)) (Int.tmod x3 10000)) else (none)) else (oculusref11_Text.j1 k x4 (Int.tmod x3 10000))
def oculusref11_Text.j1 : Nat → ByteArray → Int → Option (ByteArray)
  | 0, _, _ => none
  | k + 1, x4, x5 => oculusref11_Text.l0 k x4 x5
def oculusref11_Text.l0 : Nat → ByteArray → Int → Option (ByteArray)
  | 0, _, _ => none
  | k + 1, x4, x5 => if x5 > 0 then ((oculusref11_whole.f k (IntKind.u64.wrap (Int.tdiv x5 1000))).bind fun t161 => (if x4.size + t161.size ≤ 9223372036854775807 then (oculusref11_Text.l0 k (x4 ++ t161) (IntKind.u64.wrap ((Int.tmod x5 1000) * 10))) else (none))) else (some x4)
end
def oculusref11_Text.f (k : Nat) (a0 : Int) : Option (ByteArray) := (oculusref08_May.f a0).bind fun t158 => (if t158 = true then ((oculusref08_Abs.f a0).bind fun t159 => ((oculusref11_whole.f k (IntKind.u64.wrap (Int.tdiv t159 10000))).bind fun t160 => (if a0 < 0 then (if 1 + t160.size ≤ 9223372036854775807 then (oculusref11_Text.j0 k t159 ((⟨#[45]⟩ : ByteArray) ++ t160)) else (none)) else (oculusref11_Text.j0 k t159 t160)))) else (some (⟨#[]⟩ : ByteArray)))
theorem oculusref11_Text.mono_l : ∀ k, (∀ y0 y1, LeO (oculusref11_Text.j0 k y0 y1) (oculusref11_Text.j0 (k + 1) y0 y1)) ∧ (∀ y0 y1, LeO (oculusref11_Text.j1 k y0 y1) (oculusref11_Text.j1 (k + 1) y0 y1)) ∧ (∀ y0 y1, LeO (oculusref11_Text.l0 k y0 y1) (oculusref11_Text.l0 (k + 1) y0 y1))
  | 0 => ⟨fun _ _ r h => by simp [oculusref11_Text.j0] at h, fun _ _ r h => by simp [oculusref11_Text.j1] at h, fun _ _ r h => by simp [oculusref11_Text.l0] at h⟩
  | k + 1 => by
    obtain ⟨ih0, ih1, ih2⟩ := oculusref11_Text.mono_l k
    refine ⟨?_, ?_, ?_⟩
    · intro y0 y1
      unfold oculusref11_Text.j0
      repeat' first
      | (with_reducible exact ih0 _ _)
      | (with_reducible exact ih1 _ _)
      | (with_reducible exact ih2 _ _)
      | (with_reducible exact oculusref11_whole.mono _ _)
      | (with_reducible exact LeO.refl _)
      | (with_reducible exact LeO.none _)
      | (with_reducible refine LeO.ite ?_ ?_)
      | (with_reducible refine LeO.bind ?_ (fun _ => ?_))
      | exact ih0 _ _
      | exact ih1 _ _
      | exact ih2 _ _
      | exact oculusref11_whole.mono _ _
      | exact LeO.none _
      | refine LeO.ite ?_ ?_
      | refine LeO.bind ?_ (fun _ => ?_)
    · intro y0 y1
      unfold oculusref11_Text.j1
      repeat' first
      | (with_reducible exact ih0 _ _)
      | (with_reducible exact ih1 _ _)
      | (with_reducible exact ih2 _ _)
      | (with_reducible exact oculusref11_whole.mono _ _)
      | (with_reducible exact LeO.refl _)
      | (with_reducible exact LeO.none _)
      | (with_reducible refine LeO.ite ?_ ?_)
      | (with_reducible refine LeO.bind ?_ (fun _ => ?_))
      | exact ih0 _ _
      | exact ih1 _ _
      | exact ih2 _ _
      | exact oculusref11_whole.mono _ _
      | exact LeO.none _
      | refine LeO.ite ?_ ?_
      | refine LeO.bind ?_ (fun _ => ?_)
    · intro y0 y1
      unfold oculusref11_Text.l0
      repeat' first
      | (with_reducible exact ih0 _ _)
      | (with_reducible exact ih1 _ _)
      | (with_reducible exact ih2 _ _)
      | (with_reducible exact oculusref11_whole.mono _ _)
      | (with_reducible exact LeO.refl _)
      | (with_reducible exact LeO.none _)
      | (with_reducible refine LeO.ite ?_ ?_)
      | (with_reducible refine LeO.bind ?_ (fun _ => ?_))
      | exact ih0 _ _
      | exact ih1 _ _
      | exact ih2 _ _
      | exact oculusref11_whole.mono _ _
      | exact LeO.none _
      | refine LeO.ite ?_ ?_
      | refine LeO.bind ?_ (fun _ => ?_)
theorem oculusref11_Text.mono : ∀ a0 k, LeO (oculusref11_Text.f k a0) (oculusref11_Text.f (k + 1) a0) := by
  intro a0 k
  obtain ⟨ih0, ih1, ih2⟩ := oculusref11_Text.mono_l k
  unfold oculusref11_Text.f
  repeat' first
      | (with_reducible exact ih0 _ _)
      | (with_reducible exact ih1 _ _)
      | (with_reducible exact ih2 _ _)
      | (with_reducible exact oculusref11_whole.mono _ _)
      | (with_reducible exact LeO.refl _)
      | (with_reducible exact LeO.none _)
      | (with_reducible refine LeO.ite ?_ ?_)
      | (with_reducible refine LeO.bind ?_ (fun _ => ?_))
      | exact ih0 _ _
      | exact ih1 _ _
      | exact ih2 _ _
      | exact oculusref11_whole.mono _ _
      | exact LeO.none _
      | refine LeO.ite ?_ ?_
      | refine LeO.bind ?_ (fun _ => ?_)
set_option maxHeartbeats 8000000 in
set_option maxRecDepth 100000 in
theorem oculusref11_Text.calls (k : Nat) (a0 : Int) (r : ByteArray) (w : World) (h : oculusref11_Text.f k a0 = some r) :
    Calls Tryd.prog 18 #[.int .i64 a0] w fun e w' => e = .returned (.string r) ∧ Below w.heap.size w w' := by
  have HB := Aside0.mk (Below.refl w.heap.size w)
  have H := h
  (try unfold oculusref11_Text.f at H)
  clear h
  replace H := Option.bind_eq_some_iff.mp H
  obtain ⟨t158, A20, H⟩ := H
  (try dsimp only at H)
  have A2 := Aside0.mk A20
  clear A20
  by_cases c3 : t158 = true
  · subst c3
    rw [if_pos rfl] at H
    replace H := Option.bind_eq_some_iff.mp H
    obtain ⟨t159, A40, H⟩ := H
    (try dsimp only at H)
    have A4 := Aside0.mk A40
    clear A40
    replace H := Option.bind_eq_some_iff.mp H
    obtain ⟨t160, A50, H⟩ := H
    (try dsimp only at H)
    have A5 := Aside0.mk A50
    clear A50
    have HC6 := Aside0.mk H
    clear H
    go_enter Tryd.func18, Tryd.ntmps18
    go_upto_if 15 with (first | ((with_reducible refine gate_callee (f := 19) rfl ?_); refine goD (some 7) rfl Tryd.func19 (oculusref08_May.calls a0 true _ A2.out) ?_; intro nd) | ((with_reducible refine gate_callee (f := 70) rfl ?_); refine goD (some 10) rfl Tryd.func70 (oculusref08_Abs.calls a0 t159 _ A4.out) ?_; intro nd) | ((with_reducible refine gate_callee (f := 71) rfl ?_); refine goB (some 13) rfl Tryd.func71 (oculusref11_whole.calls k (IntKind.u64.wrap (Int.tdiv t159 10000)) t160 _ A5.out) ?_; clear HB; intro w7 HB))
    (try simp only [Act.put, List.setIfInBounds_toArray, List.set_cons_zero, List.set_cons_succ])
    go_cut [4] (fun v4 wc => ∃ (kq : Nat) (x4_5 : ByteArray), v4 = .string x4_5 ∧ Aside0 (oculusref11_Text.j0 kq t159 x4_5 = some r) ∧ Aside0 (kq ≤ k) ∧ Aside0 (Below w.heap.size w wc))
    case first =>
      have H := HC6.out
      clear HC6
      by_cases c8 : a0 < 0
      · rw [if_pos c8] at H
        have c8b0 : decide (a0 < 0) = true := decide_eq_true c8
        clear c8
        (first | rw [c8b0] | (simp only [i64_w, i32_w]; rw [c8b0]) | skip)
        by_cases c9 : 1 + t160.size ≤ 9223372036854775807
        · rw [if_pos c9] at H
          have c9b0 := eq_true c9
          have c9b1 : decide (1 + t160.size ≤ 9223372036854775807) = true := decide_eq_true c9
          try have c9b2 : (9223372036854775807 < 1 + t160.size) = False := eq_false (Nat.not_lt.2 c9)
          have H' := Aside0.mk H
          clear H
          go_wp2
          go_meet
          case rel => exact ⟨_, ((⟨#[45]⟩ : ByteArray) ++ t160), eqv, H', lev, blv⟩
        · rw [if_neg c9] at H
          exact absurd H (by simp)
      · rw [if_neg c8] at H
        have c8b0 : decide (a0 < 0) = false := decide_eq_false c8
        clear c8
        (first | rw [c8b0] | (simp only [i64_w, i32_w]; rw [c8b0]) | skip)
        have H' := Aside0.mk H
        clear H
        go_wp2
        go_meet
        case rel => exact ⟨_, (t160), eqv, H', lev, blv⟩
    case rest =>
      clear HC6
      try clear c1
      try clear p2
      try clear c3
      try clear c7
      try clear c8
      try clear c8b0
      try clear c9
      try clear c9b0
      try clear c9b1
      try clear c9b2
      obtain ⟨kq, x4_5, rfl, HA, HJ5, HB⟩ := hcut
      cases kq with
      | zero => exact absurd HA.out (by simp [oculusref11_Text.j0])
      | succ kj5 =>
        have H := HA.out
        clear HA
        simp only [oculusref11_Text.j0] at H
        have HC10 := Aside0.mk H
        clear H
        go_upto_if 21 with (fail)
        go_cut [4] (fun v4 wc => ∃ (kq : Nat) (x4_9 : ByteArray), v4 = .string x4_9 ∧ Aside0 (oculusref11_Text.j1 kq x4_9 (Int.tmod t159 10000) = some r) ∧ Aside0 (kq ≤ kj5) ∧ Aside0 (Below w.heap.size w wc))
        case first =>
          have H := HC10.out
          clear HC10
          by_cases c11 : (Int.tmod t159 10000) > 0
          · rw [if_pos c11] at H
            have c11b0 : decide (0 < (Int.tmod t159 10000)) = true := decide_eq_true c11
            clear c11
            (first | rw [c11b0] | (simp only [i64_w, i32_w]; rw [c11b0]) | skip)
            by_cases c12 : x4_5.size + 1 ≤ 9223372036854775807
            · rw [if_pos c12] at H
              have c12b0 := eq_true c12
              have c12b1 : decide (x4_5.size + 1 ≤ 9223372036854775807) = true := decide_eq_true c12
              try have c12b2 : (9223372036854775807 < x4_5.size + 1) = False := eq_false (Nat.not_lt.2 c12)
              have H' := Aside0.mk H
              clear H
              go_wp2
              go_meet
              case rel => exact ⟨_, (x4_5 ++ (⟨#[46]⟩ : ByteArray)), eqv, H', ⟨by have := HJ5.out; first | omega | exact Nat.le_refl _⟩, blv⟩
            · rw [if_neg c12] at H
              exact absurd H (by simp)
          · rw [if_neg c11] at H
            have c11b0 : decide (0 < (Int.tmod t159 10000)) = false := decide_eq_false c11
            clear c11
            (first | rw [c11b0] | (simp only [i64_w, i32_w]; rw [c11b0]) | skip)
            have H' := Aside0.mk H
            clear H
            go_wp2
            go_meet
            case rel => exact ⟨_, (x4_5), eqv, H', ⟨by have := HJ5.out; first | omega | exact Nat.le_refl _⟩, blv⟩
        case rest =>
          clear HC10
          try clear c1
          try clear p2
          try clear c3
          try clear c7
          try clear c8
          try clear c8b0
          try clear c9
          try clear c9b0
          try clear c9b1
          try clear c9b2
          try clear c11
          try clear c11b0
          try clear c12
          try clear c12b0
          try clear c12b1
          try clear c12b2
          try clear p2
          obtain ⟨kq, x4_9, rfl, HA, HJ9, HB⟩ := hcut
          cases kq with
          | zero => exact absurd HA.out (by simp [oculusref11_Text.j1])
          | succ kj9 =>
            have H := HA.out
            clear HA
            simp only [oculusref11_Text.j1] at H
            have H' := Aside0.mk H
            clear H
            go_wp2
            go_loopg [4, 5] kj9 (fun kq v4 v5 w' => ∃ (x4_3 : ByteArray) (x5_3 : Int), v4 = .string x4_3 ∧ v5 = .int .u64 x5_3 ∧ Aside0 (oculusref11_Text.l0 kq x4_3 x5_3 = some r) ∧ Aside0 (kq ≤ kj9) ∧ Aside0 (Below w.heap.size w w'))
            case atStart => exact ⟨(x4_9), ((Int.tmod t159 10000)), eqv, eqv, H', ⟨Nat.le_refl _⟩, blv⟩
            case round =>
              clear H'
              try clear c1
              try clear p2
              try clear c3
              try clear c7
              try clear c8
              try clear c8b0
              try clear c9
              try clear c9b0
              try clear c9b1
              try clear c9b2
              try clear c11
              try clear c11b0
              try clear c12
              try clear c12b0
              try clear c12b1
              try clear c12b2
              try clear p2
              obtain ⟨x4_3, x5_3, rfl, rfl, HA, HK3, HB⟩ := hrel
              cases gk with
              | zero => exact absurd HA.out (by simp [oculusref11_Text.l0])
              | succ k3 =>
                have H := HA.out
                clear HA
                simp only [oculusref11_Text.l0] at H
                by_cases c13 : x5_3 > 0
                · rw [if_pos c13] at H
                  have c13b0 : decide (0 < x5_3) = true := decide_eq_true c13
                  clear c13
                  replace H := Option.bind_eq_some_iff.mp H
                  obtain ⟨t161, A140, H⟩ := H
                  (try dsimp only at H)
                  have A14 := Aside0.mk A140
                  clear A140
                  by_cases c15 : x4_3.size + t161.size ≤ 9223372036854775807
                  · rw [if_pos c15] at H
                    have c15b0 := eq_true c15
                    have c15b1 : decide (x4_3.size + t161.size ≤ 9223372036854775807) = true := decide_eq_true c15
                    try have c15b2 : (9223372036854775807 < x4_3.size + t161.size) = False := eq_false (Nat.not_lt.2 c15)
                    have H' := Aside0.mk H
                    clear H
                    go_wp2_with (first | ((with_reducible refine gate_callee (f := 71) rfl ?_); refine goB (some 29) rfl Tryd.func71 (oculusref11_whole.calls k3 (IntKind.u64.wrap (Int.tdiv x5_3 1000)) t161 _ A14.out) ?_; clear HB; intro w16 HB))
                    go_roundg k3
                    case measure => have := HJ5.out; have := HJ9.out; have := HK3.out; omega
                    case rel => exact ⟨(x4_3 ++ t161), (IntKind.u64.wrap ((Int.tmod x5_3 1000) * 10)), eqv, eqv, H', ⟨by have := HJ5.out; have := HJ9.out; have := HK3.out; omega⟩, blv⟩
                  · rw [if_neg c15] at H
                    exact absurd H (by simp)
                · rw [if_neg c13] at H
                  have c13b0 : decide (0 < x5_3) = false := decide_eq_false c13
                  clear c13
                  obtain rfl := Option.some.inj H
                  go_wp2
                  go_ret
                  exact finB
  · replace c3 := Bool.eq_false_iff.mpr c3
    subst c3
    rw [if_neg (show ¬ (false = true) by decide)] at H
    obtain rfl := Option.some.inj H
    go_enter Tryd.func18, Tryd.ntmps18
    go_wp2_with (first | ((with_reducible refine gate_callee (f := 19) rfl ?_); refine goD (some 7) rfl Tryd.func19 (oculusref08_May.calls a0 false _ A2.out) ?_; intro nd))
    go_ret
    exact finB
end Go.Proofs.YtcfhllbobapaiaaDoor.PA

namespace Go.Proofs.YtcfhllbobapaiaaDoor.PA
open Go.RowKit Go.Proofs.YtcfhllbobapaiaaDoorW.PrintWords Go.Proofs.YtcfhllbobapaiaaDoorW.PrintLast Go.Proofs.YtcfhllbobapaiaaDoorW.PrintMore
attribute [local go_sem] max2_int min2_int max_two min_two max_three min_three max_four min_four
set_option linter.unusedVariables false
set_option linter.unusedSimpArgs false
def oculuslaw11_alive.f (k : Nat)  : Option (Bool) := (digits_Parse.f k (⟨#[45, 49, 50, 46, 53]⟩ : ByteArray)).bind fun bt171 => ((digits_Lead.f k (⟨#[48, 48, 55, 46, 53, 48, 43, 49]⟩ : ByteArray)).bind fun bt173 => ((digits_Parse.f k (⟨#[49, 46, 53, 48]⟩ : ByteArray)).bind fun bt176 => (if bt171.2 = true then (if bt173.2.2 = true then (if bt176.2 = true then (none) else (if bt171.1 = (-125000) then (if bt173.1 = 75000 then (if bt173.2.1 = 6 then ((digits_Text.f k (-1)).bind fun t178 => (some (t178.toList == ([45, 48, 46, 48, 48, 48, 49] : List UInt8)))) else (none)) else (none)) else (none))) else (none)) else (none))))
theorem oculuslaw11_alive.mono : ∀ k, LeO (oculuslaw11_alive.f k ) (oculuslaw11_alive.f (k + 1) ) := by
  intro  k
  unfold oculuslaw11_alive.f
  repeat' first
      | (with_reducible exact digits_Lead.mono _ _)
      | (with_reducible exact digits_Parse.mono _ _)
      | (with_reducible exact digits_Text.mono _ _)
      | (with_reducible exact LeO.refl _)
      | (with_reducible exact LeO.none _)
      | (with_reducible refine LeO.ite ?_ ?_)
      | (with_reducible refine LeO.bind ?_ (fun _ => ?_))
      | exact digits_Lead.mono _ _
      | exact digits_Parse.mono _ _
      | exact digits_Text.mono _ _
      | exact LeO.none _
      | refine LeO.ite ?_ ?_
      | refine LeO.bind ?_ (fun _ => ?_)
set_option maxHeartbeats 8000000 in
set_option maxRecDepth 100000 in
theorem oculuslaw11_alive.calls (k : Nat)  (r : Bool) (w : World) (hT_ : Go.Proofs.YtcfhllbobapaiaaDoorW.XTabs.Tabs w) (h : oculuslaw11_alive.f k  = some r) :
    Calls Tryd.prog 20 #[] w fun e w' => e = .returned (.bool r) ∧ Below w.heap.size w w' := by
  have HB := Aside0.mk (Below.refl w.heap.size w)
  have H := h
  (try unfold oculuslaw11_alive.f at H)
  clear h
  replace H := Option.bind_eq_some_iff.mp H
  obtain ⟨⟨t171, t172⟩, A10, H⟩ := H
  (try dsimp only at H)
  have A1 := Aside0.mk A10
  clear A10
  replace H := Option.bind_eq_some_iff.mp H
  obtain ⟨⟨t173, t174, t175⟩, A20, H⟩ := H
  (try dsimp only at H)
  have A2 := Aside0.mk A20
  clear A20
  replace H := Option.bind_eq_some_iff.mp H
  obtain ⟨⟨t176, t177⟩, A30, H⟩ := H
  (try dsimp only at H)
  have A3 := Aside0.mk A30
  clear A30
  by_cases c4 : t172 = true
  · subst c4
    rw [if_pos rfl] at H
    by_cases c5 : t175 = true
    · subst c5
      rw [if_pos rfl] at H
      by_cases c6 : t177 = true
      · subst c6
        rw [if_pos rfl] at H
        exact absurd H (by simp)
      · replace c6 := Bool.eq_false_iff.mpr c6
        subst c6
        rw [if_neg (show ¬ (false = true) by decide)] at H
        by_cases c7 : t171 = (-125000)
        · rw [if_pos c7] at H
          have c7b0 : (t171 == (-125000)) = true := beq_iff_eq.mpr c7
          have c7b1 : (t171 != (-125000)) = false := bne_eq_false_iff_eq.mpr c7
          clear c7
          by_cases c8 : t173 = 75000
          · rw [if_pos c8] at H
            have c8b0 : (t173 == 75000) = true := beq_iff_eq.mpr c8
            have c8b1 : (t173 != 75000) = false := bne_eq_false_iff_eq.mpr c8
            clear c8
            by_cases c9 : t174 = 6
            · rw [if_pos c9] at H
              have c9b0 : (t174 == 6) = true := beq_iff_eq.mpr c9
              have c9b1 : (t174 != 6) = false := bne_eq_false_iff_eq.mpr c9
              clear c9
              replace H := Option.bind_eq_some_iff.mp H
              obtain ⟨t178, A100, H⟩ := H
              (try dsimp only at H)
              have A10 := Aside0.mk A100
              clear A100
              obtain rfl := Option.some.inj H
              go_enter Tryd.func20, Tryd.ntmps20
              go_wp2_with (first | ((with_reducible refine gate_callee (f := 16) rfl ?_); refine goB (some 9) rfl Tryd.func16 (digits_Parse.calls (hT_ := by repeat (first | exact hT_ | (with_reducible apply Go.Proofs.YtcfhllbobapaiaaDoorW.XTabs.Tabs.drewN) | (with_reducible apply Go.Proofs.YtcfhllbobapaiaaDoorW.XTabs.Tabs.drew) | (with_reducible apply Go.Proofs.YtcfhllbobapaiaaDoorW.XTabs.Tabs.alloc) | exact Go.Proofs.YtcfhllbobapaiaaDoorW.XTabs.Tabs.below hT_ (by repeat (first | (with_reducible first | exact HB.out | apply below_alloc | apply pw_below_drewN | apply below_drew1) | exact HB.out | refine below_set ?_ (Aside0.out (by assumption)))))) k (⟨#[45, 49, 50, 46, 53]⟩ : ByteArray) t171 true _ A1.out) ?_; clear HB; intro w11 HB) | ((with_reducible refine gate_callee (f := 22) rfl ?_); refine goD (some 13) rfl Tryd.func22 (digits_Lead.calls (hT_ := by repeat (first | exact hT_ | (with_reducible apply Go.Proofs.YtcfhllbobapaiaaDoorW.XTabs.Tabs.drewN) | (with_reducible apply Go.Proofs.YtcfhllbobapaiaaDoorW.XTabs.Tabs.drew) | (with_reducible apply Go.Proofs.YtcfhllbobapaiaaDoorW.XTabs.Tabs.alloc) | exact Go.Proofs.YtcfhllbobapaiaaDoorW.XTabs.Tabs.below hT_ (by repeat (first | (with_reducible first | exact HB.out | apply below_alloc | apply pw_below_drewN | apply below_drew1) | exact HB.out | refine below_set ?_ (Aside0.out (by assumption)))))) k (⟨#[48, 48, 55, 46, 53, 48, 43, 49]⟩ : ByteArray) t173 t174 true _ A2.out) ?_; intro nd) | ((with_reducible refine gate_callee (f := 16) rfl ?_); refine goB (some 18) rfl Tryd.func16 (digits_Parse.calls (hT_ := by repeat (first | exact hT_ | (with_reducible apply Go.Proofs.YtcfhllbobapaiaaDoorW.XTabs.Tabs.drewN) | (with_reducible apply Go.Proofs.YtcfhllbobapaiaaDoorW.XTabs.Tabs.drew) | (with_reducible apply Go.Proofs.YtcfhllbobapaiaaDoorW.XTabs.Tabs.alloc) | exact Go.Proofs.YtcfhllbobapaiaaDoorW.XTabs.Tabs.below hT_ (by repeat (first | (with_reducible first | exact HB.out | apply below_alloc | apply pw_below_drewN | apply below_drew1) | exact HB.out | refine below_set ?_ (Aside0.out (by assumption)))))) k (⟨#[49, 46, 53, 48]⟩ : ByteArray) t176 false _ A3.out) ?_; clear HB; intro w12 HB) | (go_at_call 15; (with_reducible refine (digits_Text.calls (hT_ := by repeat (first | exact hT_ | (with_reducible apply Go.Proofs.YtcfhllbobapaiaaDoorW.XTabs.Tabs.drewN) | (with_reducible apply Go.Proofs.YtcfhllbobapaiaaDoorW.XTabs.Tabs.drew) | (with_reducible apply Go.Proofs.YtcfhllbobapaiaaDoorW.XTabs.Tabs.alloc) | exact Go.Proofs.YtcfhllbobapaiaaDoorW.XTabs.Tabs.below hT_ (by repeat (first | (with_reducible first | exact HB.out | apply below_alloc | apply pw_below_drewN | apply below_drew1) | exact HB.out | refine below_set ?_ (Aside0.out (by assumption)))))) k (-1) t178 _ A10.out).mono ?_); refine monoK ?_; clear HB; intro w13 HB))
              go_ret
              exact finB
            · rw [if_neg c9] at H
              exact absurd H (by simp)
          · rw [if_neg c8] at H
            exact absurd H (by simp)
        · rw [if_neg c7] at H
          exact absurd H (by simp)
    · replace c5 := Bool.eq_false_iff.mpr c5
      subst c5
      rw [if_neg (show ¬ (false = true) by decide)] at H
      exact absurd H (by simp)
  · replace c4 := Bool.eq_false_iff.mpr c4
    subst c4
    rw [if_neg (show ¬ (false = true) by decide)] at H
    exact absurd H (by simp)
def oculuslaw11_DigitsTells.f (k : Nat) (a0 : Int) : Option (Bool) := (digits_Text.f k a0).bind fun t179 => ((digits_Parse.f k t179).bind fun bt180 => ((digits_Read.f k t179).bind fun bt182 => ((oculusref11_Text.f k a0).bind fun t184 => (if t179.toList = t184.toList then ((oculusref08_May.f a0).bind fun t185 => (if (bt180.2 != t185) = true then (none) else (if (bt182.2 != bt180.2) = true then (none) else (if bt180.2 = true then (if bt180.1 = a0 then (if bt182.1 = a0 then ((oculuslaw11_alive.f k).bind fun t186 => (some t186)) else (none)) else (none)) else ((oculuslaw11_alive.f k).bind fun t187 => (some t187)))))) else (none)))))
theorem oculuslaw11_DigitsTells.mono : ∀ a0 k, LeO (oculuslaw11_DigitsTells.f k a0) (oculuslaw11_DigitsTells.f (k + 1) a0) := by
  intro a0 k
  unfold oculuslaw11_DigitsTells.f
  repeat' first
      | (with_reducible exact digits_Parse.mono _ _)
      | (with_reducible exact digits_Read.mono _ _)
      | (with_reducible exact digits_Text.mono _ _)
      | (with_reducible exact oculuslaw11_alive.mono _)
      | (with_reducible exact oculusref11_Text.mono _ _)
      | (with_reducible exact LeO.refl _)
      | (with_reducible exact LeO.none _)
      | (with_reducible refine LeO.ite ?_ ?_)
      | (with_reducible refine LeO.bind ?_ (fun _ => ?_))
      | exact digits_Parse.mono _ _
      | exact digits_Read.mono _ _
      | exact digits_Text.mono _ _
      | exact oculuslaw11_alive.mono _
      | exact oculusref11_Text.mono _ _
      | exact LeO.none _
      | refine LeO.ite ?_ ?_
      | refine LeO.bind ?_ (fun _ => ?_)
set_option maxHeartbeats 8000000 in
set_option maxRecDepth 100000 in
theorem oculuslaw11_DigitsTells.calls (k : Nat) (a0 : Int) (r : Bool) (w : World) (hT_ : Go.Proofs.YtcfhllbobapaiaaDoorW.XTabs.Tabs w) (h : oculuslaw11_DigitsTells.f k a0 = some r) :
    Calls Tryd.prog 3 #[.int .i64 a0] w fun e w' => e = .returned (.bool r) ∧ Below w.heap.size w w' := by
  have HB := Aside0.mk (Below.refl w.heap.size w)
  have H := h
  (try unfold oculuslaw11_DigitsTells.f at H)
  clear h
  replace H := Option.bind_eq_some_iff.mp H
  obtain ⟨t179, A20, H⟩ := H
  (try dsimp only at H)
  have A2 := Aside0.mk A20
  clear A20
  replace H := Option.bind_eq_some_iff.mp H
  obtain ⟨⟨t180, t181⟩, A30, H⟩ := H
  (try dsimp only at H)
  have A3 := Aside0.mk A30
  clear A30
  replace H := Option.bind_eq_some_iff.mp H
  obtain ⟨⟨t182, t183⟩, A40, H⟩ := H
  (try dsimp only at H)
  have A4 := Aside0.mk A40
  clear A40
  replace H := Option.bind_eq_some_iff.mp H
  obtain ⟨t184, A50, H⟩ := H
  (try dsimp only at H)
  have A5 := Aside0.mk A50
  clear A50
  by_cases c6 : t179.toList = t184.toList
  · rw [if_pos c6] at H
    have c6b0 : (t179.toList == t184.toList) = true := beq_iff_eq.mpr c6
    have c6b1 : (t179.toList != t184.toList) = false := bne_eq_false_iff_eq.mpr c6
    clear c6
    replace H := Option.bind_eq_some_iff.mp H
    obtain ⟨t185, A70, H⟩ := H
    (try dsimp only at H)
    have A7 := Aside0.mk A70
    clear A70
    by_cases c8 : (t181 != t185) = true
    · rw [if_pos c8] at H
      exact absurd H (by simp)
    · rw [if_neg c8] at H
      have c8b0 : (t181 != t185) = false := by simpa using c8
      (try (have c8b1 : decide (t181 = t185) = true := by simpa using c8))
      (try (have c8b2 : (t181 == t185) = true := by simpa using c8))
      clear c8
      by_cases c9 : (t183 != t181) = true
      · rw [if_pos c9] at H
        exact absurd H (by simp)
      · rw [if_neg c9] at H
        have c9b0 : (t183 != t181) = false := by simpa using c9
        (try (have c9b1 : decide (t183 = t181) = true := by simpa using c9))
        (try (have c9b2 : (t183 == t181) = true := by simpa using c9))
        clear c9
        by_cases c10 : t181 = true
        · subst c10
          rw [if_pos rfl] at H
          by_cases c11 : t180 = a0
          · rw [if_pos c11] at H
            have c11b0 : (t180 == a0) = true := beq_iff_eq.mpr c11
            have c11b1 : (t180 != a0) = false := bne_eq_false_iff_eq.mpr c11
            clear c11
            by_cases c12 : t182 = a0
            · rw [if_pos c12] at H
              have c12b0 : (t182 == a0) = true := beq_iff_eq.mpr c12
              have c12b1 : (t182 != a0) = false := bne_eq_false_iff_eq.mpr c12
              clear c12
              replace H := Option.bind_eq_some_iff.mp H
              obtain ⟨t186, A130, H⟩ := H
              (try dsimp only at H)
              have A13 := Aside0.mk A130
              clear A130
              obtain rfl := Option.some.inj H
              go_enter Tryd.func3, Tryd.ntmps3
              go_wp2_with (first | ((with_reducible refine gate_callee (f := 15) rfl ?_); refine goB (some 9) rfl Tryd.func15 (digits_Text.calls (hT_ := by repeat (first | exact hT_ | (with_reducible apply Go.Proofs.YtcfhllbobapaiaaDoorW.XTabs.Tabs.drewN) | (with_reducible apply Go.Proofs.YtcfhllbobapaiaaDoorW.XTabs.Tabs.drew) | (with_reducible apply Go.Proofs.YtcfhllbobapaiaaDoorW.XTabs.Tabs.alloc) | exact Go.Proofs.YtcfhllbobapaiaaDoorW.XTabs.Tabs.below hT_ (by repeat (first | (with_reducible first | exact HB.out | apply below_alloc | apply pw_below_drewN | apply below_drew1) | exact HB.out | refine below_set ?_ (Aside0.out (by assumption)))))) k a0 t179 _ A2.out) ?_; clear HB; intro w14 HB) | ((with_reducible refine gate_callee (f := 16) rfl ?_); refine goB (some 12) rfl Tryd.func16 (digits_Parse.calls (hT_ := by repeat (first | exact hT_ | (with_reducible apply Go.Proofs.YtcfhllbobapaiaaDoorW.XTabs.Tabs.drewN) | (with_reducible apply Go.Proofs.YtcfhllbobapaiaaDoorW.XTabs.Tabs.drew) | (with_reducible apply Go.Proofs.YtcfhllbobapaiaaDoorW.XTabs.Tabs.alloc) | exact Go.Proofs.YtcfhllbobapaiaaDoorW.XTabs.Tabs.below hT_ (by repeat (first | (with_reducible first | exact HB.out | apply below_alloc | apply pw_below_drewN | apply below_drew1) | exact HB.out | refine below_set ?_ (Aside0.out (by assumption)))))) k t179 t180 true _ A3.out) ?_; clear HB; intro w15 HB) | ((with_reducible refine gate_callee (f := 17) rfl ?_); refine goD (some 17) rfl Tryd.func17 (digits_Read.calls (hT_ := by repeat (first | exact hT_ | (with_reducible apply Go.Proofs.YtcfhllbobapaiaaDoorW.XTabs.Tabs.drewN) | (with_reducible apply Go.Proofs.YtcfhllbobapaiaaDoorW.XTabs.Tabs.drew) | (with_reducible apply Go.Proofs.YtcfhllbobapaiaaDoorW.XTabs.Tabs.alloc) | exact Go.Proofs.YtcfhllbobapaiaaDoorW.XTabs.Tabs.below hT_ (by repeat (first | (with_reducible first | exact HB.out | apply below_alloc | apply pw_below_drewN | apply below_drew1) | exact HB.out | refine below_set ?_ (Aside0.out (by assumption)))))) k t179 t182 t183 _ A4.out) ?_; intro nd) | ((with_reducible refine gate_callee (f := 18) rfl ?_); refine goB (some 22) rfl Tryd.func18 (oculusref11_Text.calls k a0 t184 _ A5.out) ?_; clear HB; intro w16 HB) | (go_at_call 19; (with_reducible refine (oculusref08_May.calls a0 t185 _ A7.out).mono ?_); rintro e w' ⟨rfl, ⟨nd, rfl⟩⟩; (try clear A7)) | (go_at_call 20; (with_reducible refine (oculuslaw11_alive.calls (hT_ := by repeat (first | exact hT_ | (with_reducible apply Go.Proofs.YtcfhllbobapaiaaDoorW.XTabs.Tabs.drewN) | (with_reducible apply Go.Proofs.YtcfhllbobapaiaaDoorW.XTabs.Tabs.drew) | (with_reducible apply Go.Proofs.YtcfhllbobapaiaaDoorW.XTabs.Tabs.alloc) | exact Go.Proofs.YtcfhllbobapaiaaDoorW.XTabs.Tabs.below hT_ (by repeat (first | (with_reducible first | exact HB.out | apply below_alloc | apply pw_below_drewN | apply below_drew1) | exact HB.out | refine below_set ?_ (Aside0.out (by assumption)))))) k  t186 _ A13.out).mono ?_); refine monoK ?_; clear HB; intro w17 HB))
              go_ret
              exact finB
            · rw [if_neg c12] at H
              exact absurd H (by simp)
          · rw [if_neg c11] at H
            exact absurd H (by simp)
        · replace c10 := Bool.eq_false_iff.mpr c10
          subst c10
          rw [if_neg (show ¬ (false = true) by decide)] at H
          replace H := Option.bind_eq_some_iff.mp H
          obtain ⟨t187, A180, H⟩ := H
          (try dsimp only at H)
          have A18 := Aside0.mk A180
          clear A180
          obtain rfl := Option.some.inj H
          go_enter Tryd.func3, Tryd.ntmps3
          go_wp2_with (first | ((with_reducible refine gate_callee (f := 15) rfl ?_); refine goB (some 9) rfl Tryd.func15 (digits_Text.calls (hT_ := by repeat (first | exact hT_ | (with_reducible apply Go.Proofs.YtcfhllbobapaiaaDoorW.XTabs.Tabs.drewN) | (with_reducible apply Go.Proofs.YtcfhllbobapaiaaDoorW.XTabs.Tabs.drew) | (with_reducible apply Go.Proofs.YtcfhllbobapaiaaDoorW.XTabs.Tabs.alloc) | exact Go.Proofs.YtcfhllbobapaiaaDoorW.XTabs.Tabs.below hT_ (by repeat (first | (with_reducible first | exact HB.out | apply below_alloc | apply pw_below_drewN | apply below_drew1) | exact HB.out | refine below_set ?_ (Aside0.out (by assumption)))))) k a0 t179 _ A2.out) ?_; clear HB; intro w19 HB) | ((with_reducible refine gate_callee (f := 16) rfl ?_); refine goB (some 12) rfl Tryd.func16 (digits_Parse.calls (hT_ := by repeat (first | exact hT_ | (with_reducible apply Go.Proofs.YtcfhllbobapaiaaDoorW.XTabs.Tabs.drewN) | (with_reducible apply Go.Proofs.YtcfhllbobapaiaaDoorW.XTabs.Tabs.drew) | (with_reducible apply Go.Proofs.YtcfhllbobapaiaaDoorW.XTabs.Tabs.alloc) | exact Go.Proofs.YtcfhllbobapaiaaDoorW.XTabs.Tabs.below hT_ (by repeat (first | (with_reducible first | exact HB.out | apply below_alloc | apply pw_below_drewN | apply below_drew1) | exact HB.out | refine below_set ?_ (Aside0.out (by assumption)))))) k t179 t180 false _ A3.out) ?_; clear HB; intro w20 HB) | ((with_reducible refine gate_callee (f := 17) rfl ?_); refine goD (some 17) rfl Tryd.func17 (digits_Read.calls (hT_ := by repeat (first | exact hT_ | (with_reducible apply Go.Proofs.YtcfhllbobapaiaaDoorW.XTabs.Tabs.drewN) | (with_reducible apply Go.Proofs.YtcfhllbobapaiaaDoorW.XTabs.Tabs.drew) | (with_reducible apply Go.Proofs.YtcfhllbobapaiaaDoorW.XTabs.Tabs.alloc) | exact Go.Proofs.YtcfhllbobapaiaaDoorW.XTabs.Tabs.below hT_ (by repeat (first | (with_reducible first | exact HB.out | apply below_alloc | apply pw_below_drewN | apply below_drew1) | exact HB.out | refine below_set ?_ (Aside0.out (by assumption)))))) k t179 t182 t183 _ A4.out) ?_; intro nd) | ((with_reducible refine gate_callee (f := 18) rfl ?_); refine goB (some 22) rfl Tryd.func18 (oculusref11_Text.calls k a0 t184 _ A5.out) ?_; clear HB; intro w21 HB) | (go_at_call 19; (with_reducible refine (oculusref08_May.calls a0 t185 _ A7.out).mono ?_); rintro e w' ⟨rfl, ⟨nd, rfl⟩⟩; (try clear A7)) | (go_at_call 20; (with_reducible refine (oculuslaw11_alive.calls (hT_ := by repeat (first | exact hT_ | (with_reducible apply Go.Proofs.YtcfhllbobapaiaaDoorW.XTabs.Tabs.drewN) | (with_reducible apply Go.Proofs.YtcfhllbobapaiaaDoorW.XTabs.Tabs.drew) | (with_reducible apply Go.Proofs.YtcfhllbobapaiaaDoorW.XTabs.Tabs.alloc) | exact Go.Proofs.YtcfhllbobapaiaaDoorW.XTabs.Tabs.below hT_ (by repeat (first | (with_reducible first | exact HB.out | apply below_alloc | apply pw_below_drewN | apply below_drew1) | exact HB.out | refine below_set ?_ (Aside0.out (by assumption)))))) k  t187 _ A18.out).mono ?_); refine monoK ?_; clear HB; intro w22 HB))
          go_ret
          exact finB
  · rw [if_neg c6] at H
    exact absurd H (by simp)
def oculuslaw11_DigitsTells.Pure : Prop := ∀ (a0 : Int), (Lit.int .i64 a0).wf = true → ∃ k, oculuslaw11_DigitsTells.f k a0 = some true
theorem oculuslaw11_DigitsTells.walk (P : oculuslaw11_DigitsTells.Pure) (a0 : Int) (w : World) (hT_ : Go.Proofs.YtcfhllbobapaiaaDoorW.XTabs.Tabs w) (w0 : (Lit.int .i64 a0).wf = true) :
    Calls Tryd.prog 3 #[.int .i64 a0] w fun e w' => e = .returned (.bool true) ∧ Below w.heap.size w w' := by
  obtain ⟨k, h⟩ := P a0 w0
  refine (oculuslaw11_DigitsTells.calls (hT_ := by repeat (first | exact hT_ | (with_reducible apply Go.Proofs.YtcfhllbobapaiaaDoorW.XTabs.Tabs.drewN) | (with_reducible apply Go.Proofs.YtcfhllbobapaiaaDoorW.XTabs.Tabs.drew) | (with_reducible apply Go.Proofs.YtcfhllbobapaiaaDoorW.XTabs.Tabs.alloc) | exact Go.Proofs.YtcfhllbobapaiaaDoorW.XTabs.Tabs.below hT_ (by repeat (first | (with_reducible first | exact HB.out | apply below_alloc | apply pw_below_drewN | apply below_drew1) | exact HB.out | refine below_set ?_ (Aside0.out (by assumption)))))) k a0 true w h).mono ?_
  rintro e w' ⟨rfl, hd⟩
  exact ⟨rfl, hd⟩
def oculusref11_Digit.f (a0 : ByteArray) (a1 : Int) : Option (Bool) := if a1 < (a0.size : Int) then (if 0 ≤ a1 then (if (bt a0 a1) ≥ 48 then (some (decide ((bt a0 a1) ≤ 57))) else (some false)) else (none)) else (some false)
set_option maxHeartbeats 8000000 in
set_option maxRecDepth 100000 in
theorem oculusref11_Digit.calls (a0 : ByteArray) (a1 : Int) (r : Bool) (w : World) (h : oculusref11_Digit.f a0 a1 = some r) :
    Calls Tryd.prog 72 #[.string a0, .int .i64 a1] w fun e w' => e = .returned (.bool r) ∧ Drawn0 w w' := by
  have H := h
  (try unfold oculusref11_Digit.f at H)
  clear h
  by_cases c3 : a1 < (a0.size : Int)
  · rw [if_pos c3] at H
    have c3b0 : decide (a1 < (a0.size : Int)) = true := decide_eq_true c3
    clear c3
    by_cases c4 : 0 ≤ a1
    · rw [if_pos c4] at H
      have c4b0 : decide (0 ≤ a1) = true := decide_eq_true c4
      clear c4
      by_cases c6 : (bt a0 a1) ≥ 48
      · rw [if_pos c6] at H
        have c6b0 : decide (48 ≤ (bt a0 a1)) = true := decide_eq_true c6
        clear c6
        obtain rfl := Option.some.inj H
        have p5 : 0 ≤ (a1 : Int) := of_decide_eq_true (by first | (with_reducible assumption) | assumption)
        have q5 : a1 < (a0.size : Int) := of_decide_eq_true (by first | (with_reducible assumption) | assumption)
        have hx5 := bt_at a0 a1
        replace p5 := eq_true p5
        replace q5 := eq_true q5
        have p7 : 0 ≤ (a1 : Int) := of_decide_eq_true (by first | (with_reducible assumption) | assumption)
        have q7 : a1 < (a0.size : Int) := of_decide_eq_true (by first | (with_reducible assumption) | assumption)
        have hx7 := bt_at a0 a1
        replace p7 := eq_true p7
        replace q7 := eq_true q7
        go_enter Tryd.func72, Tryd.ntmps72
        go_wp2
        go_ret
        exact fin0
      · rw [if_neg c6] at H
        have c6b0 : decide (48 ≤ (bt a0 a1)) = false := decide_eq_false c6
        clear c6
        obtain rfl := Option.some.inj H
        have p5 : 0 ≤ (a1 : Int) := of_decide_eq_true (by first | (with_reducible assumption) | assumption)
        have q5 : a1 < (a0.size : Int) := of_decide_eq_true (by first | (with_reducible assumption) | assumption)
        have hx5 := bt_at a0 a1
        replace p5 := eq_true p5
        replace q5 := eq_true q5
        go_enter Tryd.func72, Tryd.ntmps72
        go_wp2
        go_ret
        exact fin0
    · rw [if_neg c4] at H
      exact absurd H (by simp)
  · rw [if_neg c3] at H
    have c3b0 : decide (a1 < (a0.size : Int)) = false := decide_eq_false c3
    clear c3
    obtain rfl := Option.some.inj H
    go_enter Tryd.func72, Tryd.ntmps72
    go_wp2
    go_ret
    exact fin0
end Go.Proofs.YtcfhllbobapaiaaDoor.PA

namespace Go.Proofs.YtcfhllbobapaiaaDoor.PA
open Go.RowKit Go.Proofs.YtcfhllbobapaiaaDoorW.PrintWords Go.Proofs.YtcfhllbobapaiaaDoorW.PrintLast Go.Proofs.YtcfhllbobapaiaaDoorW.PrintMore
attribute [local go_sem] max2_int min2_int max_two min_two max_three min_three max_four min_four
set_option linter.unusedVariables false
set_option linter.unusedSimpArgs false
def oculuslaw11_DigitsNoughts.l0 : Nat → Int → ByteArray → Int → Int → Option (Bool)
  | 0, _, _, _, _ => none
  | k + 1, x0, x5, x21, x22 => if x22 < x21 then (if 1 + x5.size ≤ 9223372036854775807 then (oculuslaw11_DigitsNoughts.l0 k x0 ((⟨#[48]⟩ : ByteArray) ++ x5) x21 ((x22 + 1) % 256)) else (none)) else ((digits_Read.f k x5).bind fun bt280 => (if 1 + x5.size ≤ 9223372036854775807 then ((digits_Read.f k ((⟨#[45]⟩ : ByteArray) ++ x5)).bind fun bt282 => (if bt280.2 = true then (if bt280.1 = x0 then (if bt282.2 = true then (if bt282.1 = (wrap64 (-x0)) then (if (Int.tmod x0 10000) = 0 then (if x5.size + 5 ≤ 9223372036854775807 then ((digits_Read.f k (x5 ++ (⟨#[46, 48, 48, 48, 48]⟩ : ByteArray))).bind fun bt284 => (if (x5 ++ (⟨#[46, 48, 48, 48, 48]⟩ : ByteArray)).size + 1 ≤ 9223372036854775807 then ((digits_Lead.f k ((x5 ++ (⟨#[46, 48, 48, 48, 48]⟩ : ByteArray)) ++ (⟨#[97]⟩ : ByteArray))).bind fun bt286 => (if bt284.2 = true then (if bt284.1 = x0 then (if bt286.2.2 = true then (if bt286.1 = x0 then (if bt286.2.1 = ((x5 ++ (⟨#[46, 48, 48, 48, 48]⟩ : ByteArray)).size : Int) then ((oculuslaw11_alive.f k).bind fun t289 => (some t289)) else (none)) else (none)) else (none)) else (none)) else (none))) else (none))) else (none)) else ((digits_Read.f k x5).bind fun bt290 => (if x5.size + 1 ≤ 9223372036854775807 then ((digits_Lead.f k (x5 ++ (⟨#[97]⟩ : ByteArray))).bind fun bt292 => (if bt290.2 = true then (if bt290.1 = x0 then (if bt292.2.2 = true then (if bt292.1 = x0 then (if bt292.2.1 = (x5.size : Int) then ((oculuslaw11_alive.f k).bind fun t295 => (some t295)) else (none)) else (none)) else (none)) else (none)) else (none))) else (none)))) else (none)) else (none)) else (none)) else (none))) else (none)))
def oculuslaw11_DigitsNoughts.f (k : Nat) (a0 : Int) (a1 : Int) : Option (Bool) := if a0 < 0 then ((oculuslaw11_alive.f k).bind fun t278 => (some t278)) else ((digits_Text.f k a0).bind fun t279 => (oculuslaw11_DigitsNoughts.l0 k a0 t279 (Int.tmod a1 11) 0))
theorem oculuslaw11_DigitsNoughts.mono_l : ∀ k, (∀ y0 y1 y2 y3, LeO (oculuslaw11_DigitsNoughts.l0 k y0 y1 y2 y3) (oculuslaw11_DigitsNoughts.l0 (k + 1) y0 y1 y2 y3))
  | 0 => fun _ _ _ _ r h => by simp [oculuslaw11_DigitsNoughts.l0] at h
  | k + 1 => by
    have ih0 := oculuslaw11_DigitsNoughts.mono_l k
    · intro y0 y1 y2 y3
      unfold oculuslaw11_DigitsNoughts.l0
      repeat' first
      | (with_reducible exact ih0 _ _ _ _)
      | (with_reducible exact digits_Lead.mono _ _)
      | (with_reducible exact digits_Read.mono _ _)
      | (with_reducible exact digits_Text.mono _ _)
      | (with_reducible exact oculuslaw11_alive.mono _)
      | (with_reducible exact LeO.refl _)
      | (with_reducible exact LeO.none _)
      | (with_reducible refine LeO.ite ?_ ?_)
      | (with_reducible refine LeO.bind ?_ (fun _ => ?_))
      | exact ih0 _ _ _ _
      | exact digits_Lead.mono _ _
      | exact digits_Read.mono _ _
      | exact digits_Text.mono _ _
      | exact oculuslaw11_alive.mono _
      | exact LeO.none _
      | refine LeO.ite ?_ ?_
      | refine LeO.bind ?_ (fun _ => ?_)
theorem oculuslaw11_DigitsNoughts.mono : ∀ a0 a1 k, LeO (oculuslaw11_DigitsNoughts.f k a0 a1) (oculuslaw11_DigitsNoughts.f (k + 1) a0 a1) := by
  intro a0 a1 k
  have ih0 := oculuslaw11_DigitsNoughts.mono_l k
  unfold oculuslaw11_DigitsNoughts.f
  repeat' first
      | (with_reducible exact ih0 _ _ _ _)
      | (with_reducible exact digits_Lead.mono _ _)
      | (with_reducible exact digits_Read.mono _ _)
      | (with_reducible exact digits_Text.mono _ _)
      | (with_reducible exact oculuslaw11_alive.mono _)
      | (with_reducible exact LeO.refl _)
      | (with_reducible exact LeO.none _)
      | (with_reducible refine LeO.ite ?_ ?_)
      | (with_reducible refine LeO.bind ?_ (fun _ => ?_))
      | exact ih0 _ _ _ _
      | exact digits_Lead.mono _ _
      | exact digits_Read.mono _ _
      | exact digits_Text.mono _ _
      | exact oculuslaw11_alive.mono _
      | exact LeO.none _
      | refine LeO.ite ?_ ?_
      | refine LeO.bind ?_ (fun _ => ?_)
set_option maxHeartbeats 8000000 in
set_option maxRecDepth 100000 in
theorem oculuslaw11_DigitsNoughts.calls (k : Nat) (a0 : Int) (a1 : Int) (r : Bool) (w : World) (hT_ : Go.Proofs.YtcfhllbobapaiaaDoorW.XTabs.Tabs w) (h : oculuslaw11_DigitsNoughts.f k a0 a1 = some r) :
    Calls Tryd.prog 5 #[.int .i64 a0, .int .u8 a1] w fun e w' => e = .returned (.bool r) ∧ Below w.heap.size w w' := by
  have HB := Aside0.mk (Below.refl w.heap.size w)
  have H := h
  (try unfold oculuslaw11_DigitsNoughts.f at H)
  clear h
  by_cases c3 : a0 < 0
  · rw [if_pos c3] at H
    have c3b0 : decide (a0 < 0) = true := decide_eq_true c3
    clear c3
    replace H := Option.bind_eq_some_iff.mp H
    obtain ⟨t278, A40, H⟩ := H
    (try dsimp only at H)
    have A4 := Aside0.mk A40
    clear A40
    obtain rfl := Option.some.inj H
    go_enter Tryd.func5, Tryd.ntmps5
    go_wp2_with (first | ((with_reducible refine gate_callee (f := 20) rfl ?_); refine goB (some 17) rfl Tryd.func20 (oculuslaw11_alive.calls (hT_ := by repeat (first | exact hT_ | (with_reducible apply Go.Proofs.YtcfhllbobapaiaaDoorW.XTabs.Tabs.drewN) | (with_reducible apply Go.Proofs.YtcfhllbobapaiaaDoorW.XTabs.Tabs.drew) | (with_reducible apply Go.Proofs.YtcfhllbobapaiaaDoorW.XTabs.Tabs.alloc) | exact Go.Proofs.YtcfhllbobapaiaaDoorW.XTabs.Tabs.below hT_ (by repeat (first | (with_reducible first | exact HB.out | apply below_alloc | apply pw_below_drewN | apply below_drew1) | exact HB.out | refine below_set ?_ (Aside0.out (by assumption)))))) k  t278 _ A4.out) ?_; clear HB; intro w5 HB))
    go_ret
    exact finB
  · rw [if_neg c3] at H
    have c3b0 : decide (a0 < 0) = false := decide_eq_false c3
    clear c3
    replace H := Option.bind_eq_some_iff.mp H
    obtain ⟨t279, A60, H⟩ := H
    (try dsimp only at H)
    have A6 := Aside0.mk A60
    clear A60
    have H' := Aside0.mk H
    clear H
    go_enter Tryd.func5, Tryd.ntmps5
    go_wp2_with (first | ((with_reducible refine gate_callee (f := 15) rfl ?_); refine goB (some 19) rfl Tryd.func15 (digits_Text.calls (hT_ := by repeat (first | exact hT_ | (with_reducible apply Go.Proofs.YtcfhllbobapaiaaDoorW.XTabs.Tabs.drewN) | (with_reducible apply Go.Proofs.YtcfhllbobapaiaaDoorW.XTabs.Tabs.drew) | (with_reducible apply Go.Proofs.YtcfhllbobapaiaaDoorW.XTabs.Tabs.alloc) | exact Go.Proofs.YtcfhllbobapaiaaDoorW.XTabs.Tabs.below hT_ (by repeat (first | (with_reducible first | exact HB.out | apply below_alloc | apply pw_below_drewN | apply below_drew1) | exact HB.out | refine below_set ?_ (Aside0.out (by assumption)))))) k a0 t279 _ A6.out) ?_; clear HB; intro w7 HB))
    go_loopg [5, 22] k (fun kq v5 v22 w' => ∃ (x5_1 : ByteArray) (x22_1 : Int), v5 = .string x5_1 ∧ v22 = .int .u8 x22_1 ∧ Aside0 (oculuslaw11_DigitsNoughts.l0 kq a0 x5_1 (Int.tmod a1 11) x22_1 = some r) ∧ Aside0 (kq ≤ k) ∧ Aside0 (Below w.heap.size w w'))
    case atStart => exact ⟨(t279), (0), eqv, eqv, H', ⟨Nat.le_refl _⟩, blv⟩
    case round =>
      clear H'
      try clear c1
      try clear c2
      try clear p2
      try clear c3
      try clear c3b0
      try clear c5
      obtain ⟨x5_1, x22_1, rfl, rfl, HA, HK1, HB⟩ := hrel
      cases gk with
      | zero => exact absurd HA.out (by simp [oculuslaw11_DigitsNoughts.l0])
      | succ k1 =>
        have H := HA.out
        clear HA
        simp only [oculuslaw11_DigitsNoughts.l0] at H
        by_cases c8 : x22_1 < (Int.tmod a1 11)
        · rw [if_pos c8] at H
          have c8b0 : decide (x22_1 < (Int.tmod a1 11)) = true := decide_eq_true c8
          clear c8
          by_cases c9 : 1 + x5_1.size ≤ 9223372036854775807
          · rw [if_pos c9] at H
            have c9b0 := eq_true c9
            have c9b1 : decide (1 + x5_1.size ≤ 9223372036854775807) = true := decide_eq_true c9
            try have c9b2 : (9223372036854775807 < 1 + x5_1.size) = False := eq_false (Nat.not_lt.2 c9)
            have H' := Aside0.mk H
            clear H
            go_wp2
            go_roundg k1
            case measure => have := HK1.out; omega
            case rel => exact ⟨((⟨#[48]⟩ : ByteArray) ++ x5_1), ((x22_1 + 1) % 256), eqv, eqv, H', ⟨by have := HK1.out; omega⟩, blv⟩
          · rw [if_neg c9] at H
            exact absurd H (by simp)
        · rw [if_neg c8] at H
          have c8b0 : decide (x22_1 < (Int.tmod a1 11)) = false := decide_eq_false c8
          clear c8
          replace H := Option.bind_eq_some_iff.mp H
          obtain ⟨⟨t280, t281⟩, A100, H⟩ := H
          (try dsimp only at H)
          have A10 := Aside0.mk A100
          clear A100
          by_cases c11 : 1 + x5_1.size ≤ 9223372036854775807
          · rw [if_pos c11] at H
            have c11b0 := eq_true c11
            have c11b1 : decide (1 + x5_1.size ≤ 9223372036854775807) = true := decide_eq_true c11
            try have c11b2 : (9223372036854775807 < 1 + x5_1.size) = False := eq_false (Nat.not_lt.2 c11)
            replace H := Option.bind_eq_some_iff.mp H
            obtain ⟨⟨t282, t283⟩, A120, H⟩ := H
            (try dsimp only at H)
            have A12 := Aside0.mk A120
            clear A120
            by_cases c13 : t281 = true
            · subst c13
              rw [if_pos rfl] at H
              by_cases c14 : t280 = a0
              · rw [if_pos c14] at H
                have c14b0 : (t280 == a0) = true := beq_iff_eq.mpr c14
                have c14b1 : (t280 != a0) = false := bne_eq_false_iff_eq.mpr c14
                clear c14
                by_cases c15 : t283 = true
                · subst c15
                  rw [if_pos rfl] at H
                  by_cases c16 : t282 = (wrap64 (-a0))
                  · rw [if_pos c16] at H
                    have c16b0 : (t282 == (wrap64 (-a0))) = true := beq_iff_eq.mpr c16
                    have c16b1 : (t282 != (wrap64 (-a0))) = false := bne_eq_false_iff_eq.mpr c16
                    clear c16
                    by_cases c17 : (Int.tmod a0 10000) = 0
                    · rw [if_pos c17] at H
                      have c17b0 : ((Int.tmod a0 10000) == 0) = true := beq_iff_eq.mpr c17
                      have c17b1 : ((Int.tmod a0 10000) != 0) = false := bne_eq_false_iff_eq.mpr c17
                      clear c17
                      by_cases c18 : x5_1.size + 5 ≤ 9223372036854775807
                      · rw [if_pos c18] at H
                        have c18b0 := eq_true c18
                        have c18b1 : decide (x5_1.size + 5 ≤ 9223372036854775807) = true := decide_eq_true c18
                        try have c18b2 : (9223372036854775807 < x5_1.size + 5) = False := eq_false (Nat.not_lt.2 c18)
                        replace H := Option.bind_eq_some_iff.mp H
                        obtain ⟨⟨t284, t285⟩, A190, H⟩ := H
                        (try dsimp only at H)
                        have A19 := Aside0.mk A190
                        clear A190
                        by_cases c20 : (x5_1 ++ (⟨#[46, 48, 48, 48, 48]⟩ : ByteArray)).size + 1 ≤ 9223372036854775807
                        · rw [if_pos c20] at H
                          have c20b0 := eq_true c20
                          have c20b1 : decide ((x5_1 ++ (⟨#[46, 48, 48, 48, 48]⟩ : ByteArray)).size + 1 ≤ 9223372036854775807) = true := decide_eq_true c20
                          try have c20b2 : (9223372036854775807 < (x5_1 ++ (⟨#[46, 48, 48, 48, 48]⟩ : ByteArray)).size + 1) = False := eq_false (Nat.not_lt.2 c20)
                          try have c20b3 : (9223372036854775807 < x5_1.size + 5 + 1) = False := eq_false (Nat.not_lt.2 (by have z_ := c20; simp only [ByteArray.size_append] at z_; exact z_))
                          replace H := Option.bind_eq_some_iff.mp H
                          obtain ⟨⟨t286, t287, t288⟩, A210, H⟩ := H
                          (try dsimp only at H)
                          have A21 := Aside0.mk A210
                          clear A210
                          by_cases c22 : t285 = true
                          · subst c22
                            rw [if_pos rfl] at H
                            by_cases c23 : t284 = a0
                            · rw [if_pos c23] at H
                              have c23b0 : (t284 == a0) = true := beq_iff_eq.mpr c23
                              have c23b1 : (t284 != a0) = false := bne_eq_false_iff_eq.mpr c23
                              clear c23
                              by_cases c24 : t288 = true
                              · subst c24
                                rw [if_pos rfl] at H
                                by_cases c25 : t286 = a0
                                · rw [if_pos c25] at H
                                  have c25b0 : (t286 == a0) = true := beq_iff_eq.mpr c25
                                  have c25b1 : (t286 != a0) = false := bne_eq_false_iff_eq.mpr c25
                                  clear c25
                                  by_cases c26 : t287 = ((x5_1 ++ (⟨#[46, 48, 48, 48, 48]⟩ : ByteArray)).size : Int)
                                  · rw [if_pos c26] at H
                                    have c26b0 : (t287 == ((x5_1 ++ (⟨#[46, 48, 48, 48, 48]⟩ : ByteArray)).size : Int)) = true := beq_iff_eq.mpr c26
                                    try have c26b3 : (t287 = (x5_1.size : Int) + 5) = True := eq_true (by have e_ : (x5_1 ++ (⟨#[46, 48, 48, 48, 48]⟩ : ByteArray)).size = x5_1.size + 5 := (by simp only [ByteArray.size_append]; rfl); omega)
                                    have c26b1 : (t287 != ((x5_1 ++ (⟨#[46, 48, 48, 48, 48]⟩ : ByteArray)).size : Int)) = false := bne_eq_false_iff_eq.mpr c26
                                    clear c26
                                    replace H := Option.bind_eq_some_iff.mp H
                                    obtain ⟨t289, A270, H⟩ := H
                                    (try dsimp only at H)
                                    have A27 := Aside0.mk A270
                                    clear A270
                                    obtain rfl := Option.some.inj H
                                    go_wp2_with (first | ((with_reducible refine gate_callee (f := 17) rfl ?_); refine goD (some 29) rfl Tryd.func17 (digits_Read.calls (hT_ := by repeat (first | exact hT_ | (with_reducible apply Go.Proofs.YtcfhllbobapaiaaDoorW.XTabs.Tabs.drewN) | (with_reducible apply Go.Proofs.YtcfhllbobapaiaaDoorW.XTabs.Tabs.drew) | (with_reducible apply Go.Proofs.YtcfhllbobapaiaaDoorW.XTabs.Tabs.alloc) | exact Go.Proofs.YtcfhllbobapaiaaDoorW.XTabs.Tabs.below hT_ (by repeat (first | (with_reducible first | exact HB.out | apply below_alloc | apply pw_below_drewN | apply below_drew1) | exact HB.out | refine below_set ?_ (Aside0.out (by assumption)))))) k1 x5_1 t280 true _ A10.out) ?_; intro nd) | ((with_reducible refine gate_callee (f := 17) rfl ?_); refine goD (some 35) rfl Tryd.func17 (digits_Read.calls (hT_ := by repeat (first | exact hT_ | (with_reducible apply Go.Proofs.YtcfhllbobapaiaaDoorW.XTabs.Tabs.drewN) | (with_reducible apply Go.Proofs.YtcfhllbobapaiaaDoorW.XTabs.Tabs.drew) | (with_reducible apply Go.Proofs.YtcfhllbobapaiaaDoorW.XTabs.Tabs.alloc) | exact Go.Proofs.YtcfhllbobapaiaaDoorW.XTabs.Tabs.below hT_ (by repeat (first | (with_reducible first | exact HB.out | apply below_alloc | apply pw_below_drewN | apply below_drew1) | exact HB.out | refine below_set ?_ (Aside0.out (by assumption)))))) k1 ((⟨#[45]⟩ : ByteArray) ++ x5_1) t282 true _ A12.out) ?_; intro nd) | ((with_reducible refine gate_callee (f := 17) rfl ?_); refine goD (some 62) rfl Tryd.func17 (digits_Read.calls (hT_ := by repeat (first | exact hT_ | (with_reducible apply Go.Proofs.YtcfhllbobapaiaaDoorW.XTabs.Tabs.drewN) | (with_reducible apply Go.Proofs.YtcfhllbobapaiaaDoorW.XTabs.Tabs.drew) | (with_reducible apply Go.Proofs.YtcfhllbobapaiaaDoorW.XTabs.Tabs.alloc) | exact Go.Proofs.YtcfhllbobapaiaaDoorW.XTabs.Tabs.below hT_ (by repeat (first | (with_reducible first | exact HB.out | apply below_alloc | apply pw_below_drewN | apply below_drew1) | exact HB.out | refine below_set ?_ (Aside0.out (by assumption)))))) k1 (x5_1 ++ (⟨#[46, 48, 48, 48, 48]⟩ : ByteArray)) t284 true _ A19.out) ?_; intro nd) | ((with_reducible refine gate_callee (f := 22) rfl ?_); refine goD (some 68) rfl Tryd.func22 (digits_Lead.calls (hT_ := by repeat (first | exact hT_ | (with_reducible apply Go.Proofs.YtcfhllbobapaiaaDoorW.XTabs.Tabs.drewN) | (with_reducible apply Go.Proofs.YtcfhllbobapaiaaDoorW.XTabs.Tabs.drew) | (with_reducible apply Go.Proofs.YtcfhllbobapaiaaDoorW.XTabs.Tabs.alloc) | exact Go.Proofs.YtcfhllbobapaiaaDoorW.XTabs.Tabs.below hT_ (by repeat (first | (with_reducible first | exact HB.out | apply below_alloc | apply pw_below_drewN | apply below_drew1) | exact HB.out | refine below_set ?_ (Aside0.out (by assumption)))))) k1 ((x5_1 ++ (⟨#[46, 48, 48, 48, 48]⟩ : ByteArray)) ++ (⟨#[97]⟩ : ByteArray)) t286 t287 true _ A21.out) ?_; intro nd) | (go_at_call 20; (with_reducible refine (oculuslaw11_alive.calls (hT_ := by repeat (first | exact hT_ | (with_reducible apply Go.Proofs.YtcfhllbobapaiaaDoorW.XTabs.Tabs.drewN) | (with_reducible apply Go.Proofs.YtcfhllbobapaiaaDoorW.XTabs.Tabs.drew) | (with_reducible apply Go.Proofs.YtcfhllbobapaiaaDoorW.XTabs.Tabs.alloc) | exact Go.Proofs.YtcfhllbobapaiaaDoorW.XTabs.Tabs.below hT_ (by repeat (first | (with_reducible first | exact HB.out | apply below_alloc | apply pw_below_drewN | apply below_drew1) | exact HB.out | refine below_set ?_ (Aside0.out (by assumption)))))) k1  t289 _ A27.out).mono ?_); refine monoK ?_; clear HB; intro w28 HB))
                                    go_ret
                                    exact finB
                                  · rw [if_neg c26] at H
                                    exact absurd H (by simp)
                                · rw [if_neg c25] at H
                                  exact absurd H (by simp)
                              · replace c24 := Bool.eq_false_iff.mpr c24
                                subst c24
                                rw [if_neg (show ¬ (false = true) by decide)] at H
                                exact absurd H (by simp)
                            · rw [if_neg c23] at H
                              exact absurd H (by simp)
                          · replace c22 := Bool.eq_false_iff.mpr c22
                            subst c22
                            rw [if_neg (show ¬ (false = true) by decide)] at H
                            exact absurd H (by simp)
                        · rw [if_neg c20] at H
                          exact absurd H (by simp)
                      · rw [if_neg c18] at H
                        exact absurd H (by simp)
                    · rw [if_neg c17] at H
                      have c17b0 : ((Int.tmod a0 10000) == 0) = false := beq_eq_false_iff_ne.mpr c17
                      have c17b1 : ((Int.tmod a0 10000) != 0) = true := bne_iff_ne.mpr c17
                      replace H := Option.bind_eq_some_iff.mp H
                      obtain ⟨⟨t290, t291⟩, A290, H⟩ := H
                      (try dsimp only at H)
                      have A29 := Aside0.mk A290
                      clear A290
                      by_cases c30 : x5_1.size + 1 ≤ 9223372036854775807
                      · rw [if_pos c30] at H
                        have c30b0 := eq_true c30
                        have c30b1 : decide (x5_1.size + 1 ≤ 9223372036854775807) = true := decide_eq_true c30
                        try have c30b2 : (9223372036854775807 < x5_1.size + 1) = False := eq_false (Nat.not_lt.2 c30)
                        replace H := Option.bind_eq_some_iff.mp H
                        obtain ⟨⟨t292, t293, t294⟩, A310, H⟩ := H
                        (try dsimp only at H)
                        have A31 := Aside0.mk A310
                        clear A310
                        by_cases c32 : t291 = true
                        · subst c32
                          rw [if_pos rfl] at H
                          by_cases c33 : t290 = a0
                          · rw [if_pos c33] at H
                            have c33b0 : (t290 == a0) = true := beq_iff_eq.mpr c33
                            have c33b1 : (t290 != a0) = false := bne_eq_false_iff_eq.mpr c33
                            clear c33
                            by_cases c34 : t294 = true
                            · subst c34
                              rw [if_pos rfl] at H
                              by_cases c35 : t292 = a0
                              · rw [if_pos c35] at H
                                have c35b0 : (t292 == a0) = true := beq_iff_eq.mpr c35
                                have c35b1 : (t292 != a0) = false := bne_eq_false_iff_eq.mpr c35
                                clear c35
                                by_cases c36 : t293 = (x5_1.size : Int)
                                · rw [if_pos c36] at H
                                  have c36b0 : (t293 == (x5_1.size : Int)) = true := beq_iff_eq.mpr c36
                                  have c36b1 : (t293 != (x5_1.size : Int)) = false := bne_eq_false_iff_eq.mpr c36
                                  clear c36
                                  replace H := Option.bind_eq_some_iff.mp H
                                  obtain ⟨t295, A370, H⟩ := H
                                  (try dsimp only at H)
                                  have A37 := Aside0.mk A370
                                  clear A370
                                  obtain rfl := Option.some.inj H
                                  go_wp2_with (first | ((with_reducible refine gate_callee (f := 17) rfl ?_); refine goD (some 29) rfl Tryd.func17 (digits_Read.calls (hT_ := by repeat (first | exact hT_ | (with_reducible apply Go.Proofs.YtcfhllbobapaiaaDoorW.XTabs.Tabs.drewN) | (with_reducible apply Go.Proofs.YtcfhllbobapaiaaDoorW.XTabs.Tabs.drew) | (with_reducible apply Go.Proofs.YtcfhllbobapaiaaDoorW.XTabs.Tabs.alloc) | exact Go.Proofs.YtcfhllbobapaiaaDoorW.XTabs.Tabs.below hT_ (by repeat (first | (with_reducible first | exact HB.out | apply below_alloc | apply pw_below_drewN | apply below_drew1) | exact HB.out | refine below_set ?_ (Aside0.out (by assumption)))))) k1 x5_1 t280 true _ A10.out) ?_; intro nd) | ((with_reducible refine gate_callee (f := 17) rfl ?_); refine goD (some 35) rfl Tryd.func17 (digits_Read.calls (hT_ := by repeat (first | exact hT_ | (with_reducible apply Go.Proofs.YtcfhllbobapaiaaDoorW.XTabs.Tabs.drewN) | (with_reducible apply Go.Proofs.YtcfhllbobapaiaaDoorW.XTabs.Tabs.drew) | (with_reducible apply Go.Proofs.YtcfhllbobapaiaaDoorW.XTabs.Tabs.alloc) | exact Go.Proofs.YtcfhllbobapaiaaDoorW.XTabs.Tabs.below hT_ (by repeat (first | (with_reducible first | exact HB.out | apply below_alloc | apply pw_below_drewN | apply below_drew1) | exact HB.out | refine below_set ?_ (Aside0.out (by assumption)))))) k1 ((⟨#[45]⟩ : ByteArray) ++ x5_1) t282 true _ A12.out) ?_; intro nd) | ((with_reducible refine gate_callee (f := 17) rfl ?_); refine goD (some 62) rfl Tryd.func17 (digits_Read.calls (hT_ := by repeat (first | exact hT_ | (with_reducible apply Go.Proofs.YtcfhllbobapaiaaDoorW.XTabs.Tabs.drewN) | (with_reducible apply Go.Proofs.YtcfhllbobapaiaaDoorW.XTabs.Tabs.drew) | (with_reducible apply Go.Proofs.YtcfhllbobapaiaaDoorW.XTabs.Tabs.alloc) | exact Go.Proofs.YtcfhllbobapaiaaDoorW.XTabs.Tabs.below hT_ (by repeat (first | (with_reducible first | exact HB.out | apply below_alloc | apply pw_below_drewN | apply below_drew1) | exact HB.out | refine below_set ?_ (Aside0.out (by assumption)))))) k1 x5_1 t290 true _ A29.out) ?_; intro nd) | ((with_reducible refine gate_callee (f := 22) rfl ?_); refine goD (some 68) rfl Tryd.func22 (digits_Lead.calls (hT_ := by repeat (first | exact hT_ | (with_reducible apply Go.Proofs.YtcfhllbobapaiaaDoorW.XTabs.Tabs.drewN) | (with_reducible apply Go.Proofs.YtcfhllbobapaiaaDoorW.XTabs.Tabs.drew) | (with_reducible apply Go.Proofs.YtcfhllbobapaiaaDoorW.XTabs.Tabs.alloc) | exact Go.Proofs.YtcfhllbobapaiaaDoorW.XTabs.Tabs.below hT_ (by repeat (first | (with_reducible first | exact HB.out | apply below_alloc | apply pw_below_drewN | apply below_drew1) | exact HB.out | refine below_set ?_ (Aside0.out (by assumption)))))) k1 (x5_1 ++ (⟨#[97]⟩ : ByteArray)) t292 t293 true _ A31.out) ?_; intro nd) | (go_at_call 20; (with_reducible refine (oculuslaw11_alive.calls (hT_ := by repeat (first | exact hT_ | (with_reducible apply Go.Proofs.YtcfhllbobapaiaaDoorW.XTabs.Tabs.drewN) | (with_reducible apply Go.Proofs.YtcfhllbobapaiaaDoorW.XTabs.Tabs.drew) | (with_reducible apply Go.Proofs.YtcfhllbobapaiaaDoorW.XTabs.Tabs.alloc) | exact Go.Proofs.YtcfhllbobapaiaaDoorW.XTabs.Tabs.below hT_ (by repeat (first | (with_reducible first | exact HB.out | apply below_alloc | apply pw_below_drewN | apply below_drew1) | exact HB.out | refine below_set ?_ (Aside0.out (by assumption)))))) k1  t295 _ A37.out).mono ?_); refine monoK ?_; clear HB; intro w38 HB))
                                  go_ret
                                  exact finB
                                · rw [if_neg c36] at H
                                  exact absurd H (by simp)
                              · rw [if_neg c35] at H
                                exact absurd H (by simp)
                            · replace c34 := Bool.eq_false_iff.mpr c34
                              subst c34
                              rw [if_neg (show ¬ (false = true) by decide)] at H
                              exact absurd H (by simp)
                          · rw [if_neg c33] at H
                            exact absurd H (by simp)
                        · replace c32 := Bool.eq_false_iff.mpr c32
                          subst c32
                          rw [if_neg (show ¬ (false = true) by decide)] at H
                          exact absurd H (by simp)
                      · rw [if_neg c30] at H
                        exact absurd H (by simp)
                  · rw [if_neg c16] at H
                    exact absurd H (by simp)
                · replace c15 := Bool.eq_false_iff.mpr c15
                  subst c15
                  rw [if_neg (show ¬ (false = true) by decide)] at H
                  exact absurd H (by simp)
              · rw [if_neg c14] at H
                exact absurd H (by simp)
            · replace c13 := Bool.eq_false_iff.mpr c13
              subst c13
              rw [if_neg (show ¬ (false = true) by decide)] at H
              exact absurd H (by simp)
          · rw [if_neg c11] at H
            exact absurd H (by simp)
def oculuslaw11_DigitsNoughts.Pure : Prop := ∀ (a0 : Int) (a1 : Int), (Lit.int .i64 a0).wf = true → (Lit.int .u8 a1).wf = true → ∃ k, oculuslaw11_DigitsNoughts.f k a0 a1 = some true
theorem oculuslaw11_DigitsNoughts.walk (P : oculuslaw11_DigitsNoughts.Pure) (a0 : Int) (a1 : Int) (w : World) (hT_ : Go.Proofs.YtcfhllbobapaiaaDoorW.XTabs.Tabs w) (w0 : (Lit.int .i64 a0).wf = true) (w1 : (Lit.int .u8 a1).wf = true) :
    Calls Tryd.prog 5 #[.int .i64 a0, .int .u8 a1] w fun e w' => e = .returned (.bool true) ∧ Below w.heap.size w w' := by
  obtain ⟨k, h⟩ := P a0 a1 w0 w1
  refine (oculuslaw11_DigitsNoughts.calls (hT_ := by repeat (first | exact hT_ | (with_reducible apply Go.Proofs.YtcfhllbobapaiaaDoorW.XTabs.Tabs.drewN) | (with_reducible apply Go.Proofs.YtcfhllbobapaiaaDoorW.XTabs.Tabs.drew) | (with_reducible apply Go.Proofs.YtcfhllbobapaiaaDoorW.XTabs.Tabs.alloc) | exact Go.Proofs.YtcfhllbobapaiaaDoorW.XTabs.Tabs.below hT_ (by repeat (first | (with_reducible first | exact HB.out | apply below_alloc | apply pw_below_drewN | apply below_drew1) | exact HB.out | refine below_set ?_ (Aside0.out (by assumption)))))) k a0 a1 true w h).mono ?_
  rintro e w' ⟨rfl, hd⟩
  exact ⟨rfl, hd⟩
end Go.Proofs.YtcfhllbobapaiaaDoor.PA
