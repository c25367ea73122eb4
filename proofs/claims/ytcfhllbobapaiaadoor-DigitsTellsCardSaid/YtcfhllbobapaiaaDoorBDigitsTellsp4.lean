/- Texts that DigitsTells rests on. -/
import Derived.Test.YtcfhllbobapaiaaDoorBDigitsTellsp0
import Derived.Test.YtcfhllbobapaiaaDoorBDigitsTellsp3
import Derived.Test.YtcfhllbobapaiaaDoorBDigitsTellsp2
import Derived.Test.YtcfhllbobapaiaaDoorBDigitsTellsp1

namespace Go.Proofs.YtcfhllbobapaiaaDoor.PA
open Go.RowKit Go.Proofs.YtcfhllbobapaiaaDoorW.PrintWords Go.Proofs.YtcfhllbobapaiaaDoorW.PrintLast Go.Proofs.YtcfhllbobapaiaaDoorW.PrintMore
attribute [local go_sem] max2_int min2_int max_two min_two max_three min_three max_four min_four
set_option linter.unusedVariables false
set_option linter.unusedSimpArgs false
mutual
def digits_Lead.j1 : Nat → ByteArray → Int → Option (Int × Int × Bool)
  | 0, _, _ => none
  | k + 1, x0, x5 => if x5 > 0 then (if x5 < (x0.size : Int) then (if 0 ≤ x5 then (if (bt x0 x5) = 46 then ((digits_digit.f x0 (wrap64 (x5 + 1))).bind fun t163 => (digits_Lead.j2 k x0 x5 t163)) else (digits_Lead.j2 k x0 x5 false)) else (none)) else (digits_Lead.j2 k x0 x5 false)) else (digits_Lead.j2 k x0 x5 false)
def digits_Lead.j2 : Nat → ByteArray → Int → Bool → Option (Int × Int × Bool)
  | 0, _, _, _ => none
  | k + 1, x0, x5, x37 => if x37 = true then (digits_Lead.l1 k x0 x5 (wrap64 (x5 + 1))) else (if 0 ≤ x5 then (if x5 ≤ (x0.size : Int) then ((digits_Read.f k (x0.extract 0 (x5 : Int).toNat)).bind fun bt169 => (if bt169.2 = true then (some (bt169.1, x5, true)) else (some (0, 0, false)))) else (none)) else (none))
def digits_Lead.l1 : Nat → ByteArray → Int → Int → Option (Int × Int × Bool)
  | 0, _, _, _ => none
  | k + 1, x0, x5, x6 => if x6 ≤ (wrap64 (x5 + 4)) then ((digits_digit.f x0 x6).bind fun t164 => (if t164 = true then (digits_Lead.l1 k x0 x5 (wrap64 (x6 + 1))) else (if 0 ≤ x6 then (if x6 ≤ (x0.size : Int) then ((digits_Read.f k (x0.extract 0 (x6 : Int).toNat)).bind fun bt165 => (if bt165.2 = true then (some (bt165.1, x6, true)) else (some (0, 0, false)))) else (none)) else (none)))) else (if 0 ≤ x6 then (if x6 ≤ (x0.size : Int) then ((digits_Read.f k (x0.extract 0 (x6 : Int).toNat)).bind fun bt167 => (if bt167.2 = true then (some (bt167.1, x6, true)) else (some (0, 0, false)))) else (none)) else (none))
def digits_Lead.l0 : Nat → ByteArray → Int → Option (Int × Int × Bool)
  | 0, _, _ => none
  | k + 1, x0, x5 => if x5 < 30 then ((digits_digit.f x0 x5).bind fun t162 => (if t162 = true then (digits_Lead.l0 k x0 (wrap64 (x5 + 1))) else (digits_Lead.j1 k x0 x5))) else (digits_Lead.j1 k x0 x5)
end
def digits_Lead.f (k : Nat) (a0 : ByteArray) : Option (Int × Int × Bool) := digits_Lead.l0 k a0 0
theorem digits_Lead.mono_l : ∀ k, (∀ y0 y1, LeO (digits_Lead.j1 k y0 y1) (digits_Lead.j1 (k + 1) y0 y1)) ∧ (∀ y0 y1 y2, LeO (digits_Lead.j2 k y0 y1 y2) (digits_Lead.j2 (k + 1) y0 y1 y2)) ∧ (∀ y0 y1 y2, LeO (digits_Lead.l1 k y0 y1 y2) (digits_Lead.l1 (k + 1) y0 y1 y2)) ∧ (∀ y0 y1, LeO (digits_Lead.l0 k y0 y1) (digits_Lead.l0 (k + 1) y0 y1))
  | 0 => ⟨fun _ _ r h => by simp [digits_Lead.j1] at h, fun _ _ _ r h => by simp [digits_Lead.j2] at h, fun _ _ _ r h => by simp [digits_Lead.l1] at h, fun _ _ r h => by simp [digits_Lead.l0] at h⟩
  | k + 1 => by
    obtain ⟨ih0, ih1, ih2, ih3⟩ := digits_Lead.mono_l k
    refine ⟨?_, ?_, ?_, ?_⟩
    · intro y0 y1
      unfold digits_Lead.j1
      repeat' first
      | (with_reducible exact ih0 _ _)
      | (with_reducible exact ih1 _ _ _)
      | (with_reducible exact ih2 _ _ _)
      | (with_reducible exact ih3 _ _)
      | (with_reducible exact digits_Read.mono _ _)
      | (with_reducible exact LeO.refl _)
      | (with_reducible exact LeO.none _)
      | (with_reducible refine LeO.ite ?_ ?_)
      | (with_reducible refine LeO.bind ?_ (fun _ => ?_))
      | exact ih0 _ _
      | exact ih1 _ _ _
      | exact ih2 _ _ _
      | exact ih3 _ _
      | exact digits_Read.mono _ _
      | exact LeO.none _
      | refine LeO.ite ?_ ?_
      | refine LeO.bind ?_ (fun _ => ?_)
    · intro y0 y1 y2
      unfold digits_Lead.j2
      repeat' first
      | (with_reducible exact ih0 _ _)
      | (with_reducible exact ih1 _ _ _)
      | (with_reducible exact ih2 _ _ _)
      | (with_reducible exact ih3 _ _)
      | (with_reducible exact digits_Read.mono _ _)
      | (with_reducible exact LeO.refl _)
      | (with_reducible exact LeO.none _)
      | (with_reducible refine LeO.ite ?_ ?_)
      | (with_reducible refine LeO.bind ?_ (fun _ => ?_))
      | exact ih0 _ _
      | exact ih1 _ _ _
      | exact ih2 _ _ _
      | exact ih3 _ _
      | exact digits_Read.mono _ _
      | exact LeO.none _
      | refine LeO.ite ?_ ?_
      | refine LeO.bind ?_ (fun _ => ?_)
    · intro y0 y1 y2
      unfold digits_Lead.l1
      repeat' first
      | (with_reducible exact ih0 _ _)
      | (with_reducible exact ih1 _ _ _)
      | (with_reducible exact ih2 _ _ _)
      | (with_reducible exact ih3 _ _)
      | (with_reducible exact digits_Read.mono _ _)
      | (with_reducible exact LeO.refl _)
      | (with_reducible exact LeO.none _)
      | (with_reducible refine LeO.ite ?_ ?_)
      | (with_reducible refine LeO.bind ?_ (fun _ => ?_))
      | exact ih0 _ _
      | exact ih1 _ _ _
      | exact ih2 _ _ _
      | exact ih3 _ _
      | exact digits_Read.mono _ _
      | exact LeO.none _
      | refine LeO.ite ?_ ?_
      | refine LeO.bind ?_ (fun _ => ?_)
    · intro y0 y1
      unfold digits_Lead.l0
      repeat' first
      | (with_reducible exact ih0 _ _)
      | (with_reducible exact ih1 _ _ _)
      | (with_reducible exact ih2 _ _ _)
      | (with_reducible exact ih3 _ _)
      | (with_reducible exact digits_Read.mono _ _)
      | (with_reducible exact LeO.refl _)
      | (with_reducible exact LeO.none _)
      | (with_reducible refine LeO.ite ?_ ?_)
      | (with_reducible refine LeO.bind ?_ (fun _ => ?_))
      | exact ih0 _ _
      | exact ih1 _ _ _
      | exact ih2 _ _ _
      | exact ih3 _ _
      | exact digits_Read.mono _ _
      | exact LeO.none _
      | refine LeO.ite ?_ ?_
      | refine LeO.bind ?_ (fun _ => ?_)
theorem digits_Lead.mono : ∀ a0 k, LeO (digits_Lead.f k a0) (digits_Lead.f (k + 1) a0) := by
  intro a0 k
  obtain ⟨ih0, ih1, ih2, ih3⟩ := digits_Lead.mono_l k
  unfold digits_Lead.f
  repeat' first
      | (with_reducible exact ih0 _ _)
      | (with_reducible exact ih1 _ _ _)
      | (with_reducible exact ih2 _ _ _)
      | (with_reducible exact ih3 _ _)
      | (with_reducible exact digits_Read.mono _ _)
      | (with_reducible exact LeO.refl _)
      | (with_reducible exact LeO.none _)
      | (with_reducible refine LeO.ite ?_ ?_)
      | (with_reducible refine LeO.bind ?_ (fun _ => ?_))
      | exact ih0 _ _
      | exact ih1 _ _ _
      | exact ih2 _ _ _
      | exact ih3 _ _
      | exact digits_Read.mono _ _
      | exact LeO.none _
      | refine LeO.ite ?_ ?_
      | refine LeO.bind ?_ (fun _ => ?_)
set_option maxHeartbeats 8000000 in
set_option maxRecDepth 100000 in
theorem digits_Lead.calls (k : Nat) (a0 : ByteArray) (r1 : Int) (r2 : Int) (r3 : Bool) (w : World) (hT_ : Go.Proofs.YtcfhllbobapaiaaDoorW.XTabs.Tabs w) (h : digits_Lead.f k a0 = some (r1, r2, r3)) :
    Calls Tryd.prog 22 #[.string a0] w fun e w' => e = .returned (.tuple #[.int .i64 r1, .int .i64 r2, .bool r3]) ∧ Drawn0 w w' := by
  have H := h
  (try unfold digits_Lead.f at H)
  clear h
  have HC2 := Aside0.mk H
  clear H
  go_enter Tryd.func22, Tryd.ntmps22
  go_upto_block 0 with (fail)
  go_cut [5] (fun v5 wc => ∃ (kq : Nat) (x5_1 : Int), v5 = .int .i64 x5_1 ∧ Aside0 (digits_Lead.j1 kq a0 x5_1 = some (r1, r2, r3)) ∧ Aside0 (kq ≤ k) ∧ Drawn0 w wc)
  case first =>
    have H := HC2.out
    clear HC2
    have H' := Aside0.mk H
    clear H
    go_wp2
    go_loopg [5] k (fun kq v5 w' => ∃ (x5_1 : Int), v5 = .int .i64 x5_1 ∧ Aside0 (digits_Lead.l0 kq a0 x5_1 = some (r1, r2, r3)) ∧ Aside0 (kq ≤ k) ∧ Drawn0 w w')
    case atStart => exact ⟨(0), eqv, H', ⟨Nat.le_refl _⟩, drv⟩
    case round =>
      clear H'
      try clear c2
      try clear p2
      obtain ⟨x5_1, rfl, HA, HK1, ⟨m1, rfl⟩⟩ := hrel
      cases gk with
      | zero => exact absurd HA.out (by simp [digits_Lead.l0])
      | succ k1 =>
        have H := HA.out
        clear HA
        simp only [digits_Lead.l0] at H
        by_cases c3 : x5_1 < 30
        · rw [if_pos c3] at H
          have c3b0 : decide (x5_1 < 30) = true := decide_eq_true c3
          clear c3
          (first | rw [c3b0] | (simp only [i64_w, i32_w]; rw [c3b0]) | skip)
          replace H := Option.bind_eq_some_iff.mp H
          obtain ⟨t162, A40, H⟩ := H
          (try dsimp only at H)
          have A4 := Aside0.mk A40
          clear A40
          by_cases c5 : t162 = true
          · subst c5
            rw [if_pos rfl] at H
            have H' := Aside0.mk H
            clear H
            go_wp2_with (first | (go_at_call 74; (with_reducible refine (digits_digit.calls a0 x5_1 true _ A4.out).mono ?_); rintro e w' ⟨rfl, ⟨nd, rfl⟩⟩; (try clear A4)))
            go_roundg k1
            case measure => have := HK1.out; omega
            case rel => exact ⟨(wrap64 (x5_1 + 1)), eqv, H', ⟨by have := HK1.out; omega⟩, drv⟩
          · replace c5 := Bool.eq_false_iff.mpr c5
            subst c5
            rw [if_neg (show ¬ (false = true) by decide)] at H
            have H' := Aside0.mk H
            clear H
            go_wp2_with (first | (go_at_call 74; (with_reducible refine (digits_digit.calls a0 x5_1 false _ A4.out).mono ?_); rintro e w' ⟨rfl, ⟨nd, rfl⟩⟩; (try clear A4)))
            go_meet
            case rel => exact ⟨_, (x5_1), eqv, H', ⟨by have := HK1.out; first | omega | exact Nat.le_refl _⟩, drv⟩
        · rw [if_neg c3] at H
          have c3b0 : decide (x5_1 < 30) = false := decide_eq_false c3
          clear c3
          (first | rw [c3b0] | (simp only [i64_w, i32_w]; rw [c3b0]) | skip)
          have H' := Aside0.mk H
          clear H
          go_wp2
          go_meet
          case rel => exact ⟨_, (x5_1), eqv, H', ⟨by have := HK1.out; first | omega | exact Nat.le_refl _⟩, drv⟩
  case rest =>
    clear HC2
    try clear c2
    try clear p2
    try clear c3
    try clear c3b0
    try clear c5
    try clear p2
    obtain ⟨kq, x5_1, rfl, HA, HJ1, ⟨mc1, rfl⟩⟩ := hcut
    cases kq with
    | zero => exact absurd HA.out (by simp [digits_Lead.j1])
    | succ kj1 =>
      have H := HA.out
      clear HA
      simp only [digits_Lead.j1] at H
      have HC6 := Aside0.mk H
      clear H
      go_upto_region 4 with (fail)
      go_cut [37] (fun v37 wc => ∃ (kq : Nat) (x37_5 : Bool), v37 = .bool x37_5 ∧ Aside0 (digits_Lead.j2 kq a0 x5_1 x37_5 = some (r1, r2, r3)) ∧ Aside0 (kq ≤ kj1) ∧ Drawn0 w wc)
      case first =>
        have H := HC6.out
        clear HC6
        by_cases c7 : x5_1 > 0
        · rw [if_pos c7] at H
          have c7b0 : decide (0 < x5_1) = true := decide_eq_true c7
          clear c7
          (first | rw [c7b0] | (simp only [i64_w, i32_w]; rw [c7b0]) | skip)
          by_cases c8 : x5_1 < (a0.size : Int)
          · rw [if_pos c8] at H
            have c8b0 : decide (x5_1 < (a0.size : Int)) = true := decide_eq_true c8
            clear c8
            by_cases c9 : 0 ≤ x5_1
            · rw [if_pos c9] at H
              have c9b0 : decide (0 ≤ x5_1) = true := decide_eq_true c9
              clear c9
              by_cases c11 : (bt a0 x5_1) = 46
              · rw [if_pos c11] at H
                have c11b0 : ((bt a0 x5_1) == 46) = true := beq_iff_eq.mpr c11
                have c11b1 : ((bt a0 x5_1) != 46) = false := bne_eq_false_iff_eq.mpr c11
                clear c11
                replace H := Option.bind_eq_some_iff.mp H
                obtain ⟨t163, A120, H⟩ := H
                (try dsimp only at H)
                have A12 := Aside0.mk A120
                clear A120
                have H' := Aside0.mk H
                clear H
                have p10 : 0 ≤ (x5_1 : Int) := of_decide_eq_true (by first | (with_reducible assumption) | assumption)
                have q10 : x5_1 < (a0.size : Int) := of_decide_eq_true (by first | (with_reducible assumption) | assumption)
                have hx10 := bt_at a0 x5_1
                replace p10 := eq_true p10
                replace q10 := eq_true q10
                go_wp2_with (first | (go_at_call 74; (with_reducible refine (digits_digit.calls a0 (wrap64 (x5_1 + 1)) t163 _ A12.out).mono ?_); rintro e w' ⟨rfl, ⟨nd, rfl⟩⟩; (try clear A12)))
                go_meet
                case rel => exact ⟨_, (t163), eqv, H', ⟨by have := HJ1.out; first | omega | exact Nat.le_refl _⟩, drv⟩
              · rw [if_neg c11] at H
                have c11b0 : ((bt a0 x5_1) == 46) = false := beq_eq_false_iff_ne.mpr c11
                have c11b1 : ((bt a0 x5_1) != 46) = true := bne_iff_ne.mpr c11
                have H' := Aside0.mk H
                clear H
                have p10 : 0 ≤ (x5_1 : Int) := of_decide_eq_true (by first | (with_reducible assumption) | assumption)
                have q10 : x5_1 < (a0.size : Int) := of_decide_eq_true (by first | (with_reducible assumption) | assumption)
                have hx10 := bt_at a0 x5_1
                replace p10 := eq_true p10
                replace q10 := eq_true q10
                go_wp2
                go_meet
                case rel => exact ⟨_, (false), eqv, H', ⟨by have := HJ1.out; first | omega | exact Nat.le_refl _⟩, drv⟩
            · rw [if_neg c9] at H
              exact absurd H (by simp)
          · rw [if_neg c8] at H
            have c8b0 : decide (x5_1 < (a0.size : Int)) = false := decide_eq_false c8
            clear c8
            have H' := Aside0.mk H
            clear H
            go_wp2
            go_meet
            case rel => exact ⟨_, (false), eqv, H', ⟨by have := HJ1.out; first | omega | exact Nat.le_refl _⟩, drv⟩
        · rw [if_neg c7] at H
          have c7b0 : decide (0 < x5_1) = false := decide_eq_false c7
          clear c7
          (first | rw [c7b0] | (simp only [i64_w, i32_w]; rw [c7b0]) | skip)
          have H' := Aside0.mk H
          clear H
          go_wp2
          go_meet
          case rel => exact ⟨_, (false), eqv, H', ⟨by have := HJ1.out; first | omega | exact Nat.le_refl _⟩, drv⟩
      case rest =>
        clear HC6
        try clear c1
        try clear p1
        try clear q1
        try clear hx1
        try clear c2
        try clear p2
        try clear c3
        try clear c3b0
        try clear c5
        try clear p6
        try clear c7
        try clear c7b0
        try clear c8
        try clear c8b0
        try clear c9
        try clear c9b0
        try clear p10
        try clear q10
        try clear hx10
        try clear c11
        try clear c11b0
        try clear c11b1
        try clear p10
        try clear p2
        try clear q10
        obtain ⟨kq, x37_5, rfl, HA, HJ5, ⟨mc5, rfl⟩⟩ := hcut
        cases kq with
        | zero => exact absurd HA.out (by simp [digits_Lead.j2])
        | succ kj5 =>
          have H := HA.out
          clear HA
          simp only [digits_Lead.j2] at H
          by_cases c13 : x37_5 = true
          · subst c13
            rw [if_pos rfl] at H
            have H' := Aside0.mk H
            clear H
            go_wp2
            go_loopg [6] kj5 (fun kq v6 w' => ∃ (x6_3 : Int), v6 = .int .i64 x6_3 ∧ Aside0 (digits_Lead.l1 kq a0 x5_1 x6_3 = some (r1, r2, r3)) ∧ Aside0 (kq ≤ kj5) ∧ Drawn0 w w')
            case atStart => exact ⟨(wrap64 (x5_1 + 1)), eqv, H', ⟨Nat.le_refl _⟩, drv⟩
            case round =>
              clear H'
              try clear c1
              try clear p1
              try clear q1
              try clear hx1
              try clear c2
              try clear p2
              try clear c3
              try clear c3b0
              try clear c5
              try clear p6
              try clear c7
              try clear c7b0
              try clear c8
              try clear c8b0
              try clear c9
              try clear c9b0
              try clear p10
              try clear q10
              try clear hx10
              try clear c11
              try clear c11b0
              try clear c11b1
              try clear c13
              try clear p1
              try clear p10
              try clear p2
              try clear p6
              try clear q1
              try clear q10
              obtain ⟨x6_3, rfl, HA, HK3, ⟨m3, rfl⟩⟩ := hrel
              cases gk with
              | zero => exact absurd HA.out (by simp [digits_Lead.l1])
              | succ k3 =>
                have H := HA.out
                clear HA
                simp only [digits_Lead.l1] at H
                by_cases c14 : x6_3 ≤ (wrap64 (x5_1 + 4))
                · rw [if_pos c14] at H
                  have c14b0 : decide (x6_3 ≤ (wrap64 (x5_1 + 4))) = true := decide_eq_true c14
                  clear c14
                  replace H := Option.bind_eq_some_iff.mp H
                  obtain ⟨t164, A150, H⟩ := H
                  (try dsimp only at H)
                  have A15 := Aside0.mk A150
                  clear A150
                  by_cases c16 : t164 = true
                  · subst c16
                    rw [if_pos rfl] at H
                    have H' := Aside0.mk H
                    clear H
                    go_wp2_with (first | (go_at_call 74; (with_reducible refine (digits_digit.calls a0 x6_3 true _ A15.out).mono ?_); rintro e w' ⟨rfl, ⟨nd, rfl⟩⟩; (try clear A15)))
                    go_roundg k3
                    case measure => have := HJ1.out; have := HJ5.out; have := HK3.out; omega
                    case rel => exact ⟨(wrap64 (x6_3 + 1)), eqv, H', ⟨by have := HJ1.out; have := HJ5.out; have := HK3.out; omega⟩, drv⟩
                  · replace c16 := Bool.eq_false_iff.mpr c16
                    subst c16
                    rw [if_neg (show ¬ (false = true) by decide)] at H
                    by_cases c17 : 0 ≤ x6_3
                    · rw [if_pos c17] at H
                      have c17b0 := eq_true c17
                      have c17b1 : decide (0 ≤ x6_3) = true := decide_eq_true c17
                      clear c17
                      by_cases c18 : x6_3 ≤ (a0.size : Int)
                      · rw [if_pos c18] at H
                        have c18b0 := eq_true c18
                        have c18b1 : decide (x6_3 ≤ (a0.size : Int)) = true := decide_eq_true c18
                        clear c18
                        replace H := Option.bind_eq_some_iff.mp H
                        obtain ⟨⟨t165, t166⟩, A190, H⟩ := H
                        (try dsimp only at H)
                        have A19 := Aside0.mk A190
                        clear A190
                        by_cases c20 : t166 = true
                        · subst c20
                          rw [if_pos rfl] at H
                          simp only [Option.some.injEq, Prod.mk.injEq] at H
                          obtain ⟨rfl, rfl, rfl⟩ := H
                          go_wp2_with (first | (go_at_call 74; (with_reducible refine (digits_digit.calls a0 x6_3 false _ A15.out).mono ?_); rintro e w' ⟨rfl, ⟨nd, rfl⟩⟩; (try clear A15)) | ((with_reducible refine gate_callee (f := 17) rfl ?_); refine goD (some 56) rfl Tryd.func17 (digits_Read.calls (hT_ := by repeat (first | exact hT_ | (with_reducible apply Go.Proofs.YtcfhllbobapaiaaDoorW.XTabs.Tabs.drewN) | (with_reducible apply Go.Proofs.YtcfhllbobapaiaaDoorW.XTabs.Tabs.drew) | (with_reducible apply Go.Proofs.YtcfhllbobapaiaaDoorW.XTabs.Tabs.alloc) | exact Go.Proofs.YtcfhllbobapaiaaDoorW.XTabs.Tabs.below hT_ (by repeat (first | (with_reducible first | exact HB.out | apply below_alloc | apply pw_below_drewN | apply below_drew1) | exact HB.out | refine below_set ?_ (Aside0.out (by assumption)))))) k3 (a0.extract 0 (x6_3 : Int).toNat) t165 true _ A19.out) ?_; intro nd))
                          go_ret3
                          exact fin0
                        · replace c20 := Bool.eq_false_iff.mpr c20
                          subst c20
                          rw [if_neg (show ¬ (false = true) by decide)] at H
                          simp only [Option.some.injEq, Prod.mk.injEq] at H
                          obtain ⟨rfl, rfl, rfl⟩ := H
                          go_wp2_with (first | (go_at_call 74; (with_reducible refine (digits_digit.calls a0 x6_3 false _ A15.out).mono ?_); rintro e w' ⟨rfl, ⟨nd, rfl⟩⟩; (try clear A15)) | ((with_reducible refine gate_callee (f := 17) rfl ?_); refine goD (some 56) rfl Tryd.func17 (digits_Read.calls (hT_ := by repeat (first | exact hT_ | (with_reducible apply Go.Proofs.YtcfhllbobapaiaaDoorW.XTabs.Tabs.drewN) | (with_reducible apply Go.Proofs.YtcfhllbobapaiaaDoorW.XTabs.Tabs.drew) | (with_reducible apply Go.Proofs.YtcfhllbobapaiaaDoorW.XTabs.Tabs.alloc) | exact Go.Proofs.YtcfhllbobapaiaaDoorW.XTabs.Tabs.below hT_ (by repeat (first | (with_reducible first | exact HB.out | apply below_alloc | apply pw_below_drewN | apply below_drew1) | exact HB.out | refine below_set ?_ (Aside0.out (by assumption)))))) k3 (a0.extract 0 (x6_3 : Int).toNat) t165 false _ A19.out) ?_; intro nd))
                          go_ret3
                          exact fin0
                      · rw [if_neg c18] at H
                        exact absurd H (by simp)
                    · rw [if_neg c17] at H
                      exact absurd H (by simp)
                · rw [if_neg c14] at H
                  have c14b0 : decide (x6_3 ≤ (wrap64 (x5_1 + 4))) = false := decide_eq_false c14
                  clear c14
                  by_cases c21 : 0 ≤ x6_3
                  · rw [if_pos c21] at H
                    have c21b0 := eq_true c21
                    have c21b1 : decide (0 ≤ x6_3) = true := decide_eq_true c21
                    clear c21
                    by_cases c22 : x6_3 ≤ (a0.size : Int)
                    · rw [if_pos c22] at H
                      have c22b0 := eq_true c22
                      have c22b1 : decide (x6_3 ≤ (a0.size : Int)) = true := decide_eq_true c22
                      clear c22
                      replace H := Option.bind_eq_some_iff.mp H
                      obtain ⟨⟨t167, t168⟩, A230, H⟩ := H
                      (try dsimp only at H)
                      have A23 := Aside0.mk A230
                      clear A230
                      by_cases c24 : t168 = true
                      · subst c24
                        rw [if_pos rfl] at H
                        simp only [Option.some.injEq, Prod.mk.injEq] at H
                        obtain ⟨rfl, rfl, rfl⟩ := H
                        go_wp2_with (first | ((with_reducible refine gate_callee (f := 17) rfl ?_); refine goD (some 56) rfl Tryd.func17 (digits_Read.calls (hT_ := by repeat (first | exact hT_ | (with_reducible apply Go.Proofs.YtcfhllbobapaiaaDoorW.XTabs.Tabs.drewN) | (with_reducible apply Go.Proofs.YtcfhllbobapaiaaDoorW.XTabs.Tabs.drew) | (with_reducible apply Go.Proofs.YtcfhllbobapaiaaDoorW.XTabs.Tabs.alloc) | exact Go.Proofs.YtcfhllbobapaiaaDoorW.XTabs.Tabs.below hT_ (by repeat (first | (with_reducible first | exact HB.out | apply below_alloc | apply pw_below_drewN | apply below_drew1) | exact HB.out | refine below_set ?_ (Aside0.out (by assumption)))))) k3 (a0.extract 0 (x6_3 : Int).toNat) t167 true _ A23.out) ?_; intro nd))
                        go_ret3
                        exact fin0
                      · replace c24 := Bool.eq_false_iff.mpr c24
                        subst c24
                        rw [if_neg (show ¬ (false = true) by decide)] at H
                        simp only [Option.some.injEq, Prod.mk.injEq] at H
                        obtain ⟨rfl, rfl, rfl⟩ := H
                        go_wp2_with (first | ((with_reducible refine gate_callee (f := 17) rfl ?_); refine goD (some 56) rfl Tryd.func17 (digits_Read.calls (hT_ := by repeat (first | exact hT_ | (with_reducible apply Go.Proofs.YtcfhllbobapaiaaDoorW.XTabs.Tabs.drewN) | (with_reducible apply Go.Proofs.YtcfhllbobapaiaaDoorW.XTabs.Tabs.drew) | (with_reducible apply Go.Proofs.YtcfhllbobapaiaaDoorW.XTabs.Tabs.alloc) | exact Go.Proofs.YtcfhllbobapaiaaDoorW.XTabs.Tabs.below hT_ (by repeat (first | (with_reducible first | exact HB.out | apply below_alloc | apply pw_below_drewN | apply below_drew1) | exact HB.out | refine below_set ?_ (Aside0.out (by assumption)))))) k3 (a0.extract 0 (x6_3 : Int).toNat) t167 false _ A23.out) ?_; intro nd))
                        go_ret3
                        exact fin0
                    · rw [if_neg c22] at H
                      exact absurd H (by simp)
                  · rw [if_neg c21] at H
                    exact absurd H (by simp)
          · replace c13 := Bool.eq_false_iff.mpr c13
            subst c13
            rw [if_neg (show ¬ (false = true) by decide)] at H
            by_cases c25 : 0 ≤ x5_1
            · rw [if_pos c25] at H
              have c25b0 := eq_true c25
              have c25b1 : decide (0 ≤ x5_1) = true := decide_eq_true c25
              clear c25
              by_cases c26 : x5_1 ≤ (a0.size : Int)
              · rw [if_pos c26] at H
                have c26b0 := eq_true c26
                have c26b1 : decide (x5_1 ≤ (a0.size : Int)) = true := decide_eq_true c26
                clear c26
                replace H := Option.bind_eq_some_iff.mp H
                obtain ⟨⟨t169, t170⟩, A270, H⟩ := H
                (try dsimp only at H)
                have A27 := Aside0.mk A270
                clear A270
                by_cases c28 : t170 = true
                · subst c28
                  rw [if_pos rfl] at H
                  simp only [Option.some.injEq, Prod.mk.injEq] at H
                  obtain ⟨rfl, rfl, rfl⟩ := H
                  go_wp2_with (first | ((with_reducible refine gate_callee (f := 17) rfl ?_); refine goD (some 56) rfl Tryd.func17 (digits_Read.calls (hT_ := by repeat (first | exact hT_ | (with_reducible apply Go.Proofs.YtcfhllbobapaiaaDoorW.XTabs.Tabs.drewN) | (with_reducible apply Go.Proofs.YtcfhllbobapaiaaDoorW.XTabs.Tabs.drew) | (with_reducible apply Go.Proofs.YtcfhllbobapaiaaDoorW.XTabs.Tabs.alloc) | exact Go.Proofs.YtcfhllbobapaiaaDoorW.XTabs.Tabs.below hT_ (by repeat (first | (with_reducible first | exact HB.out | apply below_alloc | apply pw_below_drewN | apply below_drew1) | exact HB.out | refine below_set ?_ (Aside0.out (by assumption)))))) kj5 (a0.extract 0 (x5_1 : Int).toNat) t169 true _ A27.out) ?_; intro nd))
                  go_ret3
                  exact fin0
                · replace c28 := Bool.eq_false_iff.mpr c28
                  subst c28
                  rw [if_neg (show ¬ (false = true) by decide)] at H
                  simp only [Option.some.injEq, Prod.mk.injEq] at H
                  obtain ⟨rfl, rfl, rfl⟩ := H
                  go_wp2_with (first | ((with_reducible refine gate_callee (f := 17) rfl ?_); refine goD (some 56) rfl Tryd.func17 (digits_Read.calls (hT_ := by repeat (first | exact hT_ | (with_reducible apply Go.Proofs.YtcfhllbobapaiaaDoorW.XTabs.Tabs.drewN) | (with_reducible apply Go.Proofs.YtcfhllbobapaiaaDoorW.XTabs.Tabs.drew) | (with_reducible apply Go.Proofs.YtcfhllbobapaiaaDoorW.XTabs.Tabs.alloc) | exact Go.Proofs.YtcfhllbobapaiaaDoorW.XTabs.Tabs.below hT_ (by repeat (first | (with_reducible first | exact HB.out | apply below_alloc | apply pw_below_drewN | apply below_drew1) | exact HB.out | refine below_set ?_ (Aside0.out (by assumption)))))) kj5 (a0.extract 0 (x5_1 : Int).toNat) t169 false _ A27.out) ?_; intro nd))
                  go_ret3
                  exact fin0
              · rw [if_neg c26] at H
                exact absurd H (by simp)
            · rw [if_neg c25] at H
              exact absurd H (by simp)
end Go.Proofs.YtcfhllbobapaiaaDoor.PA

namespace Go.Proofs.YtcfhllbobapaiaaDoor.PA
open Go.RowKit Go.Proofs.YtcfhllbobapaiaaDoorW.PrintWords Go.Proofs.YtcfhllbobapaiaaDoorW.PrintLast Go.Proofs.YtcfhllbobapaiaaDoorW.PrintMore
attribute [local go_sem] max2_int min2_int max_two min_two max_three min_three max_four min_four
set_option linter.unusedVariables false
set_option linter.unusedSimpArgs false
def oculuslaw11_alive.f (k : Nat)  : Option (Bool) := (digits_Parse.f k (⟨#[45, 49, 50, 46, 53]⟩ : ByteArray)).bind fun bt171 => ((digits_Lead.f k (⟨#[48, 48, 55, 46, 53, 48, 43, 49]⟩ : ByteArray)).bind fun bt173 => ((digits_Parse.f k (⟨#[49, 46, 53, 48]⟩ : ByteArray)).bind fun bt176 => (if bt171.2 = true then (if bt173.2.2 = true then (if bt176.2 = true then (none) else (if bt171.1 = (-125000) then (if bt173.1 = 75000 then (if bt173.2.1 = 6 then ((digits_Text.f k (-1)).bind fun t178 => (some (t178.toList == ([45, 48, 46, 48, 48, 48, 49] : List UInt8)))) else (none)) else (none)) else (none))) else (none)) else (none))))
theorem oculuslaw11_alive.mono : ∀ k, LeO (oculuslaw11_alive.f k ) (oculuslaw11_alive.f (k + 1) ) := by
  intro  k
  unfold oculuslaw11_alive.f
  repeat' first
      | (with_reducible exact digits_Lead.mono _ _)
      | (with_reducible exact digits_Parse.mono _ _)
      | (with_reducible exact digits_Text.mono _ _)
      | (with_reducible exact LeO.refl _)
      | (with_reducible exact LeO.none _)
      | (with_reducible refine LeO.ite ?_ ?_)
      | (with_reducible refine LeO.bind ?_ (fun _ => ?_))
      | exact digits_Lead.mono _ _
      | exact digits_Parse.mono _ _
      | exact digits_Text.mono _ _
      | exact LeO.none _
      | refine LeO.ite ?_ ?_
      | refine LeO.bind ?_ (fun _ => ?_)
set_option maxHeartbeats 8000000 in
set_option maxRecDepth 100000 in
theorem oculuslaw11_alive.calls (k : Nat)  (r : Bool) (w : World) (hT_ : Go.Proofs.YtcfhllbobapaiaaDoorW.XTabs.Tabs w) (h : oculuslaw11_alive.f k  = some r) :
    Calls Tryd.prog 20 #[] w fun e w' => e = .returned (.bool r) ∧ Below w.heap.size w w' := by
  have HB := Aside0.mk (Below.refl w.heap.size w)
  have H := h
  (try unfold oculuslaw11_alive.f at H)
  clear h
  replace H := Option.bind_eq_some_iff.mp H
  obtain ⟨⟨t171, t172⟩, A10, H⟩ := H
  (try dsimp only at H)
  have A1 := Aside0.mk A10
  clear A10
  replace H := Option.bind_eq_some_iff.mp H
  obtain ⟨⟨t173, t174, t175⟩, A20, H⟩ := H
  (try dsimp only at H)
  have A2 := Aside0.mk A20
  clear A20
  replace H := Option.bind_eq_some_iff.mp H
  obtain ⟨⟨t176, t177⟩, A30, H⟩ := H
  (try dsimp only at H)
  have A3 := Aside0.mk A30
  clear A30
  by_cases c4 : t172 = true
  · subst c4
    rw [if_pos rfl] at H
    by_cases c5 : t175 = true
    · subst c5
      rw [if_pos rfl] at H
      by_cases c6 : t177 = true
      · subst c6
        rw [if_pos rfl] at H
        exact absurd H (by simp)
      · replace c6 := Bool.eq_false_iff.mpr c6
        subst c6
        rw [if_neg (show ¬ (false = true) by decide)] at H
        by_cases c7 : t171 = (-125000)
        · rw [if_pos c7] at H
          have c7b0 : (t171 == (-125000)) = true := beq_iff_eq.mpr c7
          have c7b1 : (t171 != (-125000)) = false := bne_eq_false_iff_eq.mpr c7
          clear c7
          by_cases c8 : t173 = 75000
          · rw [if_pos c8] at H
            have c8b0 : (t173 == 75000) = true := beq_iff_eq.mpr c8
            have c8b1 : (t173 != 75000) = false := bne_eq_false_iff_eq.mpr c8
            clear c8
            by_cases c9 : t174 = 6
            · rw [if_pos c9] at H
              have c9b0 : (t174 == 6) = true := beq_iff_eq.mpr c9
              have c9b1 : (t174 != 6) = false := bne_eq_false_iff_eq.mpr c9
              clear c9
              replace H := Option.bind_eq_some_iff.mp H
              obtain ⟨t178, A100, H⟩ := H
              (try dsimp only at H)
              have A10 := Aside0.mk A100
              clear A100
              obtain rfl := Option.some.inj H
              go_enter Tryd.func20, Tryd.ntmps20
              go_wp2_with (first | ((with_reducible refine gate_callee (f := 16) rfl ?_); refine goB (some 9) rfl Tryd.func16 (digits_Parse.calls (hT_ := by repeat (first | exact hT_ | (with_reducible apply Go.Proofs.YtcfhllbobapaiaaDoorW.XTabs.Tabs.drewN) | (with_reducible apply Go.Proofs.YtcfhllbobapaiaaDoorW.XTabs.Tabs.drew) | (with_reducible apply Go.Proofs.YtcfhllbobapaiaaDoorW.XTabs.Tabs.alloc) | exact Go.Proofs.YtcfhllbobapaiaaDoorW.XTabs.Tabs.below hT_ (by repeat (first | (with_reducible first | exact HB.out | apply below_alloc | apply pw_below_drewN | apply below_drew1) | exact HB.out | refine below_set ?_ (Aside0.out (by assumption)))))) k (⟨#[45, 49, 50, 46, 53]⟩ : ByteArray) t171 true _ A1.out) ?_; clear HB; intro w11 HB) | ((with_reducible refine gate_callee (f := 22) rfl ?_); refine goD (some 13) rfl Tryd.func22 (digits_Lead.calls (hT_ := by repeat (first | exact hT_ | (with_reducible apply Go.Proofs.YtcfhllbobapaiaaDoorW.XTabs.Tabs.drewN) | (with_reducible apply Go.Proofs.YtcfhllbobapaiaaDoorW.XTabs.Tabs.drew) | (with_reducible apply Go.Proofs.YtcfhllbobapaiaaDoorW.XTabs.Tabs.alloc) | exact Go.Proofs.YtcfhllbobapaiaaDoorW.XTabs.Tabs.below hT_ (by repeat (first | (with_reducible first | exact HB.out | apply below_alloc | apply pw_below_drewN | apply below_drew1) | exact HB.out | refine below_set ?_ (Aside0.out (by assumption)))))) k (⟨#[48, 48, 55, 46, 53, 48, 43, 49]⟩ : ByteArray) t173 t174 true _ A2.out) ?_; intro nd) | ((with_reducible refine gate_callee (f := 16) rfl ?_); refine goB (some 18) rfl Tryd.func16 (digits_Parse.calls (hT_ := by repeat (first | exact hT_ | (with_reducible apply Go.Proofs.YtcfhllbobapaiaaDoorW.XTabs.Tabs.drewN) | (with_reducible apply Go.Proofs.YtcfhllbobapaiaaDoorW.XTabs.Tabs.drew) | (with_reducible apply Go.Proofs.YtcfhllbobapaiaaDoorW.XTabs.Tabs.alloc) | exact Go.Proofs.YtcfhllbobapaiaaDoorW.XTabs.Tabs.below hT_ (by repeat (first | (with_reducible first | exact HB.out | apply below_alloc | apply pw_below_drewN | apply below_drew1) | exact HB.out | refine below_set ?_ (Aside0.out (by assumption)))))) k (⟨#[49, 46, 53, 48]⟩ : ByteArray) t176 false _ A3.out) ?_; clear HB; intro w12 HB) | (go_at_call 15; (with_reducible refine (digits_Text.calls (hT_ := by repeat (first | exact hT_ | (with_reducible apply Go.Proofs.YtcfhllbobapaiaaDoorW.XTabs.Tabs.drewN) | (with_reducible apply Go.Proofs.YtcfhllbobapaiaaDoorW.XTabs.Tabs.drew) | (with_reducible apply Go.Proofs.YtcfhllbobapaiaaDoorW.XTabs.Tabs.alloc) | exact Go.Proofs.YtcfhllbobapaiaaDoorW.XTabs.Tabs.below hT_ (by repeat (first | (with_reducible first | exact HB.out | apply below_alloc | apply pw_below_drewN | apply below_drew1) | exact HB.out | refine below_set ?_ (Aside0.out (by assumption)))))) k (-1) t178 _ A10.out).mono ?_); refine monoK ?_; clear HB; intro w13 HB))
              go_ret
              exact finB
            · rw [if_neg c9] at H
              exact absurd H (by simp)
          · rw [if_neg c8] at H
            exact absurd H (by simp)
        · rw [if_neg c7] at H
          exact absurd H (by simp)
    · replace c5 := Bool.eq_false_iff.mpr c5
      subst c5
      rw [if_neg (show ¬ (false = true) by decide)] at H
      exact absurd H (by simp)
  · replace c4 := Bool.eq_false_iff.mpr c4
    subst c4
    rw [if_neg (show ¬ (false = true) by decide)] at H
    exact absurd H (by simp)
def oculuslaw11_DigitsTells.f (k : Nat) (a0 : Int) : Option (Bool) := (digits_Text.f k a0).bind fun t179 => ((digits_Parse.f k t179).bind fun bt180 => ((digits_Read.f k t179).bind fun bt182 => ((oculusref11_Text.f k a0).bind fun t184 => (if t179.toList = t184.toList then ((oculusref08_May.f a0).bind fun t185 => (if (bt180.2 != t185) = true then (none) else (if (bt182.2 != bt180.2) = true then (none) else (if bt180.2 = true then (if bt180.1 = a0 then (if bt182.1 = a0 then ((oculuslaw11_alive.f k).bind fun t186 => (some t186)) else (none)) else (none)) else ((oculuslaw11_alive.f k).bind fun t187 => (some t187)))))) else (none)))))
theorem oculuslaw11_DigitsTells.mono : ∀ a0 k, LeO (oculuslaw11_DigitsTells.f k a0) (oculuslaw11_DigitsTells.f (k + 1) a0) := by
  intro a0 k
  unfold oculuslaw11_DigitsTells.f
  repeat' first
      | (with_reducible exact digits_Parse.mono _ _)
      | (with_reducible exact digits_Read.mono _ _)
      | (with_reducible exact digits_Text.mono _ _)
      | (with_reducible exact oculuslaw11_alive.mono _)
      | (with_reducible exact oculusref11_Text.mono _ _)
      | (with_reducible exact LeO.refl _)
      | (with_reducible exact LeO.none _)
      | (with_reducible refine LeO.ite ?_ ?_)
      | (with_reducible refine LeO.bind ?_ (fun _ => ?_))
      | exact digits_Parse.mono _ _
      | exact digits_Read.mono _ _
      | exact digits_Text.mono _ _
      | exact oculuslaw11_alive.mono _
      | exact oculusref11_Text.mono _ _
      | exact LeO.none _
      | refine LeO.ite ?_ ?_
      | refine LeO.bind ?_ (fun _ => ?_)
set_option maxHeartbeats 8000000 in
set_option maxRecDepth 100000 in
theorem oculuslaw11_DigitsTells.calls (k : Nat) (a0 : Int) (r : Bool) (w : World) (hT_ : Go.Proofs.YtcfhllbobapaiaaDoorW.XTabs.Tabs w) (h : oculuslaw11_DigitsTells.f k a0 = some r) :
    Calls Tryd.prog 3 #[.int .i64 a0] w fun e w' => e = .returned (.bool r) ∧ Below w.heap.size w w' := by
  have HB := Aside0.mk (Below.refl w.heap.size w)
  have H := h
  (try unfold oculuslaw11_DigitsTells.f at H)
  clear h
  replace H := Option.bind_eq_some_iff.mp H
  obtain ⟨t179, A20, H⟩ := H
  (try dsimp only at H)
  have A2 := Aside0.mk A20
  clear A20
  replace H := Option.bind_eq_some_iff.mp H
  obtain ⟨⟨t180, t181⟩, A30, H⟩ := H
  (try dsimp only at H)
  have A3 := Aside0.mk A30
  clear A30
  replace H := Option.bind_eq_some_iff.mp H
  obtain ⟨⟨t182, t183⟩, A40, H⟩ := H
  (try dsimp only at H)
  have A4 := Aside0.mk A40
  clear A40
  replace H := Option.bind_eq_some_iff.mp H
  obtain ⟨t184, A50, H⟩ := H
  (try dsimp only at H)
  have A5 := Aside0.mk A50
  clear A50
  by_cases c6 : t179.toList = t184.toList
  · rw [if_pos c6] at H
    have c6b0 : (t179.toList == t184.toList) = true := beq_iff_eq.mpr c6
    have c6b1 : (t179.toList != t184.toList) = false := bne_eq_false_iff_eq.mpr c6
    clear c6
    replace H := Option.bind_eq_some_iff.mp H
    obtain ⟨t185, A70, H⟩ := H
    (try dsimp only at H)
    have A7 := Aside0.mk A70
    clear A70
    by_cases c8 : (t181 != t185) = true
    · rw [if_pos c8] at H
      exact absurd H (by simp)
    · rw [if_neg c8] at H
      have c8b0 : (t181 != t185) = false := by simpa using c8
      (try (have c8b1 : decide (t181 = t185) = true := by simpa using c8))
      (try (have c8b2 : (t181 == t185) = true := by simpa using c8))
      clear c8
      by_cases c9 : (t183 != t181) = true
      · rw [if_pos c9] at H
        exact absurd H (by simp)
      · rw [if_neg c9] at H
        have c9b0 : (t183 != t181) = false := by simpa using c9
        (try (have c9b1 : decide (t183 = t181) = true := by simpa using c9))
        (try (have c9b2 : (t183 == t181) = true := by simpa using c9))
        clear c9
        by_cases c10 : t181 = true
        · subst c10
          rw [if_pos rfl] at H
          by_cases c11 : t180 = a0
          · rw [if_pos c11] at H
            have c11b0 : (t180 == a0) = true := beq_iff_eq.mpr c11
            have c11b1 : (t180 != a0) = false := bne_eq_false_iff_eq.mpr c11
            clear c11
            by_cases c12 : t182 = a0
            · rw [if_pos c12] at H
              have c12b0 : (t182 == a0) = true := beq_iff_eq.mpr c12
              have c12b1 : (t182 != a0) = false := bne_eq_false_iff_eq.mpr c12
              clear c12
              replace H := Option.bind_eq_some_iff.mp H
              obtain ⟨t186, A130, H⟩ := H
              (try dsimp only at H)
              have A13 := Aside0.mk A130
              clear A130
              obtain rfl := Option.some.inj H
              go_enter Tryd.func3, Tryd.ntmps3
              go_wp2_with (first | ((with_reducible refine gate_callee (f := 15) rfl ?_); refine goB (some 9) rfl Tryd.func15 (digits_Text.calls (hT_ := by repeat (first | exact hT_ | (with_reducible apply Go.Proofs.YtcfhllbobapaiaaDoorW.XTabs.Tabs.drewN) | (with_reducible apply Go.Proofs.YtcfhllbobapaiaaDoorW.XTabs.Tabs.drew) | (with_reducible apply Go.Proofs.YtcfhllbobapaiaaDoorW.XTabs.Tabs.alloc) | exact Go.Proofs.YtcfhllbobapaiaaDoorW.XTabs.Tabs.below hT_ (by repeat (first | (with_reducible first | exact HB.out | apply below_alloc | apply pw_below_drewN | apply below_drew1) | exact HB.out | refine below_set ?_ (Aside0.out (by assumption)))))) k a0 t179 _ A2.out) ?_; clear HB; intro w14 HB) | ((with_reducible refine gate_callee (f := 16) rfl ?_); refine goB (some 12) rfl Tryd.func16 (digits_Parse.calls (hT_ := by repeat (first | exact hT_ | (with_reducible apply Go.Proofs.YtcfhllbobapaiaaDoorW.XTabs.Tabs.drewN) | (with_reducible apply Go.Proofs.YtcfhllbobapaiaaDoorW.XTabs.Tabs.drew) | (with_reducible apply Go.Proofs.YtcfhllbobapaiaaDoorW.XTabs.Tabs.alloc) | exact Go.Proofs.YtcfhllbobapaiaaDoorW.XTabs.Tabs.below hT_ (by repeat (first | (with_reducible first | exact HB.out | apply below_alloc | apply pw_below_drewN | apply below_drew1) | exact HB.out | refine below_set ?_ (Aside0.out (by assumption)))))) k t179 t180 true _ A3.out) ?_; clear HB; intro w15 HB) | ((with_reducible refine gate_callee (f := 17) rfl ?_); refine goD (some 17) rfl Tryd.func17 (digits_Read.calls (hT_ := by repeat (first | exact hT_ | (with_reducible apply Go.Proofs.YtcfhllbobapaiaaDoorW.XTabs.Tabs.drewN) | (with_reducible apply Go.Proofs.YtcfhllbobapaiaaDoorW.XTabs.Tabs.drew) | (with_reducible apply Go.Proofs.YtcfhllbobapaiaaDoorW.XTabs.Tabs.alloc) | exact Go.Proofs.YtcfhllbobapaiaaDoorW.XTabs.Tabs.below hT_ (by repeat (first | (with_reducible first | exact HB.out | apply below_alloc | apply pw_below_drewN | apply below_drew1) | exact HB.out | refine below_set ?_ (Aside0.out (by assumption)))))) k t179 t182 t183 _ A4.out) ?_; intro nd) | ((with_reducible refine gate_callee (f := 18) rfl ?_); refine goB (some 22) rfl Tryd.func18 (oculusref11_Text.calls k a0 t184 _ A5.out) ?_; clear HB; intro w16 HB) | (go_at_call 19; (with_reducible refine (oculusref08_May.calls a0 t185 _ A7.out).mono ?_); rintro e w' ⟨rfl, ⟨nd, rfl⟩⟩; (try clear A7)) | (go_at_call 20; (with_reducible refine (oculuslaw11_alive.calls (hT_ := by repeat (first | exact hT_ | (with_reducible apply Go.Proofs.YtcfhllbobapaiaaDoorW.XTabs.Tabs.drewN) | (with_reducible apply Go.Proofs.YtcfhllbobapaiaaDoorW.XTabs.Tabs.drew) | (with_reducible apply Go.Proofs.YtcfhllbobapaiaaDoorW.XTabs.Tabs.alloc) | exact Go.Proofs.YtcfhllbobapaiaaDoorW.XTabs.Tabs.below hT_ (by repeat (first | (with_reducible first | exact HB.out | apply below_alloc | apply pw_below_drewN | apply below_drew1) | exact HB.out | refine below_set ?_ (Aside0.out (by assumption)))))) k  t186 _ A13.out).mono ?_); refine monoK ?_; clear HB; intro w17 HB))
              go_ret
              exact finB
            · rw [if_neg c12] at H
              exact absurd H (by simp)
          · rw [if_neg c11] at H
            exact absurd H (by simp)
        · replace c10 := Bool.eq_false_iff.mpr c10
          subst c10
          rw [if_neg (show ¬ (false = true) by decide)] at H
          replace H := Option.bind_eq_some_iff.mp H
          obtain ⟨t187, A180, H⟩ := H
          (try dsimp only at H)
          have A18 := Aside0.mk A180
          clear A180
          obtain rfl := Option.some.inj H
          go_enter Tryd.func3, Tryd.ntmps3
          go_wp2_with (first | ((with_reducible refine gate_callee (f := 15) rfl ?_); refine goB (some 9) rfl Tryd.func15 (digits_Text.calls (hT_ := by repeat (first | exact hT_ | (with_reducible apply Go.Proofs.YtcfhllbobapaiaaDoorW.XTabs.Tabs.drewN) | (with_reducible apply Go.Proofs.YtcfhllbobapaiaaDoorW.XTabs.Tabs.drew) | (with_reducible apply Go.Proofs.YtcfhllbobapaiaaDoorW.XTabs.Tabs.alloc) | exact Go.Proofs.YtcfhllbobapaiaaDoorW.XTabs.Tabs.below hT_ (by repeat (first | (with_reducible first | exact HB.out | apply below_alloc | apply pw_below_drewN | apply below_drew1) | exact HB.out | refine below_set ?_ (Aside0.out (by assumption)))))) k a0 t179 _ A2.out) ?_; clear HB; intro w19 HB) | ((with_reducible refine gate_callee (f := 16) rfl ?_); refine goB (some 12) rfl Tryd.func16 (digits_Parse.calls (hT_ := by repeat (first | exact hT_ | (with_reducible apply Go.Proofs.YtcfhllbobapaiaaDoorW.XTabs.Tabs.drewN) | (with_reducible apply Go.Proofs.YtcfhllbobapaiaaDoorW.XTabs.Tabs.drew) | (with_reducible apply Go.Proofs.YtcfhllbobapaiaaDoorW.XTabs.Tabs.alloc) | exact Go.Proofs.YtcfhllbobapaiaaDoorW.XTabs.Tabs.below hT_ (by repeat (first | (with_reducible first | exact HB.out | apply below_alloc | apply pw_below_drewN | apply below_drew1) | exact HB.out | refine below_set ?_ (Aside0.out (by assumption)))))) k t179 t180 false _ A3.out) ?_; clear HB; intro w20 HB) | ((with_reducible refine gate_callee (f := 17) rfl ?_); refine goD (some 17) rfl Tryd.func17 (digits_Read.calls (hT_ := by repeat (first | exact hT_ | (with_reducible apply Go.Proofs.YtcfhllbobapaiaaDoorW.XTabs.Tabs.drewN) | (with_reducible apply Go.Proofs.YtcfhllbobapaiaaDoorW.XTabs.Tabs.drew) | (with_reducible apply Go.Proofs.YtcfhllbobapaiaaDoorW.XTabs.Tabs.alloc) | exact Go.Proofs.YtcfhllbobapaiaaDoorW.XTabs.Tabs.below hT_ (by repeat (first | (with_reducible first | exact HB.out | apply below_alloc | apply pw_below_drewN | apply below_drew1) | exact HB.out | refine below_set ?_ (Aside0.out (by assumption)))))) k t179 t182 t183 _ A4.out) ?_; intro nd) | ((with_reducible refine gate_callee (f := 18) rfl ?_); refine goB (some 22) rfl Tryd.func18 (oculusref11_Text.calls k a0 t184 _ A5.out) ?_; clear HB; intro w21 HB) | (go_at_call 19; (with_reducible refine (oculusref08_May.calls a0 t185 _ A7.out).mono ?_); rintro e w' ⟨rfl, ⟨nd, rfl⟩⟩; (try clear A7)) | (go_at_call 20; (with_reducible refine (oculuslaw11_alive.calls (hT_ := by repeat (first | exact hT_ | (with_reducible apply Go.Proofs.YtcfhllbobapaiaaDoorW.XTabs.Tabs.drewN) | (with_reducible apply Go.Proofs.YtcfhllbobapaiaaDoorW.XTabs.Tabs.drew) | (with_reducible apply Go.Proofs.YtcfhllbobapaiaaDoorW.XTabs.Tabs.alloc) | exact Go.Proofs.YtcfhllbobapaiaaDoorW.XTabs.Tabs.below hT_ (by repeat (first | (with_reducible first | exact HB.out | apply below_alloc | apply pw_below_drewN | apply below_drew1) | exact HB.out | refine below_set ?_ (Aside0.out (by assumption)))))) k  t187 _ A18.out).mono ?_); refine monoK ?_; clear HB; intro w22 HB))
          go_ret
          exact finB
  · rw [if_neg c6] at H
    exact absurd H (by simp)
def oculuslaw11_DigitsTells.Pure : Prop := ∀ (a0 : Int), (Lit.int .i64 a0).wf = true → ∃ k, oculuslaw11_DigitsTells.f k a0 = some true
theorem oculuslaw11_DigitsTells.walk (P : oculuslaw11_DigitsTells.Pure) (a0 : Int) (w : World) (hT_ : Go.Proofs.YtcfhllbobapaiaaDoorW.XTabs.Tabs w) (w0 : (Lit.int .i64 a0).wf = true) :
    Calls Tryd.prog 3 #[.int .i64 a0] w fun e w' => e = .returned (.bool true) ∧ Below w.heap.size w w' := by
  obtain ⟨k, h⟩ := P a0 w0
  refine (oculuslaw11_DigitsTells.calls (hT_ := by repeat (first | exact hT_ | (with_reducible apply Go.Proofs.YtcfhllbobapaiaaDoorW.XTabs.Tabs.drewN) | (with_reducible apply Go.Proofs.YtcfhllbobapaiaaDoorW.XTabs.Tabs.drew) | (with_reducible apply Go.Proofs.YtcfhllbobapaiaaDoorW.XTabs.Tabs.alloc) | exact Go.Proofs.YtcfhllbobapaiaaDoorW.XTabs.Tabs.below hT_ (by repeat (first | (with_reducible first | exact HB.out | apply below_alloc | apply pw_below_drewN | apply below_drew1) | exact HB.out | refine below_set ?_ (Aside0.out (by assumption)))))) k a0 true w h).mono ?_
  rintro e w' ⟨rfl, hd⟩
  exact ⟨rfl, hd⟩
def oculusref11_Digit.f (a0 : ByteArray) (a1 : Int) : Option (Bool) := if a1 < (a0.size : Int) then (if 0 ≤ a1 then (if (bt a0 a1) ≥ 48 then (some (decide ((bt a0 a1) ≤ 57))) else (some false)) else (none)) else (some false)
set_option maxHeartbeats 8000000 in
set_option maxRecDepth 100000 in
theorem oculusref11_Digit.calls (a0 : ByteArray) (a1 : Int) (r : Bool) (w : World) (h : oculusref11_Digit.f a0 a1 = some r) :
    Calls Tryd.prog 72 #[.string a0, .int .i64 a1] w fun e w' => e = .returned (.bool r) ∧ Drawn0 w w' := by
  have H := h
  (try unfold oculusref11_Digit.f at H)
  clear h
  by_cases c3 : a1 < (a0.size : Int)
  · rw [if_pos c3] at H
    have c3b0 : decide (a1 < (a0.size : Int)) = true := decide_eq_true c3
    clear c3
    by_cases c4 : 0 ≤ a1
    · rw [if_pos c4] at H
      have c4b0 : decide (0 ≤ a1) = true := decide_eq_true c4
      clear c4
      by_cases c6 : (bt a0 a1) ≥ 48
      · rw [if_pos c6] at H
        have c6b0 : decide (48 ≤ (bt a0 a1)) = true := decide_eq_true c6
        clear c6
        obtain rfl := Option.some.inj H
        have p5 : 0 ≤ (a1 : Int) := of_decide_eq_true (by first | (with_reducible assumption) | assumption)
        have q5 : a1 < (a0.size : Int) := of_decide_eq_true (by first | (with_reducible assumption) | assumption)
        have hx5 := bt_at a0 a1
        replace p5 := eq_true p5
        replace q5 := eq_true q5
        have p7 : 0 ≤ (a1 : Int) := of_decide_eq_true (by first | (with_reducible assumption) | assumption)
        have q7 : a1 < (a0.size : Int) := of_decide_eq_true (by first | (with_reducible assumption) | assumption)
        have hx7 := bt_at a0 a1
        replace p7 := eq_true p7
        replace q7 := eq_true q7
        go_enter Tryd.func72, Tryd.ntmps72
        go_wp2
        go_ret
        exact fin0
      · rw [if_neg c6] at H
        have c6b0 : decide (48 ≤ (bt a0 a1)) = false := decide_eq_false c6
        clear c6
        obtain rfl := Option.some.inj H
        have p5 : 0 ≤ (a1 : Int) := of_decide_eq_true (by first | (with_reducible assumption) | assumption)
        have q5 : a1 < (a0.size : Int) := of_decide_eq_true (by first | (with_reducible assumption) | assumption)
        have hx5 := bt_at a0 a1
        replace p5 := eq_true p5
        replace q5 := eq_true q5
        go_enter Tryd.func72, Tryd.ntmps72
        go_wp2
        go_ret
        exact fin0
    · rw [if_neg c4] at H
      exact absurd H (by simp)
  · rw [if_neg c3] at H
    have c3b0 : decide (a1 < (a0.size : Int)) = false := decide_eq_false c3
    clear c3
    obtain rfl := Option.some.inj H
    go_enter Tryd.func72, Tryd.ntmps72
    go_wp2
    go_ret
    exact fin0
end Go.Proofs.YtcfhllbobapaiaaDoor.PA

namespace Go.Proofs.YtcfhllbobapaiaaDoor.PA
open Go.RowKit Go.Proofs.YtcfhllbobapaiaaDoorW.PrintWords Go.Proofs.YtcfhllbobapaiaaDoorW.PrintLast Go.Proofs.YtcfhllbobapaiaaDoorW.PrintMore
attribute [local go_sem] max2_int min2_int max_two min_two max_three min_three max_four min_four
set_option linter.unusedVariables false
set_option linter.unusedSimpArgs false
mutual
def oculusref08_Scaled.j0 : Nat → Int → Int → Int → Bool → Option (Int × Bool)
  | 0, _, _, _, _ => none
  | k + 1, x0, x1, x2, x27 => if x27 = true then (some (0, false)) else ((oculusref08_Abs.f x2).bind fun t196 => ((oculusref08_Abs.f x0).bind fun t197 => ((oculusref08_Abs.f x1).bind fun t198 => ((oculusref08_Times.f t197 t198).bind fun bt199 => ((oculusref08_Divide.f k bt199.1 bt199.2 t196).bind fun bt201 => (if bt201.2.2 = true then (oculusref08_Scaled.j1 k x0 x1 x2 t196 (decide (bt201.1 > 9223372036854775807)) bt201.1 bt201.2.1 bt201.2.2) else (oculusref08_Scaled.j1 k x0 x1 x2 t196 true bt201.1 bt201.2.1 bt201.2.2)))))))
def oculusref08_Scaled.j1 : Nat → Int → Int → Int → Int → Bool → Int → Int → Bool → Option (Int × Bool)
  | 0, _, _, _, _, _, _, _, _ => none
  | k + 1, x0, x1, x2, x7, x45, x205000, x205001, x205002 => if x45 = true then (some (0, false)) else (if (IntKind.u64.wrap (x7 - x205001)) ≤ x205001 then (oculusref08_Scaled.j2 k x0 x1 x2 (IntKind.u64.wrap (x205000 + 1))) else (oculusref08_Scaled.j2 k x0 x1 x2 x205000))
def oculusref08_Scaled.j2 : Nat → Int → Int → Int → Int → Option (Int × Bool)
  | 0, _, _, _, _ => none
  | k + 1, x0, x1, x2, x9 => if x9 > 9223372036854775807 then (some (0, false)) else (if ((decide (x0 < 0)) != (decide (x1 < 0))) = true then (if x2 < 0 then (some (wrap64 (-(wrap64 (-(wrap64 (x9))))), true)) else (some (wrap64 (-(wrap64 (x9))), true))) else (if x2 < 0 then (some (wrap64 (-(wrap64 (x9))), true)) else (some (wrap64 (x9), true))))
end
def oculusref08_Scaled.f (k : Nat) (a0 : Int) (a1 : Int) (a2 : Int) : Option (Int × Bool) := (oculusref08_May.f a0).bind fun t193 => (if t193 = true then ((oculusref08_May.f a1).bind fun t194 => (if t194 = true then ((oculusref08_May.f a2).bind fun t195 => (if t195 = true then (oculusref08_Scaled.j0 k a0 a1 a2 (a2 == 0)) else (oculusref08_Scaled.j0 k a0 a1 a2 true))) else (oculusref08_Scaled.j0 k a0 a1 a2 true))) else (oculusref08_Scaled.j0 k a0 a1 a2 true))
theorem oculusref08_Scaled.mono_l : ∀ k, (∀ y0 y1 y2 y3, LeO (oculusref08_Scaled.j0 k y0 y1 y2 y3) (oculusref08_Scaled.j0 (k + 1) y0 y1 y2 y3)) ∧ (∀ y0 y1 y2 y3 y4 y5 y6 y7, LeO (oculusref08_Scaled.j1 k y0 y1 y2 y3 y4 y5 y6 y7) (oculusref08_Scaled.j1 (k + 1) y0 y1 y2 y3 y4 y5 y6 y7)) ∧ (∀ y0 y1 y2 y3, LeO (oculusref08_Scaled.j2 k y0 y1 y2 y3) (oculusref08_Scaled.j2 (k + 1) y0 y1 y2 y3))
  | 0 => ⟨fun _ _ _ _ r h => by simp [oculusref08_Scaled.j0] at h, fun _ _ _ _ _ _ _ _ r h => by simp [oculusref08_Scaled.j1] at h, fun _ _ _ _ r h => by simp [oculusref08_Scaled.j2] at h⟩
  | k + 1 => by
    obtain ⟨ih0, ih1, ih2⟩ := oculusref08_Scaled.mono_l k
    refine ⟨?_, ?_, ?_⟩
    · intro y0 y1 y2 y3
      unfold oculusref08_Scaled.j0
      repeat' first
      | (with_reducible exact ih0 _ _ _ _)
      | (with_reducible exact ih1 _ _ _ _ _ _ _ _)
      | (with_reducible exact ih2 _ _ _ _)
      | (with_reducible exact oculusref08_Divide.mono _ _ _ _)
      | (with_reducible exact LeO.refl _)
      | (with_reducible exact LeO.none _)
      | (with_reducible refine LeO.ite ?_ ?_)
      | (with_reducible refine LeO.bind ?_ (fun _ => ?_))
      | exact ih0 _ _ _ _
      | exact ih1 _ _ _ _ _ _ _ _
      | exact ih2 _ _ _ _
      | exact oculusref08_Divide.mono _ _ _ _
      | exact LeO.none _
      | refine LeO.ite ?_ ?_
      | refine LeO.bind ?_ (fun _ => ?_)
    · intro y0 y1 y2 y3 y4 y5 y6 y7
      unfold oculusref08_Scaled.j1
      repeat' first
      | (with_reducible exact ih0 _ _ _ _)
      | (with_reducible exact ih1 _ _ _ _ _ _ _ _)
      | (with_reducible exact ih2 _ _ _ _)
      | (with_reducible exact oculusref08_Divide.mono _ _ _ _)
      | (with_reducible exact LeO.refl _)
      | (with_reducible exact LeO.none _)
      | (with_reducible refine LeO.ite ?_ ?_)
      | (with_reducible refine LeO.bind ?_ (fun _ => ?_))
      | exact ih0 _ _ _ _
      | exact ih1 _ _ _ _ _ _ _ _
      | exact ih2 _ _ _ _
      | exact oculusref08_Divide.mono _ _ _ _
      | exact LeO.none _
      | refine LeO.ite ?_ ?_
      | refine LeO.bind ?_ (fun _ => ?_)
    · intro y0 y1 y2 y3
      unfold oculusref08_Scaled.j2
      repeat' first
      | (with_reducible exact ih0 _ _ _ _)
      | (with_reducible exact ih1 _ _ _ _ _ _ _ _)
      | (with_reducible exact ih2 _ _ _ _)
      | (with_reducible exact oculusref08_Divide.mono _ _ _ _)
      | (with_reducible exact LeO.refl _)
      | (with_reducible exact LeO.none _)
      | (with_reducible refine LeO.ite ?_ ?_)
      | (with_reducible refine LeO.bind ?_ (fun _ => ?_))
      | exact ih0 _ _ _ _
      | exact ih1 _ _ _ _ _ _ _ _
      | exact ih2 _ _ _ _
      | exact oculusref08_Divide.mono _ _ _ _
      | exact LeO.none _
      | refine LeO.ite ?_ ?_
      | refine LeO.bind ?_ (fun _ => ?_)
theorem oculusref08_Scaled.mono : ∀ a0 a1 a2 k, LeO (oculusref08_Scaled.f k a0 a1 a2) (oculusref08_Scaled.f (k + 1) a0 a1 a2) := by
  intro a0 a1 a2 k
  obtain ⟨ih0, ih1, ih2⟩ := oculusref08_Scaled.mono_l k
  unfold oculusref08_Scaled.f
  repeat' first
      | (with_reducible exact ih0 _ _ _ _)
      | (with_reducible exact ih1 _ _ _ _ _ _ _ _)
      | (with_reducible exact ih2 _ _ _ _)
      | (with_reducible exact oculusref08_Divide.mono _ _ _ _)
      | (with_reducible exact LeO.refl _)
      | (with_reducible exact LeO.none _)
      | (with_reducible refine LeO.ite ?_ ?_)
      | (with_reducible refine LeO.bind ?_ (fun _ => ?_))
      | exact ih0 _ _ _ _
      | exact ih1 _ _ _ _ _ _ _ _
      | exact ih2 _ _ _ _
      | exact oculusref08_Divide.mono _ _ _ _
      | exact LeO.none _
      | refine LeO.ite ?_ ?_
      | refine LeO.bind ?_ (fun _ => ?_)
set_option maxHeartbeats 8000000 in
set_option maxRecDepth 100000 in
theorem oculusref08_Scaled.calls (k : Nat) (a0 : Int) (a1 : Int) (a2 : Int) (r1 : Int) (r2 : Bool) (w : World) (h : oculusref08_Scaled.f k a0 a1 a2 = some (r1, r2)) :
    Calls Tryd.prog 98 #[.int .i64 a0, .int .i64 a1, .int .i64 a2] w fun e w' => e = .returned (.agg #[.int .i64 r1, .bool r2]) ∧ Below w.heap.size w w' := by
  have hu28 := Tryd.underlying28
  have hu160 := Tryd.underlying160
  have HB := Aside0.mk (Below.refl w.heap.size w)
  have H := h
  (try unfold oculusref08_Scaled.f at H)
  clear h
  have HC4 := Aside0.mk H
  clear H
  go_enter Tryd.func98, Tryd.ntmps98
  go_upto_region 1 with (first | ((with_reducible refine gate_dst (N := 6) rfl ?_); refine box_event ?hg (N := 6) ?hd (cs := #[.int .i64 0, .bool false]) (t := 28) ?hr ?_; (case hd => rfl); (case hg => rfl); (case hr => first | (go_simp; done) | (go_simp; rfl)); intro gb192 hg w5 hbox hb; have n0_ := Aside0.mk (below_step (by repeat (first | (with_reducible first | exact HB.out | apply below_alloc | apply pw_below_drewN | apply below_drew1) | exact HB.out)) hb); have n1_ := Aside0.mk (hbox); have n2_ := Aside0.mk ((by rw [hg]; exact (below_size (by repeat (first | (with_reducible first | exact HB.out | apply below_alloc | apply pw_below_drewN | apply below_drew1) | exact HB.out))) : w.heap.size ≤ gb192)); have n3_ := Aside0.mk ((by rw [hg]; exact (below_size (by repeat (first | (with_reducible first | exact HB.out | apply below_alloc | apply pw_below_drewN | apply below_drew1) | exact HB.out))) : w.heap.size ≤ gb192)); clear HB; have HB := n0_; have BK192 := n1_; have GW192 := n2_; have GE192 := n3_; clear n0_ n1_ n2_ n3_; clear hb hbox hg))
  (try simp only [Act.put, List.setIfInBounds_toArray, List.set_cons_zero, List.set_cons_succ])
  go_cut [27] (fun v27 wc => ∃ (kq : Nat) (x27_3 : Bool), v27 = .bool x27_3 ∧ Aside0 (oculusref08_Scaled.j0 kq a0 a1 a2 x27_3 = some (r1, r2)) ∧ Aside0 (kq ≤ k) ∧ Aside0 (wc.heap[gb192]? = some (.cells #[.int .i64 0, .bool false] 28 (0, 0))) ∧ Aside0 (Below w.heap.size w wc))
  case first =>
    have H := HC4.out
    clear HC4
    replace H := Option.bind_eq_some_iff.mp H
    obtain ⟨t193, A60, H⟩ := H
    (try dsimp only at H)
    have A6 := Aside0.mk A60
    clear A60
    by_cases c7 : t193 = true
    · subst c7
      rw [if_pos rfl] at H
      replace H := Option.bind_eq_some_iff.mp H
      obtain ⟨t194, A80, H⟩ := H
      (try dsimp only at H)
      have A8 := Aside0.mk A80
      clear A80
      by_cases c9 : t194 = true
      · subst c9
        rw [if_pos rfl] at H
        replace H := Option.bind_eq_some_iff.mp H
        obtain ⟨t195, A100, H⟩ := H
        (try dsimp only at H)
        have A10 := Aside0.mk A100
        clear A100
        by_cases c11 : t195 = true
        · subst c11
          rw [if_pos rfl] at H
          have H' := Aside0.mk H
          clear H
          go_wp2_with (first | ((with_reducible refine gate_callee (f := 19) rfl ?_); refine goD (some 12) rfl Tryd.func19 (oculusref08_May.calls a0 true _ A6.out) ?_; intro nd) | (go_at_call 19; (with_reducible refine (oculusref08_May.calls a1 true _ A8.out).mono ?_); rintro e w' ⟨rfl, ⟨nd, rfl⟩⟩; (try clear A8)) | (go_at_call 19; (with_reducible refine (oculusref08_May.calls a2 true _ A10.out).mono ?_); rintro e w' ⟨rfl, ⟨nd, rfl⟩⟩; (try clear A10)))
          go_meet
          case rel => exact ⟨_, ((a2 == 0)), eqv, H', lev, ⟨by (with_reducible repeat (first | refine blk_drewN ?_ _ | refine blk_drew ?_ | refine blk_alloc ?_ _)); exact BK192.out⟩, ⟨by repeat (first | (with_reducible first | exact HB.out | apply below_alloc | apply pw_below_drewN | apply below_drew1 | refine below_set ?_ GE192.out) | exact HB.out)⟩⟩
        · replace c11 := Bool.eq_false_iff.mpr c11
          subst c11
          rw [if_neg (show ¬ (false = true) by decide)] at H
          have H' := Aside0.mk H
          clear H
          go_wp2_with (first | ((with_reducible refine gate_callee (f := 19) rfl ?_); refine goD (some 12) rfl Tryd.func19 (oculusref08_May.calls a0 true _ A6.out) ?_; intro nd) | (go_at_call 19; (with_reducible refine (oculusref08_May.calls a1 true _ A8.out).mono ?_); rintro e w' ⟨rfl, ⟨nd, rfl⟩⟩; (try clear A8)) | (go_at_call 19; (with_reducible refine (oculusref08_May.calls a2 false _ A10.out).mono ?_); rintro e w' ⟨rfl, ⟨nd, rfl⟩⟩; (try clear A10)))
          go_meet
          case rel => exact ⟨_, (true), eqv, H', lev, ⟨by (with_reducible repeat (first | refine blk_drewN ?_ _ | refine blk_drew ?_ | refine blk_alloc ?_ _)); exact BK192.out⟩, ⟨by repeat (first | (with_reducible first | exact HB.out | apply below_alloc | apply pw_below_drewN | apply below_drew1 | refine below_set ?_ GE192.out) | exact HB.out)⟩⟩
      · replace c9 := Bool.eq_false_iff.mpr c9
        subst c9
        rw [if_neg (show ¬ (false = true) by decide)] at H
        have H' := Aside0.mk H
        clear H
        go_wp2_with (first | ((with_reducible refine gate_callee (f := 19) rfl ?_); refine goD (some 12) rfl Tryd.func19 (oculusref08_May.calls a0 true _ A6.out) ?_; intro nd) | (go_at_call 19; (with_reducible refine (oculusref08_May.calls a1 false _ A8.out).mono ?_); rintro e w' ⟨rfl, ⟨nd, rfl⟩⟩; (try clear A8)))
        go_meet
        case rel => exact ⟨_, (true), eqv, H', lev, ⟨by (with_reducible repeat (first | refine blk_drewN ?_ _ | refine blk_drew ?_ | refine blk_alloc ?_ _)); exact BK192.out⟩, ⟨by repeat (first | (with_reducible first | exact HB.out | apply below_alloc | apply pw_below_drewN | apply below_drew1 | refine below_set ?_ GE192.out) | exact HB.out)⟩⟩
    · replace c7 := Bool.eq_false_iff.mpr c7
      subst c7
      rw [if_neg (show ¬ (false = true) by decide)] at H
      have H' := Aside0.mk H
      clear H
      go_wp2_with (first | ((with_reducible refine gate_callee (f := 19) rfl ?_); refine goD (some 12) rfl Tryd.func19 (oculusref08_May.calls a0 false _ A6.out) ?_; intro nd))
      go_meet
      case rel => exact ⟨_, (true), eqv, H', lev, ⟨by (with_reducible repeat (first | refine blk_drewN ?_ _ | refine blk_drew ?_ | refine blk_alloc ?_ _)); exact BK192.out⟩, ⟨by repeat (first | (with_reducible first | exact HB.out | apply below_alloc | apply pw_below_drewN | apply below_drew1 | refine below_set ?_ GE192.out) | exact HB.out)⟩⟩
  case rest =>
    clear HC4
    try clear c1
    try clear p2
    try clear c7
    try clear c9
    try clear c11
    obtain ⟨kq, x27_3, rfl, HA, HJ3, BK192, HB⟩ := hcut
    cases kq with
    | zero => exact absurd HA.out (by simp [oculusref08_Scaled.j0])
    | succ kj3 =>
      have H := HA.out
      clear HA
      simp only [oculusref08_Scaled.j0] at H
      by_cases c12 : x27_3 = true
      · subst c12
        rw [if_pos rfl] at H
        simp only [Option.some.injEq, Prod.mk.injEq] at H
        obtain ⟨rfl, rfl⟩ := H
        have hcz13_0 : wc.cell? ⟨gb192, 0, none⟩ = some (.int .i64 0) := (blk_cell BK192.out 0).trans rfl
        have hcz13_1 : wc.cell? ⟨gb192, 1, none⟩ = some (.bool false) := (blk_cell BK192.out 1).trans rfl
        have hfz13_0 := blk_frozen BK192.out 0
        have hfz13_1 := blk_frozen BK192.out 1
        go_wp2
        refine bodyPost_ret (results_cell_row rfl _ _ gb192 28 #[.int .i64 0, .bool false] (0, 0) _ rfl (by (with_reducible repeat (first | refine blk_drewN ?_ _ | refine blk_drew ?_ | refine blk_alloc ?_ _)); refine blk_put (cs := #[.int .i64 0, .bool false]) ?_ 1 _ rfl; (with_reducible repeat (first | refine blk_drewN ?_ _ | refine blk_drew ?_ | refine blk_alloc ?_ _)); refine blk_put (cs := #[.int .i64 0, .bool false]) ?_ 0 _ rfl; (with_reducible repeat (first | refine blk_drewN ?_ _ | refine blk_drew ?_ | refine blk_alloc ?_ _)); exact BK192.out) Tryd.underlying28 rfl (by kernel_rfl)) rfl ?_
        exact ⟨by first | rfl | (simp [errW_none, errW_some] <;> rfl) | (simp [*, errW_none, errW_some] <;> rfl), by repeat (first | (with_reducible first | exact HB.out | apply below_alloc | apply pw_below_drewN | apply below_drew1 | refine below_set ?_ GE192.out) | exact HB.out)⟩
      · replace c12 := Bool.eq_false_iff.mpr c12
        subst c12
        rw [if_neg (show ¬ (false = true) by decide)] at H
        replace H := Option.bind_eq_some_iff.mp H
        obtain ⟨t196, A140, H⟩ := H
        (try dsimp only at H)
        have A14 := Aside0.mk A140
        clear A140
        replace H := Option.bind_eq_some_iff.mp H
        obtain ⟨t197, A150, H⟩ := H
        (try dsimp only at H)
        have A15 := Aside0.mk A150
        clear A150
        replace H := Option.bind_eq_some_iff.mp H
        obtain ⟨t198, A160, H⟩ := H
        (try dsimp only at H)
        have A16 := Aside0.mk A160
        clear A160
        replace H := Option.bind_eq_some_iff.mp H
        obtain ⟨⟨t199, t200⟩, A170, H⟩ := H
        (try dsimp only at H)
        have A17 := Aside0.mk A170
        clear A170
        replace H := Option.bind_eq_some_iff.mp H
        obtain ⟨⟨t201, t202, t203⟩, A180, H⟩ := H
        (try dsimp only at H)
        have A18 := Aside0.mk A180
        clear A180
        have HC19 := Aside0.mk H
        clear H
        go_upto_region 5 with (first | ((with_reducible refine gate_callee (f := 70) rfl ?_); refine goesL_ (some 30) rfl rfl Tryd.func70 (by kernel_rfl) rfl #[.int .i64 a2] rfl (by (try simp only [List.map_toArray, List.map_cons, List.map_nil]); first | done | rfl | (simp only [List.length_drop, List.length_take]; rfl)) ?_; (with_reducible refine (oculusref08_Abs.calls a2 t196 _ A14.out).mono ?_); rintro e w' ⟨rfl, ⟨nd, rfl⟩⟩; refine ⟨_, rfl, ?_⟩; (try (rw [drewN_self wc]; generalize hq_ : World.drewN wc _ = wc; have n0_ : Aside0 (wc.heap[gb192]? = some (.cells #[.int .i64 0, .bool false] 28 (0, 0))) := ⟨by rw [← hq_]; exact (by (with_reducible repeat (first | refine blk_drewN ?_ _ | refine blk_drew ?_ | refine blk_alloc ?_ _)); exact BK192.out)⟩; have n1_ : Aside0 (Below w.heap.size w wc) := ⟨by rw [← hq_]; exact (by repeat (first | (with_reducible first | exact HB.out | apply below_alloc | apply pw_below_drewN | apply below_drew1 | refine below_set ?_ GE192.out) | exact HB.out))⟩; clear BK192 HB hq_; have BK192 := n0_; have HB := n1_; clear n0_ n1_))) | ((with_reducible refine gate_callee (f := 70) rfl ?_); refine goesL_ (some 32) rfl rfl Tryd.func70 (by kernel_rfl) rfl #[.int .i64 a0] rfl (by (try simp only [List.map_toArray, List.map_cons, List.map_nil]); first | done | rfl | (simp only [List.length_drop, List.length_take]; rfl)) ?_; (with_reducible refine (oculusref08_Abs.calls a0 t197 _ A15.out).mono ?_); rintro e w' ⟨rfl, ⟨nd, rfl⟩⟩; refine ⟨_, rfl, ?_⟩; (try (rw [drewN_self wc]; generalize hq_ : World.drewN wc _ = wc; have n0_ : Aside0 (wc.heap[gb192]? = some (.cells #[.int .i64 0, .bool false] 28 (0, 0))) := ⟨by rw [← hq_]; exact (by (with_reducible repeat (first | refine blk_drewN ?_ _ | refine blk_drew ?_ | refine blk_alloc ?_ _)); exact BK192.out)⟩; have n1_ : Aside0 (Below w.heap.size w wc) := ⟨by rw [← hq_]; exact (by repeat (first | (with_reducible first | exact HB.out | apply below_alloc | apply pw_below_drewN | apply below_drew1 | refine below_set ?_ GE192.out) | exact HB.out))⟩; clear BK192 HB hq_; have BK192 := n0_; have HB := n1_; clear n0_ n1_))) | ((with_reducible refine gate_callee (f := 70) rfl ?_); refine goesL_ (some 34) rfl rfl Tryd.func70 (by kernel_rfl) rfl #[.int .i64 a1] rfl (by (try simp only [List.map_toArray, List.map_cons, List.map_nil]); first | done | rfl | (simp only [List.length_drop, List.length_take]; rfl)) ?_; (with_reducible refine (oculusref08_Abs.calls a1 t198 _ A16.out).mono ?_); rintro e w' ⟨rfl, ⟨nd, rfl⟩⟩; refine ⟨_, rfl, ?_⟩; (try (rw [drewN_self wc]; generalize hq_ : World.drewN wc _ = wc; have n0_ : Aside0 (wc.heap[gb192]? = some (.cells #[.int .i64 0, .bool false] 28 (0, 0))) := ⟨by rw [← hq_]; exact (by (with_reducible repeat (first | refine blk_drewN ?_ _ | refine blk_drew ?_ | refine blk_alloc ?_ _)); exact BK192.out)⟩; have n1_ : Aside0 (Below w.heap.size w wc) := ⟨by rw [← hq_]; exact (by repeat (first | (with_reducible first | exact HB.out | apply below_alloc | apply pw_below_drewN | apply below_drew1 | refine below_set ?_ GE192.out) | exact HB.out))⟩; clear BK192 HB hq_; have BK192 := n0_; have HB := n1_; clear n0_ n1_))) | ((with_reducible refine gate_callee (f := 146) rfl ?_); refine goesL_ (some 35) rfl rfl Tryd.func146 (by kernel_rfl) rfl #[.int .u64 t197, .int .u64 t198] rfl (by (try simp only [List.map_toArray, List.map_cons, List.map_nil]); first | done | rfl | (simp only [List.length_drop, List.length_take]; rfl)) ?_; (with_reducible refine (oculusref08_Times.calls t197 t198 t199 t200 _ A17.out).mono ?_); rintro e w20 ⟨rfl, hb⟩; refine ⟨_, rfl, ?_⟩; have n0_ := Aside0.mk (blk_below (g := gb192) (o := .cells #[.int .i64 0, .bool false] 28 (0, 0)) (by (with_reducible repeat (first | refine blk_drewN ?_ _ | refine blk_drew ?_ | refine blk_alloc ?_ _)); exact BK192.out) hb); have n1_ := Aside0.mk (below_step (by repeat (first | (with_reducible first | exact HB.out | apply below_alloc | apply pw_below_drewN | apply below_drew1 | refine below_set ?_ GE192.out) | exact HB.out)) hb); clear BK192; clear HB; have BK192 := n0_; have HB := n1_; clear n0_ n1_; (try clear hb); (try clear hb2); (try clear hk); (try clear hi)) | ((with_reducible refine gate_callee (f := 145) rfl ?_); refine goesL_ (some 37) rfl rfl Tryd.func145 (by kernel_rfl) rfl #[.agg #[.int .u64 t199, .int .u64 t200], .int .u64 t196] rfl (by (try simp only [List.map_toArray, List.map_cons, List.map_nil]); first | done | rfl | (simp only [List.length_drop, List.length_take]; rfl)) ?_; (with_reducible refine (oculusref08_Divide.calls kj3 t199 t200 t196 t201 t202 t203 _ A18.out).mono ?_); rintro e w21 ⟨rfl, hb⟩; refine ⟨_, rfl, ?_⟩; have n0_ := Aside0.mk (blk_below (g := gb192) (o := .cells #[.int .i64 0, .bool false] 28 (0, 0)) (by (with_reducible repeat (first | refine blk_drewN ?_ _ | refine blk_drew ?_ | refine blk_alloc ?_ _)); exact BK192.out) hb); have n1_ := Aside0.mk (below_step (by repeat (first | (with_reducible first | exact HB.out | apply below_alloc | apply pw_below_drewN | apply below_drew1 | refine below_set ?_ GE192.out) | exact HB.out)) hb); clear BK192; clear HB; have BK192 := n0_; have HB := n1_; clear n0_ n1_; (try clear hb); (try clear hb2); (try clear hk); (try clear hi)) | ((with_reducible refine gate_dst (N := 8) rfl ?_); refine box_event ?hg (N := 8) ?hd (cs := #[.int .u64 0, .int .u64 0, .bool false]) (t := 160) ?hr ?_; (case hd => rfl); (case hg => rfl); (case hr => first | (go_simp; done) | (go_simp; rfl)); intro gb204 hg w22 hbox hb; have n0_ := Aside0.mk (blk_below (g := gb192) (o := .cells #[.int .i64 0, .bool false] 28 (0, 0)) (by (with_reducible repeat (first | refine blk_drewN ?_ _ | refine blk_drew ?_ | refine blk_alloc ?_ _)); exact BK192.out) hb); have n1_ := Aside0.mk (below_step (by repeat (first | (with_reducible first | exact HB.out | apply below_alloc | apply pw_below_drewN | apply below_drew1 | refine below_set ?_ GE192.out) | exact HB.out)) hb); have n2_ := Aside0.mk (hbox); have n3_ := Aside0.mk ((by rw [hg]; exact (below_size (by repeat (first | (with_reducible first | exact HB.out | apply below_alloc | apply pw_below_drewN | apply below_drew1 | refine below_set ?_ GE192.out) | exact HB.out))) : w.heap.size ≤ gb204)); have n4_ := Aside0.mk ((by rw [hg]; exact (below_size (by repeat (first | (with_reducible first | exact HB.out | apply below_alloc | apply pw_below_drewN | apply below_drew1 | refine below_set ?_ GE192.out) | exact HB.out))) : w.heap.size ≤ gb204)); have n5_ := Aside0.mk ((by rw [hg]; exact Nat.ne_of_lt (blk_lt (g := gb192) (o := .cells #[.int .i64 0, .bool false] 28 (0, 0)) (by (with_reducible repeat (first | refine blk_drewN ?_ _ | refine blk_drew ?_ | refine blk_alloc ?_ _)); exact BK192.out)) : gb192 ≠ gb204)); have n6_ := Aside0.mk ((by rw [hg]; exact Nat.ne_of_gt (blk_lt (g := gb192) (o := .cells #[.int .i64 0, .bool false] 28 (0, 0)) (by (with_reducible repeat (first | refine blk_drewN ?_ _ | refine blk_drew ?_ | refine blk_alloc ?_ _)); exact BK192.out)) : gb204 ≠ gb192)); clear BK192; clear HB; have BK192 := n0_; have HB := n1_; have BK204 := n2_; have GW204 := n3_; have GE204 := n4_; have NB192_204 := n5_; have NB204_192 := n6_; clear n0_ n1_ n2_ n3_ n4_ n5_ n6_; clear hb hbox hg; have hnb23 := NB204_192.out; have hnc23 := NB192_204.out; have hcz24_0 : w22.cell? ⟨gb204, 0, none⟩ = some (.int .u64 0) := (blk_cell BK204.out 0).trans rfl; have hcz24_1 : w22.cell? ⟨gb204, 1, none⟩ = some (.int .u64 0) := (blk_cell BK204.out 1).trans rfl; have hcz24_2 : w22.cell? ⟨gb204, 2, none⟩ = some (.bool false) := (blk_cell BK204.out 2).trans rfl; have hfz24_0 := blk_frozen BK204.out 0; have hfz24_1 := blk_frozen BK204.out 1; have hfz24_2 := blk_frozen BK204.out 2))
        (try simp only [Act.put, List.setIfInBounds_toArray, List.set_cons_zero, List.set_cons_succ])
        go_cut [45] (fun v45 wc => ∃ (kq : Nat) (x45_18 : Bool), v45 = .bool x45_18 ∧ Aside0 (oculusref08_Scaled.j1 kq a0 a1 a2 t196 x45_18 t201 t202 t203 = some (r1, r2)) ∧ Aside0 (kq ≤ kj3) ∧ Aside0 (wc.heap[gb192]? = some (.cells #[.int .i64 0, .bool false] 28 (0, 0))) ∧ Aside0 (wc.heap[gb204]? = some (.cells #[.int .u64 t201, .int .u64 t202, .bool t203] 160 (0, 0))) ∧ Aside0 (Below w.heap.size w wc))
        case first =>
          have H := HC19.out
          clear HC19
          by_cases c25 : t203 = true
          · subst c25
            rw [if_pos rfl] at H
            have H' := Aside0.mk H
            clear H
            have hnb26 := NB204_192.out
            have hnc26 := NB192_204.out
            have hcz27_0 : w22.cell? ⟨gb204, 0, none⟩ = some (.int .u64 0) := (blk_cell BK204.out 0).trans rfl
            have hcz27_1 : w22.cell? ⟨gb204, 1, none⟩ = some (.int .u64 0) := (blk_cell BK204.out 1).trans rfl
            have hcz27_2 : w22.cell? ⟨gb204, 2, none⟩ = some (.bool false) := (blk_cell BK204.out 2).trans rfl
            have hfz27_0 := blk_frozen BK204.out 0
            have hfz27_1 := blk_frozen BK204.out 1
            have hfz27_2 := blk_frozen BK204.out 2
            go_wp2
            go_meet
            case rel => exact ⟨_, (decide (t201 > 9223372036854775807)), eqv, H', ⟨by have := HJ3.out; first | omega | exact Nat.le_refl _⟩, ⟨by (with_reducible repeat (first | refine blk_drewN ?_ _ | refine blk_drew ?_ | refine blk_alloc ?_ _)); refine blk_far ?_ NB192_204.out _; (with_reducible repeat (first | refine blk_drewN ?_ _ | refine blk_drew ?_ | refine blk_alloc ?_ _)); refine blk_far ?_ NB192_204.out _; (with_reducible repeat (first | refine blk_drewN ?_ _ | refine blk_drew ?_ | refine blk_alloc ?_ _)); refine blk_far ?_ NB192_204.out _; (with_reducible repeat (first | refine blk_drewN ?_ _ | refine blk_drew ?_ | refine blk_alloc ?_ _)); exact BK192.out⟩, ⟨by (with_reducible repeat (first | refine blk_drewN ?_ _ | refine blk_drew ?_ | refine blk_alloc ?_ _)); refine blk_put (cs := #[.int .u64 t201, .int .u64 t202, .bool false]) ?_ 2 _ rfl; (with_reducible repeat (first | refine blk_drewN ?_ _ | refine blk_drew ?_ | refine blk_alloc ?_ _)); refine blk_put (cs := #[.int .u64 t201, .int .u64 0, .bool false]) ?_ 1 _ rfl; (with_reducible repeat (first | refine blk_drewN ?_ _ | refine blk_drew ?_ | refine blk_alloc ?_ _)); refine blk_put (cs := #[.int .u64 0, .int .u64 0, .bool false]) ?_ 0 _ rfl; (with_reducible repeat (first | refine blk_drewN ?_ _ | refine blk_drew ?_ | refine blk_alloc ?_ _)); exact BK204.out⟩, ⟨by repeat (first | (with_reducible first | exact HB.out | apply below_alloc | apply pw_below_drewN | apply below_drew1 | refine below_set ?_ GE192.out | refine below_set ?_ GE204.out) | exact HB.out)⟩⟩
          · replace c25 := Bool.eq_false_iff.mpr c25
            subst c25
            rw [if_neg (show ¬ (false = true) by decide)] at H
            have H' := Aside0.mk H
            clear H
            have hnb28 := NB204_192.out
            have hnc28 := NB192_204.out
            have hcz29_0 : w22.cell? ⟨gb204, 0, none⟩ = some (.int .u64 0) := (blk_cell BK204.out 0).trans rfl
            have hcz29_1 : w22.cell? ⟨gb204, 1, none⟩ = some (.int .u64 0) := (blk_cell BK204.out 1).trans rfl
            have hcz29_2 : w22.cell? ⟨gb204, 2, none⟩ = some (.bool false) := (blk_cell BK204.out 2).trans rfl
            have hfz29_0 := blk_frozen BK204.out 0
            have hfz29_1 := blk_frozen BK204.out 1
            have hfz29_2 := blk_frozen BK204.out 2
            go_wp2
            go_meet
            case rel => exact ⟨_, (true), eqv, H', ⟨by have := HJ3.out; first | omega | exact Nat.le_refl _⟩, ⟨by (with_reducible repeat (first | refine blk_drewN ?_ _ | refine blk_drew ?_ | refine blk_alloc ?_ _)); refine blk_far ?_ NB192_204.out _; (with_reducible repeat (first | refine blk_drewN ?_ _ | refine blk_drew ?_ | refine blk_alloc ?_ _)); refine blk_far ?_ NB192_204.out _; (with_reducible repeat (first | refine blk_drewN ?_ _ | refine blk_drew ?_ | refine blk_alloc ?_ _)); refine blk_far ?_ NB192_204.out _; (with_reducible repeat (first | refine blk_drewN ?_ _ | refine blk_drew ?_ | refine blk_alloc ?_ _)); exact BK192.out⟩, ⟨by (with_reducible repeat (first | refine blk_drewN ?_ _ | refine blk_drew ?_ | refine blk_alloc ?_ _)); refine blk_put (cs := #[.int .u64 t201, .int .u64 t202, .bool false]) ?_ 2 _ rfl; (with_reducible repeat (first | refine blk_drewN ?_ _ | refine blk_drew ?_ | refine blk_alloc ?_ _)); refine blk_put (cs := #[.int .u64 t201, .int .u64 0, .bool false]) ?_ 1 _ rfl; (with_reducible repeat (first | refine blk_drewN ?_ _ | refine blk_drew ?_ | refine blk_alloc ?_ _)); refine blk_put (cs := #[.int .u64 0, .int .u64 0, .bool false]) ?_ 0 _ rfl; (with_reducible repeat (first | refine blk_drewN ?_ _ | refine blk_drew ?_ | refine blk_alloc ?_ _)); exact BK204.out⟩, ⟨by repeat (first | (with_reducible first | exact HB.out | apply below_alloc | apply pw_below_drewN | apply below_drew1 | refine below_set ?_ GE192.out | refine below_set ?_ GE204.out) | exact HB.out)⟩⟩
        case rest =>
          clear HC19
          try clear c1
          try clear c2
          try clear p2
          try clear c7
          try clear c9
          try clear c11
          try clear c12
          try clear c14
          try clear c19
          try clear c23
          try clear c25
          try clear c26
          try clear c28
          try clear hcz13_0
          try clear hcz13_1
          try clear hcz24_0
          try clear hcz24_1
          try clear hcz24_2
          try clear hcz27_0
          try clear hcz27_1
          try clear hcz27_2
          try clear hcz29_0
          try clear hcz29_1
          try clear hcz29_2
          try clear hfz13_0
          try clear hfz13_1
          try clear hfz24_0
          try clear hfz24_1
          try clear hfz24_2
          try clear hfz27_0
          try clear hfz27_1
          try clear hfz27_2
          try clear hfz29_0
          try clear hfz29_1
          try clear hfz29_2
          try clear p2
          obtain ⟨kq, x45_18, rfl, HA, HJ18, BK192, BK204, HB⟩ := hcut
          cases kq with
          | zero => exact absurd HA.out (by simp [oculusref08_Scaled.j1])
          | succ kj18 =>
            have H := HA.out
            clear HA
            simp only [oculusref08_Scaled.j1] at H
            by_cases c30 : x45_18 = true
            · subst c30
              rw [if_pos rfl] at H
              simp only [Option.some.injEq, Prod.mk.injEq] at H
              obtain ⟨rfl, rfl⟩ := H
              have hnb31 := NB192_204.out
              have hnc31 := NB204_192.out
              have hcz32_0 : wc.cell? ⟨gb192, 0, none⟩ = some (.int .i64 0) := (blk_cell BK192.out 0).trans rfl
              have hcz32_1 : wc.cell? ⟨gb192, 1, none⟩ = some (.bool false) := (blk_cell BK192.out 1).trans rfl
              have hfz32_0 := blk_frozen BK192.out 0
              have hfz32_1 := blk_frozen BK192.out 1
              go_wp2
              refine bodyPost_ret (results_cell_row rfl _ _ gb192 28 #[.int .i64 0, .bool false] (0, 0) _ rfl (by (with_reducible repeat (first | refine blk_drewN ?_ _ | refine blk_drew ?_ | refine blk_alloc ?_ _)); refine blk_put (cs := #[.int .i64 0, .bool false]) ?_ 1 _ rfl; (with_reducible repeat (first | refine blk_drewN ?_ _ | refine blk_drew ?_ | refine blk_alloc ?_ _)); refine blk_put (cs := #[.int .i64 0, .bool false]) ?_ 0 _ rfl; (with_reducible repeat (first | refine blk_drewN ?_ _ | refine blk_drew ?_ | refine blk_alloc ?_ _)); exact BK192.out) Tryd.underlying28 rfl (by kernel_rfl)) rfl ?_
              exact ⟨by first | rfl | (simp [errW_none, errW_some] <;> rfl) | (simp [*, errW_none, errW_some] <;> rfl), by repeat (first | (with_reducible first | exact HB.out | apply below_alloc | apply pw_below_drewN | apply below_drew1 | refine below_set ?_ GE192.out | refine below_set ?_ GE204.out) | exact HB.out)⟩
            · replace c30 := Bool.eq_false_iff.mpr c30
              subst c30
              rw [if_neg (show ¬ (false = true) by decide)] at H
              have HC33 := Aside0.mk H
              clear H
              have hnb34 := NB204_192.out
              have hnc34 := NB192_204.out
              have hcz35_0 : wc.cell? ⟨gb204, 0, none⟩ = some (.int .u64 t201) := (blk_cell BK204.out 0).trans rfl
              have hcz35_1 : wc.cell? ⟨gb204, 1, none⟩ = some (.int .u64 t202) := (blk_cell BK204.out 1).trans rfl
              have hcz35_2 : wc.cell? ⟨gb204, 2, none⟩ = some (.bool t203) := (blk_cell BK204.out 2).trans rfl
              have hfz35_0 := blk_frozen BK204.out 0
              have hfz35_1 := blk_frozen BK204.out 1
              have hfz35_2 := blk_frozen BK204.out 2
              go_upto_if 55 with (fail)
              go_cut [9] (fun v9 wc => ∃ (kq : Nat) (x9_32 : Int), v9 = .int .u64 x9_32 ∧ Aside0 (oculusref08_Scaled.j2 kq a0 a1 a2 x9_32 = some (r1, r2)) ∧ Aside0 (kq ≤ kj18) ∧ Aside0 (wc.heap[gb192]? = some (.cells #[.int .i64 0, .bool false] 28 (0, 0))) ∧ Aside0 (wc.heap[gb204]? = some (.cells #[.int .u64 t201, .int .u64 t202, .bool t203] 160 (0, 0))) ∧ Aside0 (Below w.heap.size w wc))
              case first =>
                have H := HC33.out
                clear HC33
                by_cases c36 : (IntKind.u64.wrap (t196 - t202)) ≤ t202
                · rw [if_pos c36] at H
                  have c36b0 : decide ((IntKind.u64.wrap (t196 - t202)) ≤ t202) = true := decide_eq_true c36
                  clear c36
                  (first | rw [c36b0] | (simp only [i64_w, i32_w]; rw [c36b0]) | skip)
                  have H' := Aside0.mk H
                  clear H
                  go_wp2
                  go_meet
                  case rel => exact ⟨_, (IntKind.u64.wrap (t201 + 1)), eqv, H', ⟨by have := HJ3.out; have := HJ18.out; first | omega | exact Nat.le_refl _⟩, ⟨by (with_reducible repeat (first | refine blk_drewN ?_ _ | refine blk_drew ?_ | refine blk_alloc ?_ _)); exact BK192.out⟩, ⟨by (with_reducible repeat (first | refine blk_drewN ?_ _ | refine blk_drew ?_ | refine blk_alloc ?_ _)); exact BK204.out⟩, ⟨by repeat (first | (with_reducible first | exact HB.out | apply below_alloc | apply pw_below_drewN | apply below_drew1 | refine below_set ?_ GE192.out | refine below_set ?_ GE204.out) | exact HB.out)⟩⟩
                · rw [if_neg c36] at H
                  have c36b0 : decide ((IntKind.u64.wrap (t196 - t202)) ≤ t202) = false := decide_eq_false c36
                  clear c36
                  (first | rw [c36b0] | (simp only [i64_w, i32_w]; rw [c36b0]) | skip)
                  have H' := Aside0.mk H
                  clear H
                  go_wp2
                  go_meet
                  case rel => exact ⟨_, (t201), eqv, H', ⟨by have := HJ3.out; have := HJ18.out; first | omega | exact Nat.le_refl _⟩, ⟨by (with_reducible repeat (first | refine blk_drewN ?_ _ | refine blk_drew ?_ | refine blk_alloc ?_ _)); exact BK192.out⟩, ⟨by (with_reducible repeat (first | refine blk_drewN ?_ _ | refine blk_drew ?_ | refine blk_alloc ?_ _)); exact BK204.out⟩, ⟨by repeat (first | (with_reducible first | exact HB.out | apply below_alloc | apply pw_below_drewN | apply below_drew1 | refine below_set ?_ GE192.out | refine below_set ?_ GE204.out) | exact HB.out)⟩⟩
              case rest =>
                clear HC33
                try clear c1
                try clear c2
                try clear p2
                try clear c3
                try clear c7
                try clear c9
                try clear c11
                try clear c12
                try clear c14
                try clear c19
                try clear c23
                try clear c25
                try clear c26
                try clear c28
                try clear c30
                try clear c31
                try clear c34
                try clear c36
                try clear c36b0
                try clear hcz13_0
                try clear hcz13_1
                try clear hcz24_0
                try clear hcz24_1
                try clear hcz24_2
                try clear hcz27_0
                try clear hcz27_1
                try clear hcz27_2
                try clear hcz29_0
                try clear hcz29_1
                try clear hcz29_2
                try clear hcz32_0
                try clear hcz32_1
                try clear hcz35_0
                try clear hcz35_1
                try clear hcz35_2
                try clear hfz13_0
                try clear hfz13_1
                try clear hfz24_0
                try clear hfz24_1
                try clear hfz24_2
                try clear hfz27_0
                try clear hfz27_1
                try clear hfz27_2
                try clear hfz29_0
                try clear hfz29_1
                try clear hfz29_2
                try clear hfz32_0
                try clear hfz32_1
                try clear hfz35_0
                try clear hfz35_1
                try clear hfz35_2
                try clear p2
                obtain ⟨kq, x9_32, rfl, HA, HJ32, BK192, BK204, HB⟩ := hcut
                cases kq with
                | zero => exact absurd HA.out (by simp [oculusref08_Scaled.j2])
                | succ kj32 =>
                  have H := HA.out
                  clear HA
                  simp only [oculusref08_Scaled.j2] at H
                  by_cases c37 : x9_32 > 9223372036854775807
                  · rw [if_pos c37] at H
                    have c37b0 : decide (9223372036854775807 < x9_32) = true := decide_eq_true c37
                    clear c37
                    simp only [Option.some.injEq, Prod.mk.injEq] at H
                    obtain ⟨rfl, rfl⟩ := H
                    have hnb38 := NB192_204.out
                    have hnc38 := NB204_192.out
                    have hcz39_0 : wc.cell? ⟨gb192, 0, none⟩ = some (.int .i64 0) := (blk_cell BK192.out 0).trans rfl
                    have hcz39_1 : wc.cell? ⟨gb192, 1, none⟩ = some (.bool false) := (blk_cell BK192.out 1).trans rfl
                    have hfz39_0 := blk_frozen BK192.out 0
                    have hfz39_1 := blk_frozen BK192.out 1
                    go_wp2
                    refine bodyPost_ret (results_cell_row rfl _ _ gb192 28 #[.int .i64 0, .bool false] (0, 0) _ rfl (by (with_reducible repeat (first | refine blk_drewN ?_ _ | refine blk_drew ?_ | refine blk_alloc ?_ _)); refine blk_put (cs := #[.int .i64 0, .bool false]) ?_ 1 _ rfl; (with_reducible repeat (first | refine blk_drewN ?_ _ | refine blk_drew ?_ | refine blk_alloc ?_ _)); refine blk_put (cs := #[.int .i64 0, .bool false]) ?_ 0 _ rfl; (with_reducible repeat (first | refine blk_drewN ?_ _ | refine blk_drew ?_ | refine blk_alloc ?_ _)); exact BK192.out) Tryd.underlying28 rfl (by kernel_rfl)) rfl ?_
                    exact ⟨by first | rfl | (simp [errW_none, errW_some] <;> rfl) | (simp [*, errW_none, errW_some] <;> rfl), by repeat (first | (with_reducible first | exact HB.out | apply below_alloc | apply pw_below_drewN | apply below_drew1 | refine below_set ?_ GE192.out | refine below_set ?_ GE204.out) | exact HB.out)⟩
                  · rw [if_neg c37] at H
                    have c37b0 : decide (9223372036854775807 < x9_32) = false := decide_eq_false c37
                    clear c37
                    by_cases c40 : ((decide (a0 < 0)) != (decide (a1 < 0))) = true
                    · rw [if_pos c40] at H
                      have c40b0 : ((decide (a0 < 0)) != (decide (a1 < 0))) = true := c40
                      (try (have c40b1 : decide ((decide (a0 < 0)) = (decide (a1 < 0))) = false := by simpa using c40))
                      (try (have c40b2 : ((decide (a0 < 0)) == (decide (a1 < 0))) = false := by simpa using c40))
                      (try (have c40b3 : ¬ ((decide (a0 < 0)) = (decide (a1 < 0))) := by simpa using c40))
                      clear c40
                      by_cases c41 : a2 < 0
                      · rw [if_pos c41] at H
                        have c41b0 : decide (a2 < 0) = true := decide_eq_true c41
                        clear c41
                        simp only [Option.some.injEq, Prod.mk.injEq] at H
                        obtain ⟨rfl, rfl⟩ := H
                        have hnb42 := NB192_204.out
                        have hnc42 := NB204_192.out
                        have hcz43_0 : wc.cell? ⟨gb192, 0, none⟩ = some (.int .i64 0) := (blk_cell BK192.out 0).trans rfl
                        have hcz43_1 : wc.cell? ⟨gb192, 1, none⟩ = some (.bool false) := (blk_cell BK192.out 1).trans rfl
                        have hfz43_0 := blk_frozen BK192.out 0
                        have hfz43_1 := blk_frozen BK192.out 1
                        go_wp2
                        refine bodyPost_ret (results_cell_row rfl _ _ gb192 28 #[.int .i64 (wrap64 (-(wrap64 (-(wrap64 (x9_32)))))), .bool true] (0, 0) _ rfl (by (with_reducible repeat (first | refine blk_drewN ?_ _ | refine blk_drew ?_ | refine blk_alloc ?_ _)); refine blk_put (cs := #[.int .i64 (wrap64 (-(wrap64 (-(wrap64 (x9_32)))))), .bool false]) ?_ 1 _ rfl; (with_reducible repeat (first | refine blk_drewN ?_ _ | refine blk_drew ?_ | refine blk_alloc ?_ _)); refine blk_put (cs := #[.int .i64 0, .bool false]) ?_ 0 _ rfl; (with_reducible repeat (first | refine blk_drewN ?_ _ | refine blk_drew ?_ | refine blk_alloc ?_ _)); exact BK192.out) Tryd.underlying28 rfl (by kernel_rfl)) rfl ?_
                        exact ⟨by first | rfl | (simp [errW_none, errW_some] <;> rfl) | (simp [*, errW_none, errW_some] <;> rfl), by repeat (first | (with_reducible first | exact HB.out | apply below_alloc | apply pw_below_drewN | apply below_drew1 | refine below_set ?_ GE192.out | refine below_set ?_ GE204.out) | exact HB.out)⟩
                      · rw [if_neg c41] at H
                        have c41b0 : decide (a2 < 0) = false := decide_eq_false c41
                        clear c41
                        simp only [Option.some.injEq, Prod.mk.injEq] at H
                        obtain ⟨rfl, rfl⟩ := H
                        have hnb44 := NB192_204.out
                        have hnc44 := NB204_192.out
                        have hcz45_0 : wc.cell? ⟨gb192, 0, none⟩ = some (.int .i64 0) := (blk_cell BK192.out 0).trans rfl
                        have hcz45_1 : wc.cell? ⟨gb192, 1, none⟩ = some (.bool false) := (blk_cell BK192.out 1).trans rfl
                        have hfz45_0 := blk_frozen BK192.out 0
                        have hfz45_1 := blk_frozen BK192.out 1
                        go_wp2
                        refine bodyPost_ret (results_cell_row rfl _ _ gb192 28 #[.int .i64 (wrap64 (-(wrap64 (x9_32)))), .bool true] (0, 0) _ rfl (by (with_reducible repeat (first | refine blk_drewN ?_ _ | refine blk_drew ?_ | refine blk_alloc ?_ _)); refine blk_put (cs := #[.int .i64 (wrap64 (-(wrap64 (x9_32)))), .bool false]) ?_ 1 _ rfl; (with_reducible repeat (first | refine blk_drewN ?_ _ | refine blk_drew ?_ | refine blk_alloc ?_ _)); refine blk_put (cs := #[.int .i64 0, .bool false]) ?_ 0 _ rfl; (with_reducible repeat (first | refine blk_drewN ?_ _ | refine blk_drew ?_ | refine blk_alloc ?_ _)); exact BK192.out) Tryd.underlying28 rfl (by kernel_rfl)) rfl ?_
                        exact ⟨by first | rfl | (simp [errW_none, errW_some] <;> rfl) | (simp [*, errW_none, errW_some] <;> rfl), by repeat (first | (with_reducible first | exact HB.out | apply below_alloc | apply pw_below_drewN | apply below_drew1 | refine below_set ?_ GE192.out | refine below_set ?_ GE204.out) | exact HB.out)⟩
                    · rw [if_neg c40] at H
                      have c40b0 : ((decide (a0 < 0)) != (decide (a1 < 0))) = false := by simpa using c40
                      (try (have c40b1 : decide ((decide (a0 < 0)) = (decide (a1 < 0))) = true := by simpa using c40))
                      (try (have c40b2 : ((decide (a0 < 0)) == (decide (a1 < 0))) = true := by simpa using c40))
                      clear c40
                      by_cases c46 : a2 < 0
                      · rw [if_pos c46] at H
                        have c46b0 : decide (a2 < 0) = true := decide_eq_true c46
                        clear c46
                        simp only [Option.some.injEq, Prod.mk.injEq] at H
                        obtain ⟨rfl, rfl⟩ := H
                        have hnb47 := NB192_204.out
                        have hnc47 := NB204_192.out
                        have hcz48_0 : wc.cell? ⟨gb192, 0, none⟩ = some (.int .i64 0) := (blk_cell BK192.out 0).trans rfl
                        have hcz48_1 : wc.cell? ⟨gb192, 1, none⟩ = some (.bool false) := (blk_cell BK192.out 1).trans rfl
                        have hfz48_0 := blk_frozen BK192.out 0
                        have hfz48_1 := blk_frozen BK192.out 1
                        go_wp2
                        refine bodyPost_ret (results_cell_row rfl _ _ gb192 28 #[.int .i64 (wrap64 (-(wrap64 (x9_32)))), .bool true] (0, 0) _ rfl (by (with_reducible repeat (first | refine blk_drewN ?_ _ | refine blk_drew ?_ | refine blk_alloc ?_ _)); refine blk_put (cs := #[.int .i64 (wrap64 (-(wrap64 (x9_32)))), .bool false]) ?_ 1 _ rfl; (with_reducible repeat (first | refine blk_drewN ?_ _ | refine blk_drew ?_ | refine blk_alloc ?_ _)); refine blk_put (cs := #[.int .i64 0, .bool false]) ?_ 0 _ rfl; (with_reducible repeat (first | refine blk_drewN ?_ _ | refine blk_drew ?_ | refine blk_alloc ?_ _)); exact BK192.out) Tryd.underlying28 rfl (by kernel_rfl)) rfl ?_
                        exact ⟨by first | rfl | (simp [errW_none, errW_some] <;> rfl) | (simp [*, errW_none, errW_some] <;> rfl), by repeat (first | (with_reducible first | exact HB.out | apply below_alloc | apply pw_below_drewN | apply below_drew1 | refine below_set ?_ GE192.out | refine below_set ?_ GE204.out) | exact HB.out)⟩
                      · rw [if_neg c46] at H
                        have c46b0 : decide (a2 < 0) = false := decide_eq_false c46
                        clear c46
                        simp only [Option.some.injEq, Prod.mk.injEq] at H
                        obtain ⟨rfl, rfl⟩ := H
                        have hnb49 := NB192_204.out
                        have hnc49 := NB204_192.out
                        have hcz50_0 : wc.cell? ⟨gb192, 0, none⟩ = some (.int .i64 0) := (blk_cell BK192.out 0).trans rfl
                        have hcz50_1 : wc.cell? ⟨gb192, 1, none⟩ = some (.bool false) := (blk_cell BK192.out 1).trans rfl
                        have hfz50_0 := blk_frozen BK192.out 0
                        have hfz50_1 := blk_frozen BK192.out 1
                        go_wp2
                        refine bodyPost_ret (results_cell_row rfl _ _ gb192 28 #[.int .i64 (wrap64 (x9_32)), .bool true] (0, 0) _ rfl (by (with_reducible repeat (first | refine blk_drewN ?_ _ | refine blk_drew ?_ | refine blk_alloc ?_ _)); refine blk_put (cs := #[.int .i64 (wrap64 (x9_32)), .bool false]) ?_ 1 _ rfl; (with_reducible repeat (first | refine blk_drewN ?_ _ | refine blk_drew ?_ | refine blk_alloc ?_ _)); refine blk_put (cs := #[.int .i64 0, .bool false]) ?_ 0 _ rfl; (with_reducible repeat (first | refine blk_drewN ?_ _ | refine blk_drew ?_ | refine blk_alloc ?_ _)); exact BK192.out) Tryd.underlying28 rfl (by kernel_rfl)) rfl ?_
                        exact ⟨by first | rfl | (simp [errW_none, errW_some] <;> rfl) | (simp [*, errW_none, errW_some] <;> rfl), by repeat (first | (with_reducible first | exact HB.out | apply below_alloc | apply pw_below_drewN | apply below_drew1 | refine below_set ?_ GE192.out | refine below_set ?_ GE204.out) | exact HB.out)⟩
end Go.Proofs.YtcfhllbobapaiaaDoor.PA
