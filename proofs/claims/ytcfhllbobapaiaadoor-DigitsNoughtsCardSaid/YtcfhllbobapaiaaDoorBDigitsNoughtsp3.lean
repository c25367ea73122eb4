/- Texts that DigitsNoughts rests on. -/
import Derived.Test.YtcfhllbobapaiaaDoorBDigitsNoughtsp0
import Derived.Test.YtcfhllbobapaiaaDoorBDigitsNoughtsp2

namespace Go.Proofs.YtcfhllbobapaiaaDoor.PA
open Go.RowKit Go.Proofs.YtcfhllbobapaiaaDoorW.PrintWords Go.Proofs.YtcfhllbobapaiaaDoorW.PrintLast Go.Proofs.YtcfhllbobapaiaaDoorW.PrintMore
attribute [local go_sem] max2_int min2_int max_two min_two max_three min_three max_four min_four
set_option linter.unusedVariables false
set_option linter.unusedSimpArgs false
def dec_May.f (a0 : Int) : Option (Bool) := some (a0 != (-9223372036854775808))
set_option maxHeartbeats 8000000 in
set_option maxRecDepth 100000 in
theorem dec_May.calls (a0 : Int) (r : Bool) (w : World) (h : dec_May.f a0 = some r) :
    Calls Tryd.prog 62 #[.int .i64 a0] w fun e w' => e = .returned (.bool r) ∧ Drawn0 w w' := by
  have H := h
  (try unfold dec_May.f at H)
  clear h
  obtain rfl := Option.some.inj H
  go_enter Tryd.func62, Tryd.ntmps62
  go_wp2
  go_ret
  exact fin0
def strconv_FormatInt.f (a0 : Int) (a1 : Int) : Option (ByteArray) := Go.Proofs.YtcfhllbobapaiaaDoorW.XTabs.formatInt a0 a1
theorem strconv_FormatInt.calls (a0 : Int) (a1 : Int) (r : ByteArray) (w : World) (hT_ : Go.Proofs.YtcfhllbobapaiaaDoorW.XTabs.Tabs w) (h : strconv_FormatInt.f a0 a1 = some r) :
    Calls Tryd.prog 63 #[.int .i64 a0, .int .i64 a1] w fun e w' => e = .returned (.string r) ∧ Below w.heap.size w w' := Go.Proofs.YtcfhllbobapaiaaDoorW.XTabs.formatInt_calls a0 a1 r w hT_ h
def dec_Units.f (a0 : Int) : Option (Int) := (dec_May.f a0).bind fun t101 => (if t101 = true then (some (wrap64 (Int.tdiv a0 10000))) else (some 0))
set_option maxHeartbeats 8000000 in
set_option maxRecDepth 100000 in
theorem dec_Units.calls (a0 : Int) (r : Int) (w : World) (h : dec_Units.f a0 = some r) :
    Calls Tryd.prog 64 #[.int .i64 a0] w fun e w' => e = .returned (.int .i64 r) ∧ Drawn0 w w' := by
  have H := h
  (try unfold dec_Units.f at H)
  clear h
  replace H := Option.bind_eq_some_iff.mp H
  obtain ⟨t101, A20, H⟩ := H
  (try dsimp only at H)
  have A2 := Aside0.mk A20
  clear A20
  by_cases c3 : t101 = true
  · subst c3
    rw [if_pos rfl] at H
    obtain rfl := Option.some.inj H
    go_enter Tryd.func64, Tryd.ntmps64
    go_wp2_with (first | ((with_reducible refine gate_callee (f := 62) rfl ?_); refine goD (some 4) rfl Tryd.func62 (dec_May.calls a0 true _ A2.out) ?_; intro nd))
    go_ret
    exact fin0
  · replace c3 := Bool.eq_false_iff.mpr c3
    subst c3
    rw [if_neg (show ¬ (false = true) by decide)] at H
    obtain rfl := Option.some.inj H
    go_enter Tryd.func64, Tryd.ntmps64
    go_wp2_with (first | ((with_reducible refine gate_callee (f := 62) rfl ?_); refine goD (some 4) rfl Tryd.func62 (dec_May.calls a0 false _ A2.out) ?_; intro nd))
    go_ret
    exact fin0
def strings_TrimRight.f (a0 : ByteArray) (a1 : ByteArray) : Option (ByteArray) := Go.Proofs.YtcfhllbobapaiaaDoorW.XTabs.trimRight a0 a1
theorem strings_TrimRight.calls (a0 : ByteArray) (a1 : ByteArray) (r : ByteArray) (w : World) (h : strings_TrimRight.f a0 a1 = some r) :
    Calls Tryd.prog 65 #[.string a0, .string a1] w fun e w' => e = .returned (.string r) ∧ Drawn0 w w' := Go.Proofs.YtcfhllbobapaiaaDoorW.XTabs.trimRight_calls a0 a1 r w h
mutual
def digits_Text.j0 : Nat → Int → ByteArray → Bool → Option (ByteArray)
  | 0, _, _, _ => none
  | k + 1, x0, x3, x17 => if x17 = true then (if 1 + x3.size ≤ 9223372036854775807 then (digits_Text.j1 k x0 ((⟨#[45]⟩ : ByteArray) ++ x3)) else (none)) else (digits_Text.j1 k x0 x3)
def digits_Text.j1 : Nat → Int → ByteArray → Option (ByteArray)
  | 0, _, _ => none
  | k + 1, x0, x3 => if (Int.tmod x0 10000) = 0 then (some x3) else ((strconv_FormatInt.f (wrap64 (10000 + (mx (Int.tmod x0 10000) (wrap64 (-(Int.tmod x0 10000)))))) 10).bind fun t105 => (if 1 ≤ (t105.size : Int) then (if x3.size + 1 ≤ 9223372036854775807 then ((strings_TrimRight.f (t105.extract 1 t105.size) (⟨#[48]⟩ : ByteArray)).bind fun t106 => (if (x3 ++ (⟨#[46]⟩ : ByteArray)).size + t106.size ≤ 9223372036854775807 then (some ((x3 ++ (⟨#[46]⟩ : ByteArray)) ++ t106)) else (none))) else (none)) else (none)))
end
def digits_Text.f (k : Nat) (a0 : Int) : Option (ByteArray) := (dec_May.f a0).bind fun t102 => (if t102 = true then ((dec_Units.f a0).bind fun t103 => ((strconv_FormatInt.f t103 10).bind fun t104 => (if a0 < 0 then (digits_Text.j0 k a0 t104 (decide (a0 > (-10000)))) else (digits_Text.j0 k a0 t104 false)))) else (some (⟨#[]⟩ : ByteArray)))
theorem digits_Text.mono_l : ∀ k, (∀ y0 y1 y2, LeO (digits_Text.j0 k y0 y1 y2) (digits_Text.j0 (k + 1) y0 y1 y2)) ∧ (∀ y0 y1, LeO (digits_Text.j1 k y0 y1) (digits_Text.j1 (k + 1) y0 y1))
  | 0 => ⟨fun _ _ _ r h => by simp [digits_Text.j0] at h, fun _ _ r h => by simp [digits_Text.j1] at h⟩
  | k + 1 => by
    obtain ⟨ih0, ih1⟩ := digits_Text.mono_l k
    refine ⟨?_, ?_⟩
    · intro y0 y1 y2
      unfold digits_Text.j0
      repeat' first
      | (with_reducible exact ih0 _ _ _)
      | (with_reducible exact ih1 _ _)
      | (with_reducible exact LeO.refl _)
      | (with_reducible exact LeO.none _)
      | (with_reducible refine LeO.ite ?_ ?_)
      | (with_reducible refine LeO.bind ?_ (fun _ => ?_))
      | exact ih0 _ _ _
      | exact ih1 _ _
      | exact LeO.none _
      | refine LeO.ite ?_ ?_
      | refine LeO.bind ?_ (fun _ => ?_)
    · intro y0 y1
      unfold digits_Text.j1
      repeat' first
      | (with_reducible exact ih0 _ _ _)
      | (with_reducible exact ih1 _ _)
      | (with_reducible exact LeO.refl _)
      | (with_reducible exact LeO.none _)
      | (with_reducible refine LeO.ite ?_ ?_)
      | (with_reducible refine LeO.bind ?_ (fun _ => ?_))
      | exact ih0 _ _ _
      | exact ih1 _ _
      | exact LeO.none _
      | refine LeO.ite ?_ ?_
      | refine LeO.bind ?_ (fun _ => ?_)
theorem digits_Text.mono : ∀ a0 k, LeO (digits_Text.f k a0) (digits_Text.f (k + 1) a0) := by
  intro a0 k
  obtain ⟨ih0, ih1⟩ := digits_Text.mono_l k
  unfold digits_Text.f
  repeat' first
      | (with_reducible exact ih0 _ _ _)
      | (with_reducible exact ih1 _ _)
      | (with_reducible exact LeO.refl _)
      | (with_reducible exact LeO.none _)
      | (with_reducible refine LeO.ite ?_ ?_)
      | (with_reducible refine LeO.bind ?_ (fun _ => ?_))
      | exact ih0 _ _ _
      | exact ih1 _ _
      | exact LeO.none _
      | refine LeO.ite ?_ ?_
      | refine LeO.bind ?_ (fun _ => ?_)
set_option maxHeartbeats 8000000 in
set_option maxRecDepth 100000 in
theorem digits_Text.calls (k : Nat) (a0 : Int) (r : ByteArray) (w : World) (hT_ : Go.Proofs.YtcfhllbobapaiaaDoorW.XTabs.Tabs w) (h : digits_Text.f k a0 = some r) :
    Calls Tryd.prog 15 #[.int .i64 a0] w fun e w' => e = .returned (.string r) ∧ Below w.heap.size w w' := by
  have HB := Aside0.mk (Below.refl w.heap.size w)
  have H := h
  (try unfold digits_Text.f at H)
  clear h
  replace H := Option.bind_eq_some_iff.mp H
  obtain ⟨t102, A20, H⟩ := H
  (try dsimp only at H)
  have A2 := Aside0.mk A20
  clear A20
  by_cases c3 : t102 = true
  · subst c3
    rw [if_pos rfl] at H
    replace H := Option.bind_eq_some_iff.mp H
    obtain ⟨t103, A40, H⟩ := H
    (try dsimp only at H)
    have A4 := Aside0.mk A40
    clear A40
    replace H := Option.bind_eq_some_iff.mp H
    obtain ⟨t104, A50, H⟩ := H
    (try dsimp only at H)
    have A5 := Aside0.mk A50
    clear A50
    have HC6 := Aside0.mk H
    clear H
    go_enter Tryd.func15, Tryd.ntmps15
    go_upto_region 4 with (first | ((with_reducible refine gate_callee (f := 62) rfl ?_); refine goD (some 7) rfl Tryd.func62 (dec_May.calls a0 true _ A2.out) ?_; intro nd) | ((with_reducible refine gate_callee (f := 64) rfl ?_); refine goD (some 10) rfl Tryd.func64 (dec_Units.calls a0 t103 _ A4.out) ?_; intro nd) | ((with_reducible refine gate_callee (f := 63) rfl ?_); refine goB (some 11) rfl Tryd.func63 (strconv_FormatInt.calls (hT_ := by repeat (first | exact hT_ | (with_reducible apply Go.Proofs.YtcfhllbobapaiaaDoorW.XTabs.Tabs.drewN) | (with_reducible apply Go.Proofs.YtcfhllbobapaiaaDoorW.XTabs.Tabs.drew) | (with_reducible apply Go.Proofs.YtcfhllbobapaiaaDoorW.XTabs.Tabs.alloc) | exact Go.Proofs.YtcfhllbobapaiaaDoorW.XTabs.Tabs.below hT_ (by repeat (first | (with_reducible first | exact HB.out | apply below_alloc | apply pw_below_drewN | apply below_drew1) | exact HB.out | refine below_set ?_ (Aside0.out (by assumption)))))) t103 10 t104 _ A5.out) ?_; clear HB; intro w7 HB))
    (try simp only [Act.put, List.setIfInBounds_toArray, List.set_cons_zero, List.set_cons_succ])
    go_cut [17] (fun v17 wc => ∃ (kq : Nat) (x17_5 : Bool), v17 = .bool x17_5 ∧ Aside0 (digits_Text.j0 kq a0 t104 x17_5 = some r) ∧ Aside0 (kq ≤ k) ∧ Aside0 (Below w.heap.size w wc))
    case first =>
      have H := HC6.out
      clear HC6
      by_cases c8 : a0 < 0
      · rw [if_pos c8] at H
        have c8b0 : decide (a0 < 0) = true := decide_eq_true c8
        clear c8
        (first | rw [c8b0] | (simp only [i64_w, i32_w]; rw [c8b0]) | skip)
        have H' := Aside0.mk H
        clear H
        go_wp2
        go_meet
        case rel => exact ⟨_, (decide (a0 > (-10000))), eqv, H', lev, blv⟩
      · rw [if_neg c8] at H
        have c8b0 : decide (a0 < 0) = false := decide_eq_false c8
        clear c8
        (first | rw [c8b0] | (simp only [i64_w, i32_w]; rw [c8b0]) | skip)
        have H' := Aside0.mk H
        clear H
        go_wp2
        go_meet
        case rel => exact ⟨_, (false), eqv, H', lev, blv⟩
    case rest =>
      clear HC6
      try clear c1
      try clear p2
      try clear c3
      try clear c6
      try clear c8
      try clear c8b0
      obtain ⟨kq, x17_5, rfl, HA, HJ5, HB⟩ := hcut
      cases kq with
      | zero => exact absurd HA.out (by simp [digits_Text.j0])
      | succ kj5 =>
        have H := HA.out
        clear HA
        simp only [digits_Text.j0] at H
        have HC9 := Aside0.mk H
        clear H
        go_upto_if 17 with (fail)
        go_cut [3] (fun v3 wc => ∃ (kq : Nat) (x3_8 : ByteArray), v3 = .string x3_8 ∧ Aside0 (digits_Text.j1 kq a0 x3_8 = some r) ∧ Aside0 (kq ≤ kj5) ∧ Aside0 (Below w.heap.size w wc))
        case first =>
          have H := HC9.out
          clear HC9
          by_cases c10 : x17_5 = true
          · subst c10
            rw [if_pos rfl] at H
            by_cases c11 : 1 + t104.size ≤ 9223372036854775807
            · rw [if_pos c11] at H
              have c11b0 := eq_true c11
              have c11b1 : decide (1 + t104.size ≤ 9223372036854775807) = true := decide_eq_true c11
              try have c11b2 : (9223372036854775807 < 1 + t104.size) = False := eq_false (Nat.not_lt.2 c11)
              have H' := Aside0.mk H
              clear H
              go_wp2
              go_meet
              case rel => exact ⟨_, ((⟨#[45]⟩ : ByteArray) ++ t104), eqv, H', ⟨by have := HJ5.out; first | omega | exact Nat.le_refl _⟩, blv⟩
            · rw [if_neg c11] at H
              exact absurd H (by simp)
          · replace c10 := Bool.eq_false_iff.mpr c10
            subst c10
            rw [if_neg (show ¬ (false = true) by decide)] at H
            have H' := Aside0.mk H
            clear H
            go_wp2
            go_meet
            case rel => exact ⟨_, (t104), eqv, H', ⟨by have := HJ5.out; first | omega | exact Nat.le_refl _⟩, blv⟩
        case rest =>
          clear HC9
          try clear c1
          try clear p2
          try clear c3
          try clear c6
          try clear c8
          try clear c8b0
          try clear c10
          try clear c11
          try clear c11b0
          try clear c11b1
          try clear c11b2
          try clear p2
          obtain ⟨kq, x3_8, rfl, HA, HJ8, HB⟩ := hcut
          cases kq with
          | zero => exact absurd HA.out (by simp [digits_Text.j1])
          | succ kj8 =>
            have H := HA.out
            clear HA
            simp only [digits_Text.j1] at H
            by_cases c12 : (Int.tmod a0 10000) = 0
            · rw [if_pos c12] at H
              have c12b0 : ((Int.tmod a0 10000) == 0) = true := beq_iff_eq.mpr c12
              have c12b1 : ((Int.tmod a0 10000) != 0) = false := bne_eq_false_iff_eq.mpr c12
              clear c12
              obtain rfl := Option.some.inj H
              go_wp2
              go_ret
              exact finB
            · rw [if_neg c12] at H
              have c12b0 : ((Int.tmod a0 10000) == 0) = false := beq_eq_false_iff_ne.mpr c12
              have c12b1 : ((Int.tmod a0 10000) != 0) = true := bne_iff_ne.mpr c12
              obtain ⟨ji13, hji13⟩ : ∃ j_ : Int, (mx (Int.tmod a0 10000) (wrap64 (-(Int.tmod a0 10000)))) = j_ := ⟨_, rfl⟩
              replace H : ((strconv_FormatInt.f (wrap64 (10000 + (ji13))) 10).bind fun t105 => (if 1 ≤ (t105.size : Int) then (if x3_8.size + 1 ≤ 9223372036854775807 then ((strings_TrimRight.f (t105.extract 1 t105.size) (⟨#[48]⟩ : ByteArray)).bind fun t106 => (if (x3_8 ++ (⟨#[46]⟩ : ByteArray)).size + t106.size ≤ 9223372036854775807 then (some ((x3_8 ++ (⟨#[46]⟩ : ByteArray)) ++ t106)) else (none))) else (none)) else (none))) = some r := by first | (rw [hji13] at H; exact H) | (simp only [hji13] at H ⊢; exact H)
              have hji13_ : (if (Int.tmod a0 10000) < (wrap64 (-(Int.tmod a0 10000))) then (wrap64 (-(Int.tmod a0 10000))) else (Int.tmod a0 10000)) = ji13 := hji13
              replace H := Option.bind_eq_some_iff.mp H
              obtain ⟨t105, A140, H⟩ := H
              (try dsimp only at H)
              have A14 := Aside0.mk A140
              clear A140
              by_cases c15 : 1 ≤ (t105.size : Int)
              · rw [if_pos c15] at H
                have c15b0 := eq_true c15
                have c15b1 : decide (1 ≤ (t105.size : Int)) = true := decide_eq_true c15
                clear c15
                by_cases c16 : x3_8.size + 1 ≤ 9223372036854775807
                · rw [if_pos c16] at H
                  have c16b0 := eq_true c16
                  have c16b1 : decide (x3_8.size + 1 ≤ 9223372036854775807) = true := decide_eq_true c16
                  try have c16b2 : (9223372036854775807 < x3_8.size + 1) = False := eq_false (Nat.not_lt.2 c16)
                  replace H := Option.bind_eq_some_iff.mp H
                  obtain ⟨t106, A170, H⟩ := H
                  (try dsimp only at H)
                  have A17 := Aside0.mk A170
                  clear A170
                  by_cases c18 : (x3_8 ++ (⟨#[46]⟩ : ByteArray)).size + t106.size ≤ 9223372036854775807
                  · rw [if_pos c18] at H
                    have c18b0 := eq_true c18
                    have c18b1 : decide ((x3_8 ++ (⟨#[46]⟩ : ByteArray)).size + t106.size ≤ 9223372036854775807) = true := decide_eq_true c18
                    try have c18b2 : (9223372036854775807 < (x3_8 ++ (⟨#[46]⟩ : ByteArray)).size + t106.size) = False := eq_false (Nat.not_lt.2 c18)
                    try have c18b3 : (9223372036854775807 < x3_8.size + 1 + t106.size) = False := eq_false (Nat.not_lt.2 (by have z_ := c18; simp only [ByteArray.size_append] at z_; exact z_))
                    obtain rfl := Option.some.inj H
                    go_wp2_with (first | ((with_reducible refine gate_callee (f := 63) rfl ?_); refine goesL_ (some 31) rfl rfl Tryd.func63 (by kernel_rfl) rfl #[.int .i64 (wrap64 (10000 + (ji13))), .int .i64 10] rfl (by (try simp only [List.map_toArray, List.map_cons, List.map_nil]); first | done | (simp only [hji13]; rfl) | rfl | (simp only [List.length_drop, List.length_take]; rfl)) ?_; (with_reducible refine (strconv_FormatInt.calls (hT_ := by repeat (first | exact hT_ | (with_reducible apply Go.Proofs.YtcfhllbobapaiaaDoorW.XTabs.Tabs.drewN) | (with_reducible apply Go.Proofs.YtcfhllbobapaiaaDoorW.XTabs.Tabs.drew) | (with_reducible apply Go.Proofs.YtcfhllbobapaiaaDoorW.XTabs.Tabs.alloc) | exact Go.Proofs.YtcfhllbobapaiaaDoorW.XTabs.Tabs.below hT_ (by repeat (first | (with_reducible first | exact HB.out | apply below_alloc | apply pw_below_drewN | apply below_drew1) | exact HB.out | refine below_set ?_ (Aside0.out (by assumption)))))) (wrap64 (10000 + (ji13))) 10 t105 _ A14.out).mono ?_); rintro e w19 ⟨rfl, hb⟩; refine ⟨_, rfl, ?_⟩; have n0_ := Aside0.mk (below_step (by repeat (first | (with_reducible first | exact HB.out | apply below_alloc | apply pw_below_drewN | apply below_drew1) | exact HB.out)) hb); clear HB; have HB := n0_; clear n0_; (try clear hb); (try clear hb2); (try clear hk); (try clear hi)) | ((with_reducible refine gate_callee (f := 65) rfl ?_); refine goD (some 36) rfl Tryd.func65 (strings_TrimRight.calls (t105.extract 1 t105.size) (⟨#[48]⟩ : ByteArray) t106 _ A17.out) ?_; intro nd))
                    go_ret
                    exact ⟨by first | rfl | (simp [errW_none, errW_some] <;> rfl) | (simp only [← hji13]; first | rfl | (simp [errW_none, errW_some] <;> rfl)) | (simp [*, errW_none, errW_some] <;> rfl), by repeat (first | (with_reducible first | exact HB.out | apply below_alloc | apply pw_below_drewN | apply below_drew1) | exact HB.out)⟩
                  · rw [if_neg c18] at H
                    exact absurd H (by simp)
                · rw [if_neg c16] at H
                  exact absurd H (by simp)
              · rw [if_neg c15] at H
                exact absurd H (by simp)
  · replace c3 := Bool.eq_false_iff.mpr c3
    subst c3
    rw [if_neg (show ¬ (false = true) by decide)] at H
    obtain rfl := Option.some.inj H
    go_enter Tryd.func15, Tryd.ntmps15
    go_wp2_with (first | ((with_reducible refine gate_callee (f := 62) rfl ?_); refine goD (some 7) rfl Tryd.func62 (dec_May.calls a0 false _ A2.out) ?_; intro nd))
    go_ret
    exact finB
def strings_CutPrefix.f (a0 : ByteArray) (a1 : ByteArray) : Option (ByteArray × Bool) := Go.Proofs.YtcfhllbobapaiaaDoorW.XTabs.cutPrefix a0 a1
theorem strings_CutPrefix.calls (a0 : ByteArray) (a1 : ByteArray) (r1 : ByteArray) (r2 : Bool) (w : World) (h : strings_CutPrefix.f a0 a1 = some (r1, r2)) :
    Calls Tryd.prog 66 #[.string a0, .string a1] w fun e w' => e = .returned (.tuple #[.string r1, .bool r2]) ∧ Drawn0 w w' := Go.Proofs.YtcfhllbobapaiaaDoorW.XTabs.cutPrefix_calls a0 a1 r1 r2 w h
def strings_Cut.f (a0 : ByteArray) (a1 : ByteArray) : Option (ByteArray × ByteArray × Bool) := Go.Proofs.YtcfhllbobapaiaaDoorW.XTabs.cut a0 a1
theorem strings_Cut.calls (a0 : ByteArray) (a1 : ByteArray) (r1 : ByteArray) (r2 : ByteArray) (r3 : Bool) (w : World) (hT_ : Go.Proofs.YtcfhllbobapaiaaDoorW.XTabs.Tabs w) (h : strings_Cut.f a0 a1 = some (r1, r2, r3)) :
    Calls Tryd.prog 67 #[.string a0, .string a1] w fun e w' => e = .returned (.tuple #[.string r1, .string r2, .bool r3]) ∧ Drawn0 w w' := Go.Proofs.YtcfhllbobapaiaaDoorW.XTabs.cut_calls a0 a1 r1 r2 r3 w hT_ h
def dec_size.f (a0 : Int) : Option (Int) := if a0 < 0 then (some (IntKind.u64.wrap (wrap64 (-a0)))) else (some (IntKind.u64.wrap (a0)))
set_option maxHeartbeats 8000000 in
set_option maxRecDepth 100000 in
theorem dec_size.calls (a0 : Int) (r : Int) (w : World) (h : dec_size.f a0 = some r) :
    Calls Tryd.prog 140 #[.int .i64 a0] w fun e w' => e = .returned (.int .u64 r) ∧ Drawn0 w w' := by
  have H := h
  (try unfold dec_size.f at H)
  clear h
  by_cases c2 : a0 < 0
  · rw [if_pos c2] at H
    have c2b0 : decide (a0 < 0) = true := decide_eq_true c2
    clear c2
    obtain rfl := Option.some.inj H
    go_enter Tryd.func140, Tryd.ntmps140
    go_wp2
    go_ret
    exact fin0
  · rw [if_neg c2] at H
    have c2b0 : decide (a0 < 0) = false := decide_eq_false c2
    clear c2
    obtain rfl := Option.some.inj H
    go_enter Tryd.func140, Tryd.ntmps140
    go_wp2
    go_ret
    exact fin0
def bits_Mul64.f (a0 : Int) (a1 : Int) : Option (Int × Int) := some (IntKind.u64.wrap ((IntKind.u64.wrap ((IntKind.u64.wrap ((a0 / 4294967296) * (a1 / 4294967296))) + ((IntKind.u64.wrap ((IntKind.u64.wrap ((a0 / 4294967296) * (Go.bits .and .u64 a1 4294967295))) + ((IntKind.u64.wrap ((Go.bits .and .u64 a0 4294967295) * (Go.bits .and .u64 a1 4294967295))) / 4294967296))) / 4294967296))) + ((IntKind.u64.wrap ((Go.bits .and .u64 (IntKind.u64.wrap ((IntKind.u64.wrap ((a0 / 4294967296) * (Go.bits .and .u64 a1 4294967295))) + ((IntKind.u64.wrap ((Go.bits .and .u64 a0 4294967295) * (Go.bits .and .u64 a1 4294967295))) / 4294967296))) 4294967295) + (IntKind.u64.wrap ((Go.bits .and .u64 a0 4294967295) * (a1 / 4294967296))))) / 4294967296)), IntKind.u64.wrap (a0 * a1))
set_option maxHeartbeats 8000000 in
set_option maxRecDepth 100000 in
theorem bits_Mul64.calls (a0 : Int) (a1 : Int) (r1 : Int) (r2 : Int) (w : World) (h : bits_Mul64.f a0 a1 = some (r1, r2)) :
    Calls Tryd.prog 141 #[.int .u64 a0, .int .u64 a1] w fun e w' => e = .returned (.tuple #[.int .u64 r1, .int .u64 r2]) ∧ Drawn0 w w' := by
  have H := h
  (try unfold bits_Mul64.f at H)
  clear h
  simp only [Option.some.injEq, Prod.mk.injEq] at H
  obtain ⟨rfl, rfl⟩ := H
  go_enter Tryd.func141, Tryd.ntmps141
  go_wp2
  go_ret2
  exact fin0
end Go.Proofs.YtcfhllbobapaiaaDoor.PA

namespace Go.Proofs.YtcfhllbobapaiaaDoor.PA
open Go.RowKit Go.Proofs.YtcfhllbobapaiaaDoorW.PrintWords Go.Proofs.YtcfhllbobapaiaaDoorW.PrintLast Go.Proofs.YtcfhllbobapaiaaDoorW.PrintMore
attribute [local go_sem] max2_int min2_int max_two min_two max_three min_three max_four min_four
set_option linter.unusedVariables false
set_option linter.unusedSimpArgs false
def dec_Sign.f (a0 : Int) : Option (Int) := if a0 < 0 then (some (-1)) else (if a0 > 0 then (some 1) else (some 0))
set_option maxHeartbeats 8000000 in
set_option maxRecDepth 100000 in
theorem dec_Sign.calls (a0 : Int) (r : Int) (w : World) (h : dec_Sign.f a0 = some r) :
    Calls Tryd.prog 143 #[.int .i64 a0] w fun e w' => e = .returned (.int .i64 r) ∧ Drawn0 w w' := by
  have H := h
  (try unfold dec_Sign.f at H)
  clear h
  by_cases c2 : a0 < 0
  · rw [if_pos c2] at H
    have c2b0 : decide (a0 < 0) = true := decide_eq_true c2
    clear c2
    obtain rfl := Option.some.inj H
    go_enter Tryd.func143, Tryd.ntmps143
    go_wp2
    go_ret
    exact fin0
  · rw [if_neg c2] at H
    have c2b0 : decide (a0 < 0) = false := decide_eq_false c2
    clear c2
    by_cases c3 : a0 > 0
    · rw [if_pos c3] at H
      have c3b0 : decide (0 < a0) = true := decide_eq_true c3
      clear c3
      obtain rfl := Option.some.inj H
      go_enter Tryd.func143, Tryd.ntmps143
      go_wp2
      go_ret
      exact fin0
    · rw [if_neg c3] at H
      have c3b0 : decide (0 < a0) = false := decide_eq_false c3
      clear c3
      obtain rfl := Option.some.inj H
      go_enter Tryd.func143, Tryd.ntmps143
      go_wp2
      go_ret
      exact fin0
mutual
def dec_Scaled.j0 : Nat → Int → Int → Int → Bool → Option (Int × Bool)
  | 0, _, _, _, _ => none
  | k + 1, x0, x1, x2, x29 => if x29 = true then (some (0, false)) else ((dec_size.f x2).bind fun t112 => ((dec_size.f x0).bind fun t113 => ((dec_size.f x1).bind fun t114 => ((bits_Mul64.f t113 t114).bind fun bt115 => (if bt115.1 ≥ t112 then (some (0, false)) else ((bits_Div64.f k bt115.1 bt115.2 t112).bind fun bt117 => (if bt117.2 ≥ (IntKind.u64.wrap (t112 - bt117.2)) then (dec_Scaled.j1 k x0 x1 x2 (IntKind.u64.wrap (bt117.1 + 1))) else (dec_Scaled.j1 k x0 x1 x2 bt117.1))))))))
def dec_Scaled.j1 : Nat → Int → Int → Int → Int → Option (Int × Bool)
  | 0, _, _, _, _ => none
  | k + 1, x0, x1, x2, x11 => if x11 > 9223372036854775807 then (some (0, false)) else ((dec_Sign.f x0).bind fun t119 => ((dec_Sign.f x1).bind fun t120 => ((dec_Sign.f x2).bind fun t121 => (if (wrap64 ((wrap64 (t119 * t120)) * t121)) < 0 then (some (wrap64 (-(wrap64 (x11))), true)) else (some (wrap64 (x11), true))))))
end
def dec_Scaled.f (k : Nat) (a0 : Int) (a1 : Int) (a2 : Int) : Option (Int × Bool) := (dec_May.f a0).bind fun t109 => (if t109 = true then ((dec_May.f a1).bind fun t110 => (if t110 = true then ((dec_May.f a2).bind fun t111 => (if t111 = true then (dec_Scaled.j0 k a0 a1 a2 (a2 == 0)) else (dec_Scaled.j0 k a0 a1 a2 true))) else (dec_Scaled.j0 k a0 a1 a2 true))) else (dec_Scaled.j0 k a0 a1 a2 true))
theorem dec_Scaled.mono_l : ∀ k, (∀ y0 y1 y2 y3, LeO (dec_Scaled.j0 k y0 y1 y2 y3) (dec_Scaled.j0 (k + 1) y0 y1 y2 y3)) ∧ (∀ y0 y1 y2 y3, LeO (dec_Scaled.j1 k y0 y1 y2 y3) (dec_Scaled.j1 (k + 1) y0 y1 y2 y3))
  | 0 => ⟨fun _ _ _ _ r h => by simp [dec_Scaled.j0] at h, fun _ _ _ _ r h => by simp [dec_Scaled.j1] at h⟩
  | k + 1 => by
    obtain ⟨ih0, ih1⟩ := dec_Scaled.mono_l k
    refine ⟨?_, ?_⟩
    · intro y0 y1 y2 y3
      unfold dec_Scaled.j0
      repeat' first
      | (with_reducible exact ih0 _ _ _ _)
      | (with_reducible exact ih1 _ _ _ _)
      | (with_reducible exact bits_Div64.mono _ _ _ _)
      | (with_reducible exact LeO.refl _)
      | (with_reducible exact LeO.none _)
      | (with_reducible refine LeO.ite ?_ ?_)
      | (with_reducible refine LeO.bind ?_ (fun _ => ?_))
      | exact ih0 _ _ _ _
      | exact ih1 _ _ _ _
      | exact bits_Div64.mono _ _ _ _
      | exact LeO.none _
      | refine LeO.ite ?_ ?_
      | refine LeO.bind ?_ (fun _ => ?_)
    · intro y0 y1 y2 y3
      unfold dec_Scaled.j1
      repeat' first
      | (with_reducible exact ih0 _ _ _ _)
      | (with_reducible exact ih1 _ _ _ _)
      | (with_reducible exact bits_Div64.mono _ _ _ _)
      | (with_reducible exact LeO.refl _)
      | (with_reducible exact LeO.none _)
      | (with_reducible refine LeO.ite ?_ ?_)
      | (with_reducible refine LeO.bind ?_ (fun _ => ?_))
      | exact ih0 _ _ _ _
      | exact ih1 _ _ _ _
      | exact bits_Div64.mono _ _ _ _
      | exact LeO.none _
      | refine LeO.ite ?_ ?_
      | refine LeO.bind ?_ (fun _ => ?_)
theorem dec_Scaled.mono : ∀ a0 a1 a2 k, LeO (dec_Scaled.f k a0 a1 a2) (dec_Scaled.f (k + 1) a0 a1 a2) := by
  intro a0 a1 a2 k
  obtain ⟨ih0, ih1⟩ := dec_Scaled.mono_l k
  unfold dec_Scaled.f
  repeat' first
      | (with_reducible exact ih0 _ _ _ _)
      | (with_reducible exact ih1 _ _ _ _)
      | (with_reducible exact bits_Div64.mono _ _ _ _)
      | (with_reducible exact LeO.refl _)
      | (with_reducible exact LeO.none _)
      | (with_reducible refine LeO.ite ?_ ?_)
      | (with_reducible refine LeO.bind ?_ (fun _ => ?_))
      | exact ih0 _ _ _ _
      | exact ih1 _ _ _ _
      | exact bits_Div64.mono _ _ _ _
      | exact LeO.none _
      | refine LeO.ite ?_ ?_
      | refine LeO.bind ?_ (fun _ => ?_)
set_option maxHeartbeats 8000000 in
set_option maxRecDepth 100000 in
theorem dec_Scaled.calls (k : Nat) (a0 : Int) (a1 : Int) (a2 : Int) (r1 : Int) (r2 : Bool) (w : World) (h : dec_Scaled.f k a0 a1 a2 = some (r1, r2)) :
    Calls Tryd.prog 93 #[.int .i64 a0, .int .i64 a1, .int .i64 a2] w fun e w' => e = .returned (.tuple #[.int .i64 r1, .bool r2]) ∧ Drawn0 w w' := by
  have H := h
  (try unfold dec_Scaled.f at H)
  clear h
  have HC4 := Aside0.mk H
  clear H
  go_enter Tryd.func93, Tryd.ntmps93
  go_upto_region 1 with (fail)
  go_cut [29] (fun v29 wc => ∃ (kq : Nat) (x29_3 : Bool), v29 = .bool x29_3 ∧ Aside0 (dec_Scaled.j0 kq a0 a1 a2 x29_3 = some (r1, r2)) ∧ Aside0 (kq ≤ k) ∧ Drawn0 w wc)
  case first =>
    have H := HC4.out
    clear HC4
    replace H := Option.bind_eq_some_iff.mp H
    obtain ⟨t109, A50, H⟩ := H
    (try dsimp only at H)
    have A5 := Aside0.mk A50
    clear A50
    by_cases c6 : t109 = true
    · subst c6
      rw [if_pos rfl] at H
      replace H := Option.bind_eq_some_iff.mp H
      obtain ⟨t110, A70, H⟩ := H
      (try dsimp only at H)
      have A7 := Aside0.mk A70
      clear A70
      by_cases c8 : t110 = true
      · subst c8
        rw [if_pos rfl] at H
        replace H := Option.bind_eq_some_iff.mp H
        obtain ⟨t111, A90, H⟩ := H
        (try dsimp only at H)
        have A9 := Aside0.mk A90
        clear A90
        by_cases c10 : t111 = true
        · subst c10
          rw [if_pos rfl] at H
          have H' := Aside0.mk H
          clear H
          go_wp2_with (first | ((with_reducible refine gate_callee (f := 62) rfl ?_); refine goD (some 14) rfl Tryd.func62 (dec_May.calls a0 true _ A5.out) ?_; intro nd) | (go_at_call 62; (with_reducible refine (dec_May.calls a1 true _ A7.out).mono ?_); rintro e w' ⟨rfl, ⟨nd, rfl⟩⟩; (try clear A7)) | (go_at_call 62; (with_reducible refine (dec_May.calls a2 true _ A9.out).mono ?_); rintro e w' ⟨rfl, ⟨nd, rfl⟩⟩; (try clear A9)))
          go_meet
          case rel => exact ⟨_, ((a2 == 0)), eqv, H', lev, drv⟩
        · replace c10 := Bool.eq_false_iff.mpr c10
          subst c10
          rw [if_neg (show ¬ (false = true) by decide)] at H
          have H' := Aside0.mk H
          clear H
          go_wp2_with (first | ((with_reducible refine gate_callee (f := 62) rfl ?_); refine goD (some 14) rfl Tryd.func62 (dec_May.calls a0 true _ A5.out) ?_; intro nd) | (go_at_call 62; (with_reducible refine (dec_May.calls a1 true _ A7.out).mono ?_); rintro e w' ⟨rfl, ⟨nd, rfl⟩⟩; (try clear A7)) | (go_at_call 62; (with_reducible refine (dec_May.calls a2 false _ A9.out).mono ?_); rintro e w' ⟨rfl, ⟨nd, rfl⟩⟩; (try clear A9)))
          go_meet
          case rel => exact ⟨_, (true), eqv, H', lev, drv⟩
      · replace c8 := Bool.eq_false_iff.mpr c8
        subst c8
        rw [if_neg (show ¬ (false = true) by decide)] at H
        have H' := Aside0.mk H
        clear H
        go_wp2_with (first | ((with_reducible refine gate_callee (f := 62) rfl ?_); refine goD (some 14) rfl Tryd.func62 (dec_May.calls a0 true _ A5.out) ?_; intro nd) | (go_at_call 62; (with_reducible refine (dec_May.calls a1 false _ A7.out).mono ?_); rintro e w' ⟨rfl, ⟨nd, rfl⟩⟩; (try clear A7)))
        go_meet
        case rel => exact ⟨_, (true), eqv, H', lev, drv⟩
    · replace c6 := Bool.eq_false_iff.mpr c6
      subst c6
      rw [if_neg (show ¬ (false = true) by decide)] at H
      have H' := Aside0.mk H
      clear H
      go_wp2_with (first | ((with_reducible refine gate_callee (f := 62) rfl ?_); refine goD (some 14) rfl Tryd.func62 (dec_May.calls a0 false _ A5.out) ?_; intro nd))
      go_meet
      case rel => exact ⟨_, (true), eqv, H', lev, drv⟩
  case rest =>
    clear HC4
    try clear c1
    try clear p2
    try clear c6
    try clear c8
    try clear c9
    try clear c10
    obtain ⟨kq, x29_3, rfl, HA, HJ3, ⟨mc3, rfl⟩⟩ := hcut
    cases kq with
    | zero => exact absurd HA.out (by simp [dec_Scaled.j0])
    | succ kj3 =>
      have H := HA.out
      clear HA
      simp only [dec_Scaled.j0] at H
      by_cases c11 : x29_3 = true
      · subst c11
        rw [if_pos rfl] at H
        simp only [Option.some.injEq, Prod.mk.injEq] at H
        obtain ⟨rfl, rfl⟩ := H
        go_wp2
        go_ret2
        exact fin0
      · replace c11 := Bool.eq_false_iff.mpr c11
        subst c11
        rw [if_neg (show ¬ (false = true) by decide)] at H
        replace H := Option.bind_eq_some_iff.mp H
        obtain ⟨t112, A120, H⟩ := H
        (try dsimp only at H)
        have A12 := Aside0.mk A120
        clear A120
        replace H := Option.bind_eq_some_iff.mp H
        obtain ⟨t113, A130, H⟩ := H
        (try dsimp only at H)
        have A13 := Aside0.mk A130
        clear A130
        replace H := Option.bind_eq_some_iff.mp H
        obtain ⟨t114, A140, H⟩ := H
        (try dsimp only at H)
        have A14 := Aside0.mk A140
        clear A140
        replace H := Option.bind_eq_some_iff.mp H
        obtain ⟨⟨t115, t116⟩, A150, H⟩ := H
        (try dsimp only at H)
        have A15 := Aside0.mk A150
        clear A150
        by_cases c16 : t115 ≥ t112
        · rw [if_pos c16] at H
          have c16b0 : decide (t112 ≤ t115) = true := decide_eq_true c16
          clear c16
          simp only [Option.some.injEq, Prod.mk.injEq] at H
          obtain ⟨rfl, rfl⟩ := H
          go_wp2_with (first | ((with_reducible refine gate_callee (f := 140) rfl ?_); refine goD (some 31) rfl Tryd.func140 (dec_size.calls a2 t112 _ A12.out) ?_; intro nd) | ((with_reducible refine gate_callee (f := 140) rfl ?_); refine goD (some 34) rfl Tryd.func140 (dec_size.calls a0 t113 _ A13.out) ?_; intro nd) | ((with_reducible refine gate_callee (f := 140) rfl ?_); refine goD (some 36) rfl Tryd.func140 (dec_size.calls a1 t114 _ A14.out) ?_; intro nd) | ((with_reducible refine gate_callee (f := 141) rfl ?_); refine goD (some 37) rfl Tryd.func141 (bits_Mul64.calls t113 t114 t115 t116 _ A15.out) ?_; intro nd))
          go_ret2
          exact fin0
        · rw [if_neg c16] at H
          have c16b0 : decide (t112 ≤ t115) = false := decide_eq_false c16
          clear c16
          replace H := Option.bind_eq_some_iff.mp H
          obtain ⟨⟨t117, t118⟩, A170, H⟩ := H
          (try dsimp only at H)
          have A17 := Aside0.mk A170
          clear A170
          have HC18 := Aside0.mk H
          clear H
          go_upto_if 54 with (first | ((with_reducible refine gate_callee (f := 140) rfl ?_); refine goD (some 31) rfl Tryd.func140 (dec_size.calls a2 t112 _ A12.out) ?_; intro nd) | ((with_reducible refine gate_callee (f := 140) rfl ?_); refine goD (some 34) rfl Tryd.func140 (dec_size.calls a0 t113 _ A13.out) ?_; intro nd) | ((with_reducible refine gate_callee (f := 140) rfl ?_); refine goD (some 36) rfl Tryd.func140 (dec_size.calls a1 t114 _ A14.out) ?_; intro nd) | ((with_reducible refine gate_callee (f := 141) rfl ?_); refine goD (some 37) rfl Tryd.func141 (bits_Mul64.calls t113 t114 t115 t116 _ A15.out) ?_; intro nd) | ((with_reducible refine gate_callee (f := 142) rfl ?_); refine goD (some 47) rfl Tryd.func142 (bits_Div64.calls kj3 t115 t116 t112 t117 t118 _ A17.out) ?_; intro nd))
          (try simp only [Act.put, List.setIfInBounds_toArray, List.set_cons_zero, List.set_cons_succ])
          go_cut [11] (fun v11 wc => ∃ (kq : Nat) (x11_17 : Int), v11 = .int .u64 x11_17 ∧ Aside0 (dec_Scaled.j1 kq a0 a1 a2 x11_17 = some (r1, r2)) ∧ Aside0 (kq ≤ kj3) ∧ Drawn0 w wc)
          case first =>
            have H := HC18.out
            clear HC18
            by_cases c19 : t118 ≥ (IntKind.u64.wrap (t112 - t118))
            · rw [if_pos c19] at H
              have c19b0 : decide ((IntKind.u64.wrap (t112 - t118)) ≤ t118) = true := decide_eq_true c19
              clear c19
              (first | rw [c19b0] | (simp only [i64_w, i32_w]; rw [c19b0]) | skip)
              have H' := Aside0.mk H
              clear H
              go_wp2
              go_meet
              case rel => exact ⟨_, (IntKind.u64.wrap (t117 + 1)), eqv, H', ⟨by have := HJ3.out; first | omega | exact Nat.le_refl _⟩, drv⟩
            · rw [if_neg c19] at H
              have c19b0 : decide ((IntKind.u64.wrap (t112 - t118)) ≤ t118) = false := decide_eq_false c19
              clear c19
              (first | rw [c19b0] | (simp only [i64_w, i32_w]; rw [c19b0]) | skip)
              have H' := Aside0.mk H
              clear H
              go_wp2
              go_meet
              case rel => exact ⟨_, (t117), eqv, H', ⟨by have := HJ3.out; first | omega | exact Nat.le_refl _⟩, drv⟩
          case rest =>
            clear HC18
            try clear c1
            try clear p2
            try clear c3
            try clear c6
            try clear c8
            try clear c9
            try clear c10
            try clear c11
            try clear c14
            try clear c16
            try clear c16b0
            try clear c19
            try clear c19b0
            try clear p2
            obtain ⟨kq, x11_17, rfl, HA, HJ17, ⟨mc17, rfl⟩⟩ := hcut
            cases kq with
            | zero => exact absurd HA.out (by simp [dec_Scaled.j1])
            | succ kj17 =>
              have H := HA.out
              clear HA
              simp only [dec_Scaled.j1] at H
              by_cases c20 : x11_17 > 9223372036854775807
              · rw [if_pos c20] at H
                have c20b0 : decide (9223372036854775807 < x11_17) = true := decide_eq_true c20
                clear c20
                simp only [Option.some.injEq, Prod.mk.injEq] at H
                obtain ⟨rfl, rfl⟩ := H
                go_wp2
                go_ret2
                exact fin0
              · rw [if_neg c20] at H
                have c20b0 : decide (9223372036854775807 < x11_17) = false := decide_eq_false c20
                clear c20
                replace H := Option.bind_eq_some_iff.mp H
                obtain ⟨t119, A210, H⟩ := H
                (try dsimp only at H)
                have A21 := Aside0.mk A210
                clear A210
                replace H := Option.bind_eq_some_iff.mp H
                obtain ⟨t120, A220, H⟩ := H
                (try dsimp only at H)
                have A22 := Aside0.mk A220
                clear A220
                replace H := Option.bind_eq_some_iff.mp H
                obtain ⟨t121, A230, H⟩ := H
                (try dsimp only at H)
                have A23 := Aside0.mk A230
                clear A230
                by_cases c24 : (wrap64 ((wrap64 (t119 * t120)) * t121)) < 0
                · rw [if_pos c24] at H
                  have c24b0 : decide ((wrap64 ((wrap64 (t119 * t120)) * t121)) < 0) = true := decide_eq_true c24
                  clear c24
                  simp only [Option.some.injEq, Prod.mk.injEq] at H
                  obtain ⟨rfl, rfl⟩ := H
                  go_wp2_with (first | ((with_reducible refine gate_callee (f := 143) rfl ?_); refine goD (some 60) rfl Tryd.func143 (dec_Sign.calls a0 t119 _ A21.out) ?_; intro nd) | ((with_reducible refine gate_callee (f := 143) rfl ?_); refine goD (some 62) rfl Tryd.func143 (dec_Sign.calls a1 t120 _ A22.out) ?_; intro nd) | ((with_reducible refine gate_callee (f := 143) rfl ?_); refine goD (some 65) rfl Tryd.func143 (dec_Sign.calls a2 t121 _ A23.out) ?_; intro nd))
                  go_ret2
                  exact fin0
                · rw [if_neg c24] at H
                  have c24b0 : decide ((wrap64 ((wrap64 (t119 * t120)) * t121)) < 0) = false := decide_eq_false c24
                  clear c24
                  simp only [Option.some.injEq, Prod.mk.injEq] at H
                  obtain ⟨rfl, rfl⟩ := H
                  go_wp2_with (first | ((with_reducible refine gate_callee (f := 143) rfl ?_); refine goD (some 60) rfl Tryd.func143 (dec_Sign.calls a0 t119 _ A21.out) ?_; intro nd) | ((with_reducible refine gate_callee (f := 143) rfl ?_); refine goD (some 62) rfl Tryd.func143 (dec_Sign.calls a1 t120 _ A22.out) ?_; intro nd) | ((with_reducible refine gate_callee (f := 143) rfl ?_); refine goD (some 65) rfl Tryd.func143 (dec_Sign.calls a2 t121 _ A23.out) ?_; intro nd))
                  go_ret2
                  exact fin0
end Go.Proofs.YtcfhllbobapaiaaDoor.PA

namespace Go.Proofs.YtcfhllbobapaiaaDoor.PA
open Go.RowKit Go.Proofs.YtcfhllbobapaiaaDoorW.PrintWords Go.Proofs.YtcfhllbobapaiaaDoorW.PrintLast Go.Proofs.YtcfhllbobapaiaaDoorW.PrintMore
attribute [local go_sem] max2_int min2_int max_two min_two max_three min_three max_four min_four
set_option linter.unusedVariables false
set_option linter.unusedSimpArgs false
def dec_Add.f (a0 : Int) (a1 : Int) : Option (Int × Bool) := (dec_May.f a0).bind fun t122 => (if t122 = true then ((dec_May.f a1).bind fun t123 => (if t123 = true then ((dec_May.f (wrap64 (a0 + a1))).bind fun t124 => (if t124 = true then (if a0 > 0 then (if a1 > 0 then (if (wrap64 (a0 + a1)) < 0 then (some (0, false)) else (if a0 < 0 then (if a1 < 0 then (if (wrap64 (a0 + a1)) ≥ 0 then (some (0, false)) else (some (wrap64 (a0 + a1), true))) else (some (wrap64 (a0 + a1), true))) else (some (wrap64 (a0 + a1), true)))) else (if a0 < 0 then (if a1 < 0 then (if (wrap64 (a0 + a1)) ≥ 0 then (some (0, false)) else (some (wrap64 (a0 + a1), true))) else (some (wrap64 (a0 + a1), true))) else (some (wrap64 (a0 + a1), true)))) else (if a0 < 0 then (if a1 < 0 then (if (wrap64 (a0 + a1)) ≥ 0 then (some (0, false)) else (some (wrap64 (a0 + a1), true))) else (some (wrap64 (a0 + a1), true))) else (some (wrap64 (a0 + a1), true)))) else (some (0, false)))) else (some (0, false)))) else (some (0, false)))
set_option maxHeartbeats 8000000 in
set_option maxRecDepth 100000 in
theorem dec_Add.calls (a0 : Int) (a1 : Int) (r1 : Int) (r2 : Bool) (w : World) (h : dec_Add.f a0 a1 = some (r1, r2)) :
    Calls Tryd.prog 100 #[.int .i64 a0, .int .i64 a1] w fun e w' => e = .returned (.tuple #[.int .i64 r1, .bool r2]) ∧ Drawn0 w w' := by
  have H := h
  (try unfold dec_Add.f at H)
  clear h
  replace H := Option.bind_eq_some_iff.mp H
  obtain ⟨t122, A30, H⟩ := H
  (try dsimp only at H)
  have A3 := Aside0.mk A30
  clear A30
  by_cases c4 : t122 = true
  · subst c4
    rw [if_pos rfl] at H
    replace H := Option.bind_eq_some_iff.mp H
    obtain ⟨t123, A50, H⟩ := H
    (try dsimp only at H)
    have A5 := Aside0.mk A50
    clear A50
    by_cases c6 : t123 = true
    · subst c6
      rw [if_pos rfl] at H
      replace H := Option.bind_eq_some_iff.mp H
      obtain ⟨t124, A70, H⟩ := H
      (try dsimp only at H)
      have A7 := Aside0.mk A70
      clear A70
      by_cases c8 : t124 = true
      · subst c8
        rw [if_pos rfl] at H
        by_cases c9 : a0 > 0
        · rw [if_pos c9] at H
          have c9b0 : decide (0 < a0) = true := decide_eq_true c9
          clear c9
          by_cases c10 : a1 > 0
          · rw [if_pos c10] at H
            have c10b0 : decide (0 < a1) = true := decide_eq_true c10
            clear c10
            by_cases c11 : (wrap64 (a0 + a1)) < 0
            · rw [if_pos c11] at H
              have c11b0 : decide ((wrap64 (a0 + a1)) < 0) = true := decide_eq_true c11
              clear c11
              simp only [Option.some.injEq, Prod.mk.injEq] at H
              obtain ⟨rfl, rfl⟩ := H
              go_enter Tryd.func100, Tryd.ntmps100
              go_wp2_with (first | ((with_reducible refine gate_callee (f := 62) rfl ?_); refine goD (some 11) rfl Tryd.func62 (dec_May.calls a0 true _ A3.out) ?_; intro nd) | (go_at_call 62; (with_reducible refine (dec_May.calls a1 true _ A5.out).mono ?_); rintro e w' ⟨rfl, ⟨nd, rfl⟩⟩; (try clear A5)) | (go_at_call 62; (with_reducible refine (dec_May.calls (wrap64 (a0 + a1)) true _ A7.out).mono ?_); rintro e w' ⟨rfl, ⟨nd, rfl⟩⟩; (try clear A7)))
              go_ret2
              exact fin0
            · rw [if_neg c11] at H
              have c11b0 : decide ((wrap64 (a0 + a1)) < 0) = false := decide_eq_false c11
              clear c11
              by_cases c12 : a0 < 0
              · rw [if_pos c12] at H
                have c12b0 : decide (a0 < 0) = true := decide_eq_true c12
                clear c12
                by_cases c13 : a1 < 0
                · rw [if_pos c13] at H
                  have c13b0 : decide (a1 < 0) = true := decide_eq_true c13
                  clear c13
                  by_cases c14 : (wrap64 (a0 + a1)) ≥ 0
                  · rw [if_pos c14] at H
                    have c14b0 : decide (0 ≤ (wrap64 (a0 + a1))) = true := decide_eq_true c14
                    clear c14
                    simp only [Option.some.injEq, Prod.mk.injEq] at H
                    obtain ⟨rfl, rfl⟩ := H
                    go_enter Tryd.func100, Tryd.ntmps100
                    go_wp2_with (first | ((with_reducible refine gate_callee (f := 62) rfl ?_); refine goD (some 11) rfl Tryd.func62 (dec_May.calls a0 true _ A3.out) ?_; intro nd) | (go_at_call 62; (with_reducible refine (dec_May.calls a1 true _ A5.out).mono ?_); rintro e w' ⟨rfl, ⟨nd, rfl⟩⟩; (try clear A5)) | (go_at_call 62; (with_reducible refine (dec_May.calls (wrap64 (a0 + a1)) true _ A7.out).mono ?_); rintro e w' ⟨rfl, ⟨nd, rfl⟩⟩; (try clear A7)))
                    go_ret2
                    exact fin0
                  · rw [if_neg c14] at H
                    have c14b0 : decide (0 ≤ (wrap64 (a0 + a1))) = false := decide_eq_false c14
                    clear c14
                    simp only [Option.some.injEq, Prod.mk.injEq] at H
                    obtain ⟨rfl, rfl⟩ := H
                    go_enter Tryd.func100, Tryd.ntmps100
                    go_wp2_with (first | ((with_reducible refine gate_callee (f := 62) rfl ?_); refine goD (some 11) rfl Tryd.func62 (dec_May.calls a0 true _ A3.out) ?_; intro nd) | (go_at_call 62; (with_reducible refine (dec_May.calls a1 true _ A5.out).mono ?_); rintro e w' ⟨rfl, ⟨nd, rfl⟩⟩; (try clear A5)) | (go_at_call 62; (with_reducible refine (dec_May.calls (wrap64 (a0 + a1)) true _ A7.out).mono ?_); rintro e w' ⟨rfl, ⟨nd, rfl⟩⟩; (try clear A7)))
                    go_ret2
                    exact fin0
                · rw [if_neg c13] at H
                  have c13b0 : decide (a1 < 0) = false := decide_eq_false c13
                  clear c13
                  simp only [Option.some.injEq, Prod.mk.injEq] at H
                  obtain ⟨rfl, rfl⟩ := H
                  go_enter Tryd.func100, Tryd.ntmps100
                  go_wp2_with (first | ((with_reducible refine gate_callee (f := 62) rfl ?_); refine goD (some 11) rfl Tryd.func62 (dec_May.calls a0 true _ A3.out) ?_; intro nd) | (go_at_call 62; (with_reducible refine (dec_May.calls a1 true _ A5.out).mono ?_); rintro e w' ⟨rfl, ⟨nd, rfl⟩⟩; (try clear A5)) | (go_at_call 62; (with_reducible refine (dec_May.calls (wrap64 (a0 + a1)) true _ A7.out).mono ?_); rintro e w' ⟨rfl, ⟨nd, rfl⟩⟩; (try clear A7)))
                  go_ret2
                  exact fin0
              · rw [if_neg c12] at H
                have c12b0 : decide (a0 < 0) = false := decide_eq_false c12
                clear c12
                simp only [Option.some.injEq, Prod.mk.injEq] at H
                obtain ⟨rfl, rfl⟩ := H
                go_enter Tryd.func100, Tryd.ntmps100
                go_wp2_with (first | ((with_reducible refine gate_callee (f := 62) rfl ?_); refine goD (some 11) rfl Tryd.func62 (dec_May.calls a0 true _ A3.out) ?_; intro nd) | (go_at_call 62; (with_reducible refine (dec_May.calls a1 true _ A5.out).mono ?_); rintro e w' ⟨rfl, ⟨nd, rfl⟩⟩; (try clear A5)) | (go_at_call 62; (with_reducible refine (dec_May.calls (wrap64 (a0 + a1)) true _ A7.out).mono ?_); rintro e w' ⟨rfl, ⟨nd, rfl⟩⟩; (try clear A7)))
                go_ret2
                exact fin0
          · rw [if_neg c10] at H
            have c10b0 : decide (0 < a1) = false := decide_eq_false c10
            clear c10
            by_cases c15 : a0 < 0
            · rw [if_pos c15] at H
              have c15b0 : decide (a0 < 0) = true := decide_eq_true c15
              clear c15
              by_cases c16 : a1 < 0
              · rw [if_pos c16] at H
                have c16b0 : decide (a1 < 0) = true := decide_eq_true c16
                clear c16
                by_cases c17 : (wrap64 (a0 + a1)) ≥ 0
                · rw [if_pos c17] at H
                  have c17b0 : decide (0 ≤ (wrap64 (a0 + a1))) = true := decide_eq_true c17
                  clear c17
                  simp only [Option.some.injEq, Prod.mk.injEq] at H
                  obtain ⟨rfl, rfl⟩ := H
                  go_enter Tryd.func100, Tryd.ntmps100
                  go_wp2_with (first | ((with_reducible refine gate_callee (f := 62) rfl ?_); refine goD (some 11) rfl Tryd.func62 (dec_May.calls a0 true _ A3.out) ?_; intro nd) | (go_at_call 62; (with_reducible refine (dec_May.calls a1 true _ A5.out).mono ?_); rintro e w' ⟨rfl, ⟨nd, rfl⟩⟩; (try clear A5)) | (go_at_call 62; (with_reducible refine (dec_May.calls (wrap64 (a0 + a1)) true _ A7.out).mono ?_); rintro e w' ⟨rfl, ⟨nd, rfl⟩⟩; (try clear A7)))
                  go_ret2
                  exact fin0
                · rw [if_neg c17] at H
                  have c17b0 : decide (0 ≤ (wrap64 (a0 + a1))) = false := decide_eq_false c17
                  clear c17
                  simp only [Option.some.injEq, Prod.mk.injEq] at H
                  obtain ⟨rfl, rfl⟩ := H
                  go_enter Tryd.func100, Tryd.ntmps100
                  go_wp2_with (first | ((with_reducible refine gate_callee (f := 62) rfl ?_); refine goD (some 11) rfl Tryd.func62 (dec_May.calls a0 true _ A3.out) ?_; intro nd) | (go_at_call 62; (with_reducible refine (dec_May.calls a1 true _ A5.out).mono ?_); rintro e w' ⟨rfl, ⟨nd, rfl⟩⟩; (try clear A5)) | (go_at_call 62; (with_reducible refine (dec_May.calls (wrap64 (a0 + a1)) true _ A7.out).mono ?_); rintro e w' ⟨rfl, ⟨nd, rfl⟩⟩; (try clear A7)))
                  go_ret2
                  exact fin0
              · rw [if_neg c16] at H
                have c16b0 : decide (a1 < 0) = false := decide_eq_false c16
                clear c16
                simp only [Option.some.injEq, Prod.mk.injEq] at H
                obtain ⟨rfl, rfl⟩ := H
                go_enter Tryd.func100, Tryd.ntmps100
                go_wp2_with (first | ((with_reducible refine gate_callee (f := 62) rfl ?_); refine goD (some 11) rfl Tryd.func62 (dec_May.calls a0 true _ A3.out) ?_; intro nd) | (go_at_call 62; (with_reducible refine (dec_May.calls a1 true _ A5.out).mono ?_); rintro e w' ⟨rfl, ⟨nd, rfl⟩⟩; (try clear A5)) | (go_at_call 62; (with_reducible refine (dec_May.calls (wrap64 (a0 + a1)) true _ A7.out).mono ?_); rintro e w' ⟨rfl, ⟨nd, rfl⟩⟩; (try clear A7)))
                go_ret2
                exact fin0
            · rw [if_neg c15] at H
              have c15b0 : decide (a0 < 0) = false := decide_eq_false c15
              clear c15
              simp only [Option.some.injEq, Prod.mk.injEq] at H
              obtain ⟨rfl, rfl⟩ := H
              go_enter Tryd.func100, Tryd.ntmps100
              go_wp2_with (first | ((with_reducible refine gate_callee (f := 62) rfl ?_); refine goD (some 11) rfl Tryd.func62 (dec_May.calls a0 true _ A3.out) ?_; intro nd) | (go_at_call 62; (with_reducible refine (dec_May.calls a1 true _ A5.out).mono ?_); rintro e w' ⟨rfl, ⟨nd, rfl⟩⟩; (try clear A5)) | (go_at_call 62; (with_reducible refine (dec_May.calls (wrap64 (a0 + a1)) true _ A7.out).mono ?_); rintro e w' ⟨rfl, ⟨nd, rfl⟩⟩; (try clear A7)))
              go_ret2
              exact fin0
        · rw [if_neg c9] at H
          have c9b0 : decide (0 < a0) = false := decide_eq_false c9
          clear c9
          by_cases c18 : a0 < 0
          · rw [if_pos c18] at H
            have c18b0 : decide (a0 < 0) = true := decide_eq_true c18
            clear c18
            by_cases c19 : a1 < 0
            · rw [if_pos c19] at H
              have c19b0 : decide (a1 < 0) = true := decide_eq_true c19
              clear c19
              by_cases c20 : (wrap64 (a0 + a1)) ≥ 0
              · rw [if_pos c20] at H
                have c20b0 : decide (0 ≤ (wrap64 (a0 + a1))) = true := decide_eq_true c20
                clear c20
                simp only [Option.some.injEq, Prod.mk.injEq] at H
                obtain ⟨rfl, rfl⟩ := H
                go_enter Tryd.func100, Tryd.ntmps100
                go_wp2_with (first | ((with_reducible refine gate_callee (f := 62) rfl ?_); refine goD (some 11) rfl Tryd.func62 (dec_May.calls a0 true _ A3.out) ?_; intro nd) | (go_at_call 62; (with_reducible refine (dec_May.calls a1 true _ A5.out).mono ?_); rintro e w' ⟨rfl, ⟨nd, rfl⟩⟩; (try clear A5)) | (go_at_call 62; (with_reducible refine (dec_May.calls (wrap64 (a0 + a1)) true _ A7.out).mono ?_); rintro e w' ⟨rfl, ⟨nd, rfl⟩⟩; (try clear A7)))
                go_ret2
                exact fin0
              · rw [if_neg c20] at H
                have c20b0 : decide (0 ≤ (wrap64 (a0 + a1))) = false := decide_eq_false c20
                clear c20
                simp only [Option.some.injEq, Prod.mk.injEq] at H
                obtain ⟨rfl, rfl⟩ := H
                go_enter Tryd.func100, Tryd.ntmps100
                go_wp2_with (first | ((with_reducible refine gate_callee (f := 62) rfl ?_); refine goD (some 11) rfl Tryd.func62 (dec_May.calls a0 true _ A3.out) ?_; intro nd) | (go_at_call 62; (with_reducible refine (dec_May.calls a1 true _ A5.out).mono ?_); rintro e w' ⟨rfl, ⟨nd, rfl⟩⟩; (try clear A5)) | (go_at_call 62; (with_reducible refine (dec_May.calls (wrap64 (a0 + a1)) true _ A7.out).mono ?_); rintro e w' ⟨rfl, ⟨nd, rfl⟩⟩; (try clear A7)))
                go_ret2
                exact fin0
            · rw [if_neg c19] at H
              have c19b0 : decide (a1 < 0) = false := decide_eq_false c19
              clear c19
              simp only [Option.some.injEq, Prod.mk.injEq] at H
              obtain ⟨rfl, rfl⟩ := H
              go_enter Tryd.func100, Tryd.ntmps100
              go_wp2_with (first | ((with_reducible refine gate_callee (f := 62) rfl ?_); refine goD (some 11) rfl Tryd.func62 (dec_May.calls a0 true _ A3.out) ?_; intro nd) | (go_at_call 62; (with_reducible refine (dec_May.calls a1 true _ A5.out).mono ?_); rintro e w' ⟨rfl, ⟨nd, rfl⟩⟩; (try clear A5)) | (go_at_call 62; (with_reducible refine (dec_May.calls (wrap64 (a0 + a1)) true _ A7.out).mono ?_); rintro e w' ⟨rfl, ⟨nd, rfl⟩⟩; (try clear A7)))
              go_ret2
              exact fin0
          · rw [if_neg c18] at H
            have c18b0 : decide (a0 < 0) = false := decide_eq_false c18
            clear c18
            simp only [Option.some.injEq, Prod.mk.injEq] at H
            obtain ⟨rfl, rfl⟩ := H
            go_enter Tryd.func100, Tryd.ntmps100
            go_wp2_with (first | ((with_reducible refine gate_callee (f := 62) rfl ?_); refine goD (some 11) rfl Tryd.func62 (dec_May.calls a0 true _ A3.out) ?_; intro nd) | (go_at_call 62; (with_reducible refine (dec_May.calls a1 true _ A5.out).mono ?_); rintro e w' ⟨rfl, ⟨nd, rfl⟩⟩; (try clear A5)) | (go_at_call 62; (with_reducible refine (dec_May.calls (wrap64 (a0 + a1)) true _ A7.out).mono ?_); rintro e w' ⟨rfl, ⟨nd, rfl⟩⟩; (try clear A7)))
            go_ret2
            exact fin0
      · replace c8 := Bool.eq_false_iff.mpr c8
        subst c8
        rw [if_neg (show ¬ (false = true) by decide)] at H
        simp only [Option.some.injEq, Prod.mk.injEq] at H
        obtain ⟨rfl, rfl⟩ := H
        go_enter Tryd.func100, Tryd.ntmps100
        go_wp2_with (first | ((with_reducible refine gate_callee (f := 62) rfl ?_); refine goD (some 11) rfl Tryd.func62 (dec_May.calls a0 true _ A3.out) ?_; intro nd) | (go_at_call 62; (with_reducible refine (dec_May.calls a1 true _ A5.out).mono ?_); rintro e w' ⟨rfl, ⟨nd, rfl⟩⟩; (try clear A5)) | (go_at_call 62; (with_reducible refine (dec_May.calls (wrap64 (a0 + a1)) false _ A7.out).mono ?_); rintro e w' ⟨rfl, ⟨nd, rfl⟩⟩; (try clear A7)))
        go_ret2
        exact fin0
    · replace c6 := Bool.eq_false_iff.mpr c6
      subst c6
      rw [if_neg (show ¬ (false = true) by decide)] at H
      simp only [Option.some.injEq, Prod.mk.injEq] at H
      obtain ⟨rfl, rfl⟩ := H
      go_enter Tryd.func100, Tryd.ntmps100
      go_wp2_with (first | ((with_reducible refine gate_callee (f := 62) rfl ?_); refine goD (some 11) rfl Tryd.func62 (dec_May.calls a0 true _ A3.out) ?_; intro nd) | (go_at_call 62; (with_reducible refine (dec_May.calls a1 false _ A5.out).mono ?_); rintro e w' ⟨rfl, ⟨nd, rfl⟩⟩; (try clear A5)))
      go_ret2
      exact fin0
  · replace c4 := Bool.eq_false_iff.mpr c4
    subst c4
    rw [if_neg (show ¬ (false = true) by decide)] at H
    simp only [Option.some.injEq, Prod.mk.injEq] at H
    obtain ⟨rfl, rfl⟩ := H
    go_enter Tryd.func100, Tryd.ntmps100
    go_wp2_with (first | ((with_reducible refine gate_callee (f := 62) rfl ?_); refine goD (some 11) rfl Tryd.func62 (dec_May.calls a0 false _ A3.out) ?_; intro nd))
    go_ret2
    exact fin0
end Go.Proofs.YtcfhllbobapaiaaDoor.PA

namespace Go.Proofs.YtcfhllbobapaiaaDoor.PA
open Go.RowKit Go.Proofs.YtcfhllbobapaiaaDoorW.PrintWords Go.Proofs.YtcfhllbobapaiaaDoorW.PrintLast Go.Proofs.YtcfhllbobapaiaaDoorW.PrintMore
attribute [local go_sem] max2_int min2_int max_two min_two max_three min_three max_four min_four
set_option linter.unusedVariables false
set_option linter.unusedSimpArgs false
mutual
def digits_number.l0 : Nat → ByteArray → Int → Int → Int → Option (Int × Bool)
  | 0, _, _, _, _ => none
  | k + 1, x0, x4, x11, x12 => if x12 < x11 then (if 0 ≤ x12 then (if x12 < (x0.size : Int) then (if (bt x0 x12) < 48 then (digits_number.j1 k x0 x4 x12 x11 x12 true) else (digits_number.j1 k x0 x4 x12 x11 x12 (decide ((bt x0 x12) > 57)))) else (none)) else (none)) else (some (x4, (x0.toList != ([] : List UInt8))))
def digits_number.j1 : Nat → ByteArray → Int → Int → Int → Int → Bool → Option (Int × Bool)
  | 0, _, _, _, _, _, _ => none
  | k + 1, x0, x4, x5, x11, x12, x24 => if x24 = true then (some (0, false)) else ((dec_Scaled.f k x4 10 1).bind fun bt125 => (if 0 ≤ x5 then (if x5 < (x0.size : Int) then ((dec_Add.f bt125.1 (((bt x0 x5) - 48) % 256)).bind fun bt127 => (if bt125.2 = true then (if bt127.2 = true then (digits_number.l0 k x0 bt127.1 x11 (wrap64 (x12 + 1))) else (some (0, false))) else (some (0, false)))) else (none)) else (none)))
end
def digits_number.f (k : Nat) (a0 : ByteArray) : Option (Int × Bool) := digits_number.l0 k a0 0 (a0.size : Int) 0
theorem digits_number.mono_l : ∀ k, (∀ y0 y1 y2 y3, LeO (digits_number.l0 k y0 y1 y2 y3) (digits_number.l0 (k + 1) y0 y1 y2 y3)) ∧ (∀ y0 y1 y2 y3 y4 y5, LeO (digits_number.j1 k y0 y1 y2 y3 y4 y5) (digits_number.j1 (k + 1) y0 y1 y2 y3 y4 y5))
  | 0 => ⟨fun _ _ _ _ r h => by simp [digits_number.l0] at h, fun _ _ _ _ _ _ r h => by simp [digits_number.j1] at h⟩
  | k + 1 => by
    obtain ⟨ih0, ih1⟩ := digits_number.mono_l k
    refine ⟨?_, ?_⟩
    · intro y0 y1 y2 y3
      unfold digits_number.l0
      repeat' first
      | (with_reducible exact ih0 _ _ _ _)
      | (with_reducible exact ih1 _ _ _ _ _ _)
      | (with_reducible exact dec_Scaled.mono _ _ _ _)
      | (with_reducible exact LeO.refl _)
      | (with_reducible exact LeO.none _)
      | (with_reducible refine LeO.ite ?_ ?_)
      | (with_reducible refine LeO.bind ?_ (fun _ => ?_))
      | exact ih0 _ _ _ _
      | exact ih1 _ _ _ _ _ _
      | exact dec_Scaled.mono _ _ _ _
      | exact LeO.none _
      | refine LeO.ite ?_ ?_
      | refine LeO.bind ?_ (fun _ => ?_)
    · intro y0 y1 y2 y3 y4 y5
      unfold digits_number.j1
      repeat' first
      | (with_reducible exact ih0 _ _ _ _)
      | (with_reducible exact ih1 _ _ _ _ _ _)
      | (with_reducible exact dec_Scaled.mono _ _ _ _)
      | (with_reducible exact LeO.refl _)
      | (with_reducible exact LeO.none _)
      | (with_reducible refine LeO.ite ?_ ?_)
      | (with_reducible refine LeO.bind ?_ (fun _ => ?_))
      | exact ih0 _ _ _ _
      | exact ih1 _ _ _ _ _ _
      | exact dec_Scaled.mono _ _ _ _
      | exact LeO.none _
      | refine LeO.ite ?_ ?_
      | refine LeO.bind ?_ (fun _ => ?_)
theorem digits_number.mono : ∀ a0 k, LeO (digits_number.f k a0) (digits_number.f (k + 1) a0) := by
  intro a0 k
  obtain ⟨ih0, ih1⟩ := digits_number.mono_l k
  unfold digits_number.f
  repeat' first
      | (with_reducible exact ih0 _ _ _ _)
      | (with_reducible exact ih1 _ _ _ _ _ _)
      | (with_reducible exact dec_Scaled.mono _ _ _ _)
      | (with_reducible exact LeO.refl _)
      | (with_reducible exact LeO.none _)
      | (with_reducible refine LeO.ite ?_ ?_)
      | (with_reducible refine LeO.bind ?_ (fun _ => ?_))
      | exact ih0 _ _ _ _
      | exact ih1 _ _ _ _ _ _
      | exact dec_Scaled.mono _ _ _ _
      | exact LeO.none _
      | refine LeO.ite ?_ ?_
      | refine LeO.bind ?_ (fun _ => ?_)
set_option maxHeartbeats 8000000 in
set_option maxRecDepth 100000 in
theorem digits_number.calls (k : Nat) (a0 : ByteArray) (r1 : Int) (r2 : Bool) (w : World) (h : digits_number.f k a0 = some (r1, r2)) :
    Calls Tryd.prog 68 #[.string a0] w fun e w' => e = .returned (.tuple #[.int .i64 r1, .bool r2]) ∧ Drawn0 w w' := by
  have H := h
  (try unfold digits_number.f at H)
  clear h
  have H' := Aside0.mk H
  clear H
  go_enter Tryd.func68, Tryd.ntmps68
  go_wp2
  go_loopg [4, 12] k (fun kq v4 v12 w' => ∃ (x4_1 : Int) (x12_1 : Int), v4 = .int .i64 x4_1 ∧ v12 = .int .i64 x12_1 ∧ Aside0 (digits_number.l0 kq a0 x4_1 (a0.size : Int) x12_1 = some (r1, r2)) ∧ Aside0 (kq ≤ k) ∧ Drawn0 w w')
  case atStart => exact ⟨(0), (0), eqv, eqv, H', ⟨Nat.le_refl _⟩, drv⟩
  case round =>
    clear H'
    obtain ⟨x4_1, x12_1, rfl, rfl, HA, HK1, ⟨m1, rfl⟩⟩ := hrel
    cases gk with
    | zero => exact absurd HA.out (by simp [digits_number.l0])
    | succ k1 =>
      have H := HA.out
      clear HA
      simp only [digits_number.l0] at H
      by_cases c2 : x12_1 < (a0.size : Int)
      · rw [if_pos c2] at H
        have c2b0 : decide (x12_1 < (a0.size : Int)) = true := decide_eq_true c2
        clear c2
        have HC3 := Aside0.mk H
        clear H
        go_upto_region 5 with (fail)
        go_cut [24] (fun v24 wc => ∃ (kq : Nat) (x24_2 : Bool), v24 = .bool x24_2 ∧ Aside0 (digits_number.j1 kq a0 x4_1 x12_1 (a0.size : Int) x12_1 x24_2 = some (r1, r2)) ∧ Aside0 (kq ≤ k1) ∧ Drawn0 w wc)
        case first =>
          have H := HC3.out
          clear HC3
          by_cases c4 : 0 ≤ x12_1
          · rw [if_pos c4] at H
            have c4b0 : decide (0 ≤ x12_1) = true := decide_eq_true c4
            clear c4
            (first | rw [c4b0] | (simp only [i64_w, i32_w]; rw [c4b0]) | skip)
            by_cases c5 : x12_1 < (a0.size : Int)
            · rw [if_pos c5] at H
              have c5b0 : decide (x12_1 < (a0.size : Int)) = true := decide_eq_true c5
              clear c5
              by_cases c7 : (bt a0 x12_1) < 48
              · rw [if_pos c7] at H
                have c7b0 : decide ((bt a0 x12_1) < 48) = true := decide_eq_true c7
                clear c7
                have H' := Aside0.mk H
                clear H
                have p6 : 0 ≤ (x12_1 : Int) := of_decide_eq_true (by first | (with_reducible assumption) | assumption)
                have q6 : x12_1 < (a0.size : Int) := of_decide_eq_true (by first | (with_reducible assumption) | assumption)
                have hx6 := bt_at a0 x12_1
                replace p6 := eq_true p6
                replace q6 := eq_true q6
                go_wp2
                go_meet
                case rel => exact ⟨_, (true), eqv, H', ⟨by have := HK1.out; first | omega | exact Nat.le_refl _⟩, drv⟩
              · rw [if_neg c7] at H
                have c7b0 : decide ((bt a0 x12_1) < 48) = false := decide_eq_false c7
                clear c7
                have H' := Aside0.mk H
                clear H
                have p6 : 0 ≤ (x12_1 : Int) := of_decide_eq_true (by first | (with_reducible assumption) | assumption)
                have q6 : x12_1 < (a0.size : Int) := of_decide_eq_true (by first | (with_reducible assumption) | assumption)
                have hx6 := bt_at a0 x12_1
                replace p6 := eq_true p6
                replace q6 := eq_true q6
                have p8 : 0 ≤ (x12_1 : Int) := of_decide_eq_true (by first | (with_reducible assumption) | assumption)
                have q8 : x12_1 < (a0.size : Int) := of_decide_eq_true (by first | (with_reducible assumption) | assumption)
                have hx8 := bt_at a0 x12_1
                replace p8 := eq_true p8
                replace q8 := eq_true q8
                go_wp2
                go_meet
                case rel => exact ⟨_, (decide ((bt a0 x12_1) > 57)), eqv, H', ⟨by have := HK1.out; first | omega | exact Nat.le_refl _⟩, drv⟩
            · rw [if_neg c5] at H
              exact absurd H (by simp)
          · rw [if_neg c4] at H
            exact absurd H (by simp)
        case rest =>
          clear HC3
          try clear c2
          try clear c2b0
          try clear p2
          try clear c4
          try clear c4b0
          try clear c5
          try clear c5b0
          try clear c6
          try clear p6
          try clear q6
          try clear hx6
          try clear c7
          try clear c7b0
          try clear p8
          try clear q8
          try clear hx8
          try clear p6
          try clear p8
          try clear q6
          try clear q8
          obtain ⟨kq, x24_2, rfl, HA, HJ2, ⟨mc2, rfl⟩⟩ := hcut
          cases kq with
          | zero => exact absurd HA.out (by simp [digits_number.j1])
          | succ kj2 =>
            have H := HA.out
            clear HA
            simp only [digits_number.j1] at H
            by_cases c9 : x24_2 = true
            · subst c9
              rw [if_pos rfl] at H
              simp only [Option.some.injEq, Prod.mk.injEq] at H
              obtain ⟨rfl, rfl⟩ := H
              go_wp2
              go_ret2
              exact fin0
            · replace c9 := Bool.eq_false_iff.mpr c9
              subst c9
              rw [if_neg (show ¬ (false = true) by decide)] at H
              replace H := Option.bind_eq_some_iff.mp H
              obtain ⟨⟨t125, t126⟩, A100, H⟩ := H
              (try dsimp only at H)
              have A10 := Aside0.mk A100
              clear A100
              by_cases c11 : 0 ≤ x12_1
              · rw [if_pos c11] at H
                have c11b0 : decide (0 ≤ x12_1) = true := decide_eq_true c11
                clear c11
                by_cases c12 : x12_1 < (a0.size : Int)
                · rw [if_pos c12] at H
                  have c12b0 : decide (x12_1 < (a0.size : Int)) = true := decide_eq_true c12
                  clear c12
                  replace H := Option.bind_eq_some_iff.mp H
                  obtain ⟨⟨t127, t128⟩, A140, H⟩ := H
                  (try dsimp only at H)
                  have A14 := Aside0.mk A140
                  clear A140
                  by_cases c15 : t126 = true
                  · subst c15
                    rw [if_pos rfl] at H
                    by_cases c16 : t128 = true
                    · subst c16
                      rw [if_pos rfl] at H
                      have H' := Aside0.mk H
                      clear H
                      go_wp2_with (first | ((with_reducible refine gate_callee (f := 93) rfl ?_); refine goesL_ (some 27) rfl rfl Tryd.func93 (by kernel_rfl) rfl #[.int .i64 x4_1, .int .i64 10, .int .i64 1] rfl (by (try simp only [List.map_toArray, List.map_cons, List.map_nil]); first | done | rfl | (simp only [List.length_drop, List.length_take]; rfl)) ?_; (with_reducible refine (dec_Scaled.calls kj2 x4_1 10 1 t125 true _ A10.out).mono ?_); rintro e w' ⟨rfl, ⟨nd, rfl⟩⟩; refine ⟨_, rfl, ?_⟩; have p13 : 0 ≤ (x12_1 : Int) := of_decide_eq_true (by first | (with_reducible assumption) | assumption); have q13 : x12_1 < (a0.size : Int) := of_decide_eq_true (by first | (with_reducible assumption) | assumption); have hx13 := bt_at a0 x12_1; replace p13 := eq_true p13; replace q13 := eq_true q13) | ((with_reducible refine gate_callee (f := 100) rfl ?_); refine goD (some 37) rfl Tryd.func100 (dec_Add.calls t125 (((bt a0 x12_1) - 48) % 256) t127 true _ A14.out) ?_; intro nd))
                      go_roundg kj2
                      case measure => have := HK1.out; have := HJ2.out; omega
                      case rel => exact ⟨(t127), (wrap64 (x12_1 + 1)), eqv, eqv, H', ⟨by have := HK1.out; have := HJ2.out; omega⟩, drv⟩
                    · replace c16 := Bool.eq_false_iff.mpr c16
                      subst c16
                      rw [if_neg (show ¬ (false = true) by decide)] at H
                      simp only [Option.some.injEq, Prod.mk.injEq] at H
                      obtain ⟨rfl, rfl⟩ := H
                      go_wp2_with (first | ((with_reducible refine gate_callee (f := 93) rfl ?_); refine goesL_ (some 27) rfl rfl Tryd.func93 (by kernel_rfl) rfl #[.int .i64 x4_1, .int .i64 10, .int .i64 1] rfl (by (try simp only [List.map_toArray, List.map_cons, List.map_nil]); first | done | rfl | (simp only [List.length_drop, List.length_take]; rfl)) ?_; (with_reducible refine (dec_Scaled.calls kj2 x4_1 10 1 t125 true _ A10.out).mono ?_); rintro e w' ⟨rfl, ⟨nd, rfl⟩⟩; refine ⟨_, rfl, ?_⟩; have p13 : 0 ≤ (x12_1 : Int) := of_decide_eq_true (by first | (with_reducible assumption) | assumption); have q13 : x12_1 < (a0.size : Int) := of_decide_eq_true (by first | (with_reducible assumption) | assumption); have hx13 := bt_at a0 x12_1; replace p13 := eq_true p13; replace q13 := eq_true q13) | ((with_reducible refine gate_callee (f := 100) rfl ?_); refine goD (some 37) rfl Tryd.func100 (dec_Add.calls t125 (((bt a0 x12_1) - 48) % 256) t127 false _ A14.out) ?_; intro nd))
                      go_ret2
                      exact fin0
                  · replace c15 := Bool.eq_false_iff.mpr c15
                    subst c15
                    rw [if_neg (show ¬ (false = true) by decide)] at H
                    simp only [Option.some.injEq, Prod.mk.injEq] at H
                    obtain ⟨rfl, rfl⟩ := H
                    go_wp2_with (first | ((with_reducible refine gate_callee (f := 93) rfl ?_); refine goesL_ (some 27) rfl rfl Tryd.func93 (by kernel_rfl) rfl #[.int .i64 x4_1, .int .i64 10, .int .i64 1] rfl (by (try simp only [List.map_toArray, List.map_cons, List.map_nil]); first | done | rfl | (simp only [List.length_drop, List.length_take]; rfl)) ?_; (with_reducible refine (dec_Scaled.calls kj2 x4_1 10 1 t125 false _ A10.out).mono ?_); rintro e w' ⟨rfl, ⟨nd, rfl⟩⟩; refine ⟨_, rfl, ?_⟩; have p13 : 0 ≤ (x12_1 : Int) := of_decide_eq_true (by first | (with_reducible assumption) | assumption); have q13 : x12_1 < (a0.size : Int) := of_decide_eq_true (by first | (with_reducible assumption) | assumption); have hx13 := bt_at a0 x12_1; replace p13 := eq_true p13; replace q13 := eq_true q13) | ((with_reducible refine gate_callee (f := 100) rfl ?_); refine goD (some 37) rfl Tryd.func100 (dec_Add.calls t125 (((bt a0 x12_1) - 48) % 256) t127 t128 _ A14.out) ?_; intro nd))
                    go_ret2
                    exact fin0
                · rw [if_neg c12] at H
                  exact absurd H (by simp)
              · rw [if_neg c11] at H
                exact absurd H (by simp)
      · rw [if_neg c2] at H
        have c2b0 : decide (x12_1 < (a0.size : Int)) = false := decide_eq_false c2
        clear c2
        simp only [Option.some.injEq, Prod.mk.injEq] at H
        obtain ⟨rfl, rfl⟩ := H
        go_wp2
        go_ret2
        exact fin0
def dec_Of.f (k : Nat) (a0 : Int) : Option (Int × Bool) := (dec_Scaled.f k a0 10000 1).bind fun bt129 => (some (bt129.1, bt129.2))
theorem dec_Of.mono : ∀ a0 k, LeO (dec_Of.f k a0) (dec_Of.f (k + 1) a0) := by
  intro a0 k
  unfold dec_Of.f
  repeat' first
      | (with_reducible exact dec_Scaled.mono _ _ _ _)
      | (with_reducible exact LeO.refl _)
      | (with_reducible exact LeO.none _)
      | (with_reducible refine LeO.ite ?_ ?_)
      | (with_reducible refine LeO.bind ?_ (fun _ => ?_))
      | exact dec_Scaled.mono _ _ _ _
      | exact LeO.none _
      | refine LeO.ite ?_ ?_
      | refine LeO.bind ?_ (fun _ => ?_)
set_option maxHeartbeats 8000000 in
set_option maxRecDepth 100000 in
theorem dec_Of.calls (k : Nat) (a0 : Int) (r1 : Int) (r2 : Bool) (w : World) (h : dec_Of.f k a0 = some (r1, r2)) :
    Calls Tryd.prog 129 #[.int .i64 a0] w fun e w' => e = .returned (.tuple #[.int .i64 r1, .bool r2]) ∧ Drawn0 w w' := by
  have H := h
  (try unfold dec_Of.f at H)
  clear h
  replace H := Option.bind_eq_some_iff.mp H
  obtain ⟨⟨t129, t130⟩, A20, H⟩ := H
  (try dsimp only at H)
  have A2 := Aside0.mk A20
  clear A20
  simp only [Option.some.injEq, Prod.mk.injEq] at H
  obtain ⟨rfl, rfl⟩ := H
  go_enter Tryd.func129, Tryd.ntmps129
  go_wp2_with (first | ((with_reducible refine gate_callee (f := 93) rfl ?_); refine goD (some 5) rfl Tryd.func93 (dec_Scaled.calls k a0 10000 1 t129 t130 _ A2.out) ?_; intro nd))
  go_ret2
  exact fin0
def dec_Neg.f (a0 : Int) : Option (Int × Bool) := (dec_May.f a0).bind fun t131 => (if t131 = true then (some (wrap64 (-a0), true)) else (some (0, false)))
set_option maxHeartbeats 8000000 in
set_option maxRecDepth 100000 in
theorem dec_Neg.calls (a0 : Int) (r1 : Int) (r2 : Bool) (w : World) (h : dec_Neg.f a0 = some (r1, r2)) :
    Calls Tryd.prog 130 #[.int .i64 a0] w fun e w' => e = .returned (.tuple #[.int .i64 r1, .bool r2]) ∧ Drawn0 w w' := by
  have H := h
  (try unfold dec_Neg.f at H)
  clear h
  replace H := Option.bind_eq_some_iff.mp H
  obtain ⟨t131, A20, H⟩ := H
  (try dsimp only at H)
  have A2 := Aside0.mk A20
  clear A20
  by_cases c3 : t131 = true
  · subst c3
    rw [if_pos rfl] at H
    simp only [Option.some.injEq, Prod.mk.injEq] at H
    obtain ⟨rfl, rfl⟩ := H
    go_enter Tryd.func130, Tryd.ntmps130
    go_wp2_with (first | ((with_reducible refine gate_callee (f := 62) rfl ?_); refine goD (some 5) rfl Tryd.func62 (dec_May.calls a0 true _ A2.out) ?_; intro nd))
    go_ret2
    exact fin0
  · replace c3 := Bool.eq_false_iff.mpr c3
    subst c3
    rw [if_neg (show ¬ (false = true) by decide)] at H
    simp only [Option.some.injEq, Prod.mk.injEq] at H
    obtain ⟨rfl, rfl⟩ := H
    go_enter Tryd.func130, Tryd.ntmps130
    go_wp2_with (first | ((with_reducible refine gate_callee (f := 62) rfl ?_); refine goD (some 5) rfl Tryd.func62 (dec_May.calls a0 false _ A2.out) ?_; intro nd))
    go_ret2
    exact fin0
end Go.Proofs.YtcfhllbobapaiaaDoor.PA

namespace Go.Proofs.YtcfhllbobapaiaaDoor.PA
open Go.RowKit Go.Proofs.YtcfhllbobapaiaaDoorW.PrintWords Go.Proofs.YtcfhllbobapaiaaDoorW.PrintLast Go.Proofs.YtcfhllbobapaiaaDoorW.PrintMore
attribute [local go_sem] max2_int min2_int max_two min_two max_three min_three max_four min_four
set_option linter.unusedVariables false
set_option linter.unusedSimpArgs false
def digits_put.j0 : Nat → Bool → Int → Bool → Option (Int × Bool)
  | 0, _, _, _ => none
  | k + 1, x2, x10, x28 => if x28 = true then (some (0, false)) else (if x2 = true then ((dec_Neg.f x10).bind fun bt136 => (some (bt136.1, bt136.2))) else (some (x10, true)))
def digits_put.f (k : Nat) (a0 : Int) (a1 : Int) (a2 : Bool) : Option (Int × Bool) := (dec_Of.f k a0).bind fun bt132 => ((dec_Add.f bt132.1 a1).bind fun bt134 => (if bt132.2 = true then (digits_put.j0 k a2 bt134.1 (!bt134.2)) else (digits_put.j0 k a2 bt134.1 true)))
theorem digits_put.mono_l : ∀ k, (∀ y0 y1 y2, LeO (digits_put.j0 k y0 y1 y2) (digits_put.j0 (k + 1) y0 y1 y2))
  | 0 => fun _ _ _ r h => by simp [digits_put.j0] at h
  | k + 1 => by
    have ih0 := digits_put.mono_l k
    · intro y0 y1 y2
      unfold digits_put.j0
      repeat' first
      | (with_reducible exact ih0 _ _ _)
      | (with_reducible exact dec_Of.mono _ _)
      | (with_reducible exact LeO.refl _)
      | (with_reducible exact LeO.none _)
      | (with_reducible refine LeO.ite ?_ ?_)
      | (with_reducible refine LeO.bind ?_ (fun _ => ?_))
      | exact ih0 _ _ _
      | exact dec_Of.mono _ _
      | exact LeO.none _
      | refine LeO.ite ?_ ?_
      | refine LeO.bind ?_ (fun _ => ?_)
theorem digits_put.mono : ∀ a0 a1 a2 k, LeO (digits_put.f k a0 a1 a2) (digits_put.f (k + 1) a0 a1 a2) := by
  intro a0 a1 a2 k
  have ih0 := digits_put.mono_l k
  unfold digits_put.f
  repeat' first
      | (with_reducible exact ih0 _ _ _)
      | (with_reducible exact dec_Of.mono _ _)
      | (with_reducible exact LeO.refl _)
      | (with_reducible exact LeO.none _)
      | (with_reducible refine LeO.ite ?_ ?_)
      | (with_reducible refine LeO.bind ?_ (fun _ => ?_))
      | exact ih0 _ _ _
      | exact dec_Of.mono _ _
      | exact LeO.none _
      | refine LeO.ite ?_ ?_
      | refine LeO.bind ?_ (fun _ => ?_)
set_option maxHeartbeats 8000000 in
set_option maxRecDepth 100000 in
theorem digits_put.calls (k : Nat) (a0 : Int) (a1 : Int) (a2 : Bool) (r1 : Int) (r2 : Bool) (w : World) (h : digits_put.f k a0 a1 a2 = some (r1, r2)) :
    Calls Tryd.prog 69 #[.int .i64 a0, .int .i64 a1, .bool a2] w fun e w' => e = .returned (.tuple #[.int .i64 r1, .bool r2]) ∧ Drawn0 w w' := by
  have H := h
  (try unfold digits_put.f at H)
  clear h
  replace H := Option.bind_eq_some_iff.mp H
  obtain ⟨⟨t132, t133⟩, A40, H⟩ := H
  (try dsimp only at H)
  have A4 := Aside0.mk A40
  clear A40
  replace H := Option.bind_eq_some_iff.mp H
  obtain ⟨⟨t134, t135⟩, A50, H⟩ := H
  (try dsimp only at H)
  have A5 := Aside0.mk A50
  clear A50
  have HC6 := Aside0.mk H
  clear H
  go_enter Tryd.func69, Tryd.ntmps69
  go_upto_region 3 with (first | ((with_reducible refine gate_callee (f := 129) rfl ?_); refine goD (some 14) rfl Tryd.func129 (dec_Of.calls k a0 t132 t133 _ A4.out) ?_; intro nd) | ((with_reducible refine gate_callee (f := 100) rfl ?_); refine goD (some 20) rfl Tryd.func100 (dec_Add.calls t132 a1 t134 t135 _ A5.out) ?_; intro nd))
  (try simp only [Act.put, List.setIfInBounds_toArray, List.set_cons_zero, List.set_cons_succ])
  go_cut [28] (fun v28 wc => ∃ (kq : Nat) (x28_5 : Bool), v28 = .bool x28_5 ∧ Aside0 (digits_put.j0 kq a2 t134 x28_5 = some (r1, r2)) ∧ Aside0 (kq ≤ k) ∧ Drawn0 w wc)
  case first =>
    have H := HC6.out
    clear HC6
    by_cases c7 : t133 = true
    · subst c7
      rw [if_pos rfl] at H
      have H' := Aside0.mk H
      clear H
      go_wp2
      go_meet
      case rel => exact ⟨_, (!t135), eqv, H', lev, drv⟩
    · replace c7 := Bool.eq_false_iff.mpr c7
      subst c7
      rw [if_neg (show ¬ (false = true) by decide)] at H
      have H' := Aside0.mk H
      clear H
      go_wp2
      go_meet
      case rel => exact ⟨_, (true), eqv, H', lev, drv⟩
  case rest =>
    clear HC6
    try clear c1
    try clear p2
    try clear c6
    try clear c7
    obtain ⟨kq, x28_5, rfl, HA, HJ5, ⟨mc5, rfl⟩⟩ := hcut
    cases kq with
    | zero => exact absurd HA.out (by simp [digits_put.j0])
    | succ kj5 =>
      have H := HA.out
      clear HA
      simp only [digits_put.j0] at H
      by_cases c8 : x28_5 = true
      · subst c8
        rw [if_pos rfl] at H
        simp only [Option.some.injEq, Prod.mk.injEq] at H
        obtain ⟨rfl, rfl⟩ := H
        go_wp2
        go_ret2
        exact fin0
      · replace c8 := Bool.eq_false_iff.mpr c8
        subst c8
        rw [if_neg (show ¬ (false = true) by decide)] at H
        by_cases c9 : a2 = true
        · subst c9
          rw [if_pos rfl] at H
          replace H := Option.bind_eq_some_iff.mp H
          obtain ⟨⟨t136, t137⟩, A100, H⟩ := H
          (try dsimp only at H)
          have A10 := Aside0.mk A100
          clear A100
          simp only [Option.some.injEq, Prod.mk.injEq] at H
          obtain ⟨rfl, rfl⟩ := H
          go_wp2_with (first | ((with_reducible refine gate_callee (f := 130) rfl ?_); refine goD (some 31) rfl Tryd.func130 (dec_Neg.calls t134 t136 t137 _ A10.out) ?_; intro nd))
          go_ret2
          exact fin0
        · replace c9 := Bool.eq_false_iff.mpr c9
          subst c9
          rw [if_neg (show ¬ (false = true) by decide)] at H
          simp only [Option.some.injEq, Prod.mk.injEq] at H
          obtain ⟨rfl, rfl⟩ := H
          go_wp2
          go_ret2
          exact fin0
end Go.Proofs.YtcfhllbobapaiaaDoor.PA

namespace Go.Proofs.YtcfhllbobapaiaaDoor.PA
open Go.RowKit Go.Proofs.YtcfhllbobapaiaaDoorW.PrintWords Go.Proofs.YtcfhllbobapaiaaDoorW.PrintLast Go.Proofs.YtcfhllbobapaiaaDoorW.PrintMore
attribute [local go_sem] max2_int min2_int max_two min_two max_three min_three max_four min_four
set_option linter.unusedVariables false
set_option linter.unusedSimpArgs false
mutual
def digits_Read.j0 : Nat → Bool → ByteArray → Int → Int → Bool → Option (Int × Bool)
  | 0, _, _, _, _, _ => none
  | k + 1, x5, x7, x9, x11, x50 => if x50 = true then (some (0, false)) else (digits_Read.l0 k x5 x9 x11 (wrap64 (4 - (x7.size : Int))) 0)
def digits_Read.l0 : Nat → Bool → Int → Int → Int → Int → Option (Int × Bool)
  | 0, _, _, _, _, _ => none
  | k + 1, x5, x9, x11, x53, x54 => if x54 < x53 then (digits_Read.l0 k x5 x9 (wrap64 (x11 * 10)) x53 (wrap64 (x54 + 1))) else ((digits_put.f k x9 x11 x5).bind fun bt147 => (some (bt147.1, bt147.2)))
end
def digits_Read.f (k : Nat) (a0 : ByteArray) : Option (Int × Bool) := (strings_CutPrefix.f a0 (⟨#[45]⟩ : ByteArray)).bind fun bt138 => (if (a0.size : Int) > 40 then (some (0, false)) else ((strings_Cut.f bt138.1 (⟨#[46]⟩ : ByteArray)).bind fun bt140 => ((digits_number.f k bt140.1).bind fun bt143 => ((digits_number.f k bt140.2.1).bind fun bt145 => (if bt143.2 = true then (if bt140.2.2 = true then (if bt145.2 = true then (digits_Read.j0 k bt138.2 bt140.2.1 bt143.1 bt145.1 (decide ((bt140.2.1.size : Int) > 4))) else (digits_Read.j0 k bt138.2 bt140.2.1 bt143.1 bt145.1 true)) else (digits_Read.j0 k bt138.2 bt140.2.1 bt143.1 bt145.1 false)) else (digits_Read.j0 k bt138.2 bt140.2.1 bt143.1 bt145.1 true))))))
theorem digits_Read.mono_l : ∀ k, (∀ y0 y1 y2 y3 y4, LeO (digits_Read.j0 k y0 y1 y2 y3 y4) (digits_Read.j0 (k + 1) y0 y1 y2 y3 y4)) ∧ (∀ y0 y1 y2 y3 y4, LeO (digits_Read.l0 k y0 y1 y2 y3 y4) (digits_Read.l0 (k + 1) y0 y1 y2 y3 y4))
  | 0 => ⟨fun _ _ _ _ _ r h => by simp [digits_Read.j0] at h, fun _ _ _ _ _ r h => by simp [digits_Read.l0] at h⟩
  | k + 1 => by
    obtain ⟨ih0, ih1⟩ := digits_Read.mono_l k
    refine ⟨?_, ?_⟩
    · intro y0 y1 y2 y3 y4
      unfold digits_Read.j0
      repeat' first
      | (with_reducible exact ih0 _ _ _ _ _)
      | (with_reducible exact ih1 _ _ _ _ _)
      | (with_reducible exact digits_number.mono _ _)
      | (with_reducible exact digits_put.mono _ _ _ _)
      | (with_reducible exact LeO.refl _)
      | (with_reducible exact LeO.none _)
      | (with_reducible refine LeO.ite ?_ ?_)
      | (with_reducible refine LeO.bind ?_ (fun _ => ?_))
      | exact ih0 _ _ _ _ _
      | exact ih1 _ _ _ _ _
      | exact digits_number.mono _ _
      | exact digits_put.mono _ _ _ _
      | exact LeO.none _
      | refine LeO.ite ?_ ?_
      | refine LeO.bind ?_ (fun _ => ?_)
    · intro y0 y1 y2 y3 y4
      unfold digits_Read.l0
      repeat' first
      | (with_reducible exact ih0 _ _ _ _ _)
      | (with_reducible exact ih1 _ _ _ _ _)
      | (with_reducible exact digits_number.mono _ _)
      | (with_reducible exact digits_put.mono _ _ _ _)
      | (with_reducible exact LeO.refl _)
      | (with_reducible exact LeO.none _)
      | (with_reducible refine LeO.ite ?_ ?_)
      | (with_reducible refine LeO.bind ?_ (fun _ => ?_))
      | exact ih0 _ _ _ _ _
      | exact ih1 _ _ _ _ _
      | exact digits_number.mono _ _
      | exact digits_put.mono _ _ _ _
      | exact LeO.none _
      | refine LeO.ite ?_ ?_
      | refine LeO.bind ?_ (fun _ => ?_)
theorem digits_Read.mono : ∀ a0 k, LeO (digits_Read.f k a0) (digits_Read.f (k + 1) a0) := by
  intro a0 k
  obtain ⟨ih0, ih1⟩ := digits_Read.mono_l k
  unfold digits_Read.f
  repeat' first
      | (with_reducible exact ih0 _ _ _ _ _)
      | (with_reducible exact ih1 _ _ _ _ _)
      | (with_reducible exact digits_number.mono _ _)
      | (with_reducible exact digits_put.mono _ _ _ _)
      | (with_reducible exact LeO.refl _)
      | (with_reducible exact LeO.none _)
      | (with_reducible refine LeO.ite ?_ ?_)
      | (with_reducible refine LeO.bind ?_ (fun _ => ?_))
      | exact ih0 _ _ _ _ _
      | exact ih1 _ _ _ _ _
      | exact digits_number.mono _ _
      | exact digits_put.mono _ _ _ _
      | exact LeO.none _
      | refine LeO.ite ?_ ?_
      | refine LeO.bind ?_ (fun _ => ?_)
set_option maxHeartbeats 8000000 in
set_option maxRecDepth 100000 in
theorem digits_Read.calls (k : Nat) (a0 : ByteArray) (r1 : Int) (r2 : Bool) (w : World) (hT_ : Go.Proofs.YtcfhllbobapaiaaDoorW.XTabs.Tabs w) (h : digits_Read.f k a0 = some (r1, r2)) :
    Calls Tryd.prog 17 #[.string a0] w fun e w' => e = .returned (.tuple #[.int .i64 r1, .bool r2]) ∧ Drawn0 w w' := by
  have H := h
  (try unfold digits_Read.f at H)
  clear h
  replace H := Option.bind_eq_some_iff.mp H
  obtain ⟨⟨t138, t139⟩, A20, H⟩ := H
  (try dsimp only at H)
  have A2 := Aside0.mk A20
  clear A20
  by_cases c3 : (a0.size : Int) > 40
  · rw [if_pos c3] at H
    have c3b0 : decide (40 < (a0.size : Int)) = true := decide_eq_true c3
    have c3b1 : decide (40 < a0.size) = true := decide_eq_true (by omega)
    clear c3
    simp only [Option.some.injEq, Prod.mk.injEq] at H
    obtain ⟨rfl, rfl⟩ := H
    go_enter Tryd.func17, Tryd.ntmps17
    go_wp2_with (first | ((with_reducible refine gate_callee (f := 66) rfl ?_); refine goD (some 15) rfl Tryd.func66 (strings_CutPrefix.calls a0 (⟨#[45]⟩ : ByteArray) t138 t139 _ A2.out) ?_; intro nd))
    go_ret2
    exact fin0
  · rw [if_neg c3] at H
    have c3b0 : decide (40 < (a0.size : Int)) = false := decide_eq_false c3
    have c3b1 : decide (40 < a0.size) = false := decide_eq_false (by omega)
    clear c3
    replace H := Option.bind_eq_some_iff.mp H
    obtain ⟨⟨t140, t141, t142⟩, A40, H⟩ := H
    (try dsimp only at H)
    have A4 := Aside0.mk A40
    clear A40
    replace H := Option.bind_eq_some_iff.mp H
    obtain ⟨⟨t143, t144⟩, A50, H⟩ := H
    (try dsimp only at H)
    have A5 := Aside0.mk A50
    clear A50
    replace H := Option.bind_eq_some_iff.mp H
    obtain ⟨⟨t145, t146⟩, A60, H⟩ := H
    (try dsimp only at H)
    have A6 := Aside0.mk A60
    clear A60
    have HC7 := Aside0.mk H
    clear H
    go_enter Tryd.func17, Tryd.ntmps17
    go_upto_region 7 with (first | ((with_reducible refine gate_callee (f := 66) rfl ?_); refine goD (some 15) rfl Tryd.func66 (strings_CutPrefix.calls a0 (⟨#[45]⟩ : ByteArray) t138 t139 _ A2.out) ?_; intro nd) | ((with_reducible refine gate_callee (f := 67) rfl ?_); refine goD (some 23) rfl Tryd.func67 (strings_Cut.calls (hT_ := by repeat (first | exact hT_ | (with_reducible apply Go.Proofs.YtcfhllbobapaiaaDoorW.XTabs.Tabs.drewN) | (with_reducible apply Go.Proofs.YtcfhllbobapaiaaDoorW.XTabs.Tabs.drew) | (with_reducible apply Go.Proofs.YtcfhllbobapaiaaDoorW.XTabs.Tabs.alloc) | exact Go.Proofs.YtcfhllbobapaiaaDoorW.XTabs.Tabs.below hT_ (by repeat (first | (with_reducible first | exact HB.out | apply below_alloc | apply pw_below_drewN | apply below_drew1) | exact HB.out | refine below_set ?_ (Aside0.out (by assumption)))))) t138 (⟨#[46]⟩ : ByteArray) t140 t141 t142 _ A4.out) ?_; intro nd) | ((with_reducible refine gate_callee (f := 68) rfl ?_); refine goD (some 29) rfl Tryd.func68 (digits_number.calls k t140 t143 t144 _ A5.out) ?_; intro nd) | ((with_reducible refine gate_callee (f := 68) rfl ?_); refine goD (some 34) rfl Tryd.func68 (digits_number.calls k t141 t145 t146 _ A6.out) ?_; intro nd))
    (try simp only [Act.put, List.setIfInBounds_toArray, List.set_cons_zero, List.set_cons_succ])
    go_cut [50] (fun v50 wc => ∃ (kq : Nat) (x50_6 : Bool), v50 = .bool x50_6 ∧ Aside0 (digits_Read.j0 kq t139 t141 t143 t145 x50_6 = some (r1, r2)) ∧ Aside0 (kq ≤ k) ∧ Drawn0 w wc)
    case first =>
      have H := HC7.out
      clear HC7
      by_cases c8 : t144 = true
      · subst c8
        rw [if_pos rfl] at H
        by_cases c9 : t142 = true
        · subst c9
          rw [if_pos rfl] at H
          by_cases c10 : t146 = true
          · subst c10
            rw [if_pos rfl] at H
            have H' := Aside0.mk H
            clear H
            go_wp2
            go_meet
            case rel => exact ⟨_, (decide ((t141.size : Int) > 4)), eqv, H', lev, drv⟩
          · replace c10 := Bool.eq_false_iff.mpr c10
            subst c10
            rw [if_neg (show ¬ (false = true) by decide)] at H
            have H' := Aside0.mk H
            clear H
            go_wp2
            go_meet
            case rel => exact ⟨_, (true), eqv, H', lev, drv⟩
        · replace c9 := Bool.eq_false_iff.mpr c9
          subst c9
          rw [if_neg (show ¬ (false = true) by decide)] at H
          have H' := Aside0.mk H
          clear H
          go_wp2
          go_meet
          case rel => exact ⟨_, (false), eqv, H', lev, drv⟩
      · replace c8 := Bool.eq_false_iff.mpr c8
        subst c8
        rw [if_neg (show ¬ (false = true) by decide)] at H
        have H' := Aside0.mk H
        clear H
        go_wp2
        go_meet
        case rel => exact ⟨_, (true), eqv, H', lev, drv⟩
    case rest =>
      clear HC7
      try clear c1
      try clear p2
      try clear c3
      try clear c3b0
      try clear c3b1
      try clear c6
      try clear c8
      try clear c9
      try clear c10
      obtain ⟨kq, x50_6, rfl, HA, HJ6, ⟨mc6, rfl⟩⟩ := hcut
      cases kq with
      | zero => exact absurd HA.out (by simp [digits_Read.j0])
      | succ kj6 =>
        have H := HA.out
        clear HA
        simp only [digits_Read.j0] at H
        by_cases c11 : x50_6 = true
        · subst c11
          rw [if_pos rfl] at H
          simp only [Option.some.injEq, Prod.mk.injEq] at H
          obtain ⟨rfl, rfl⟩ := H
          go_wp2
          go_ret2
          exact fin0
        · replace c11 := Bool.eq_false_iff.mpr c11
          subst c11
          rw [if_neg (show ¬ (false = true) by decide)] at H
          have H' := Aside0.mk H
          clear H
          go_wp2
          go_loopg [11, 54] kj6 (fun kq v11 v54 w' => ∃ (x11_2 : Int) (x54_2 : Int), v11 = .int .i64 x11_2 ∧ v54 = .int .i64 x54_2 ∧ Aside0 (digits_Read.l0 kq t139 t143 x11_2 (wrap64 (4 - (t141.size : Int))) x54_2 = some (r1, r2)) ∧ Aside0 (kq ≤ kj6) ∧ Drawn0 w w')
          case atStart => exact ⟨(t145), (0), eqv, eqv, H', ⟨Nat.le_refl _⟩, drv⟩
          case round =>
            clear H'
            try clear c1
            try clear p2
            try clear c3
            try clear c3b0
            try clear c3b1
            try clear c6
            try clear p6
            try clear c8
            try clear c9
            try clear c10
            try clear c11
            try clear p2
            obtain ⟨x11_2, x54_2, rfl, rfl, HA, HK2, ⟨m2, rfl⟩⟩ := hrel
            cases gk with
            | zero => exact absurd HA.out (by simp [digits_Read.l0])
            | succ k2 =>
              have H := HA.out
              clear HA
              simp only [digits_Read.l0] at H
              by_cases c12 : x54_2 < (wrap64 (4 - (t141.size : Int)))
              · rw [if_pos c12] at H
                have c12b0 : decide (x54_2 < (wrap64 (4 - (t141.size : Int)))) = true := decide_eq_true c12
                clear c12
                have H' := Aside0.mk H
                clear H
                go_wp2
                go_roundg k2
                case measure => have := HJ6.out; have := HK2.out; omega
                case rel => exact ⟨(wrap64 (x11_2 * 10)), (wrap64 (x54_2 + 1)), eqv, eqv, H', ⟨by have := HJ6.out; have := HK2.out; omega⟩, drv⟩
              · rw [if_neg c12] at H
                have c12b0 : decide (x54_2 < (wrap64 (4 - (t141.size : Int)))) = false := decide_eq_false c12
                clear c12
                replace H := Option.bind_eq_some_iff.mp H
                obtain ⟨⟨t147, t148⟩, A130, H⟩ := H
                (try dsimp only at H)
                have A13 := Aside0.mk A130
                clear A130
                simp only [Option.some.injEq, Prod.mk.injEq] at H
                obtain ⟨rfl, rfl⟩ := H
                go_wp2_with (first | ((with_reducible refine gate_callee (f := 69) rfl ?_); refine goD (some 62) rfl Tryd.func69 (digits_put.calls k2 t143 x11_2 t139 t147 t148 _ A13.out) ?_; intro nd))
                go_ret2
                exact fin0
def digits_Parse.f (k : Nat) (a0 : ByteArray) : Option (Int × Bool) := (digits_Read.f k a0).bind fun bt149 => (if bt149.2 = true then ((digits_Text.f k bt149.1).bind fun t151 => (if t151.toList = a0.toList then (some (bt149.1, true)) else (some (0, false)))) else (some (0, false)))
theorem digits_Parse.mono : ∀ a0 k, LeO (digits_Parse.f k a0) (digits_Parse.f (k + 1) a0) := by
  intro a0 k
  unfold digits_Parse.f
  repeat' first
      | (with_reducible exact digits_Read.mono _ _)
      | (with_reducible exact digits_Text.mono _ _)
      | (with_reducible exact LeO.refl _)
      | (with_reducible exact LeO.none _)
      | (with_reducible refine LeO.ite ?_ ?_)
      | (with_reducible refine LeO.bind ?_ (fun _ => ?_))
      | exact digits_Read.mono _ _
      | exact digits_Text.mono _ _
      | exact LeO.none _
      | refine LeO.ite ?_ ?_
      | refine LeO.bind ?_ (fun _ => ?_)
set_option maxHeartbeats 8000000 in
set_option maxRecDepth 100000 in
theorem digits_Parse.calls (k : Nat) (a0 : ByteArray) (r1 : Int) (r2 : Bool) (w : World) (hT_ : Go.Proofs.YtcfhllbobapaiaaDoorW.XTabs.Tabs w) (h : digits_Parse.f k a0 = some (r1, r2)) :
    Calls Tryd.prog 16 #[.string a0] w fun e w' => e = .returned (.tuple #[.int .i64 r1, .bool r2]) ∧ Below w.heap.size w w' := by
  have HB := Aside0.mk (Below.refl w.heap.size w)
  have H := h
  (try unfold digits_Parse.f at H)
  clear h
  replace H := Option.bind_eq_some_iff.mp H
  obtain ⟨⟨t149, t150⟩, A20, H⟩ := H
  (try dsimp only at H)
  have A2 := Aside0.mk A20
  clear A20
  by_cases c3 : t150 = true
  · subst c3
    rw [if_pos rfl] at H
    replace H := Option.bind_eq_some_iff.mp H
    obtain ⟨t151, A40, H⟩ := H
    (try dsimp only at H)
    have A4 := Aside0.mk A40
    clear A40
    by_cases c5 : t151.toList = a0.toList
    · rw [if_pos c5] at H
      have c5b0 : (t151.toList == a0.toList) = true := beq_iff_eq.mpr c5
      have c5b1 : (t151.toList != a0.toList) = false := bne_eq_false_iff_eq.mpr c5
      clear c5
      simp only [Option.some.injEq, Prod.mk.injEq] at H
      obtain ⟨rfl, rfl⟩ := H
      go_enter Tryd.func16, Tryd.ntmps16
      go_wp2_with (first | ((with_reducible refine gate_callee (f := 17) rfl ?_); refine goD (some 8) rfl Tryd.func17 (digits_Read.calls (hT_ := by repeat (first | exact hT_ | (with_reducible apply Go.Proofs.YtcfhllbobapaiaaDoorW.XTabs.Tabs.drewN) | (with_reducible apply Go.Proofs.YtcfhllbobapaiaaDoorW.XTabs.Tabs.drew) | (with_reducible apply Go.Proofs.YtcfhllbobapaiaaDoorW.XTabs.Tabs.alloc) | exact Go.Proofs.YtcfhllbobapaiaaDoorW.XTabs.Tabs.below hT_ (by repeat (first | (with_reducible first | exact HB.out | apply below_alloc | apply pw_below_drewN | apply below_drew1) | exact HB.out | refine below_set ?_ (Aside0.out (by assumption)))))) k a0 t149 true _ A2.out) ?_; intro nd) | (go_at_call 15; (with_reducible refine (digits_Text.calls (hT_ := by repeat (first | exact hT_ | (with_reducible apply Go.Proofs.YtcfhllbobapaiaaDoorW.XTabs.Tabs.drewN) | (with_reducible apply Go.Proofs.YtcfhllbobapaiaaDoorW.XTabs.Tabs.drew) | (with_reducible apply Go.Proofs.YtcfhllbobapaiaaDoorW.XTabs.Tabs.alloc) | exact Go.Proofs.YtcfhllbobapaiaaDoorW.XTabs.Tabs.below hT_ (by repeat (first | (with_reducible first | exact HB.out | apply below_alloc | apply pw_below_drewN | apply below_drew1) | exact HB.out | refine below_set ?_ (Aside0.out (by assumption)))))) k t149 t151 _ A4.out).mono ?_); refine monoK ?_; clear HB; intro w6 HB))
      go_ret2
      exact finB
    · rw [if_neg c5] at H
      have c5b0 : (t151.toList == a0.toList) = false := beq_eq_false_iff_ne.mpr c5
      have c5b1 : (t151.toList != a0.toList) = true := bne_iff_ne.mpr c5
      simp only [Option.some.injEq, Prod.mk.injEq] at H
      obtain ⟨rfl, rfl⟩ := H
      go_enter Tryd.func16, Tryd.ntmps16
      go_wp2_with (first | ((with_reducible refine gate_callee (f := 17) rfl ?_); refine goD (some 8) rfl Tryd.func17 (digits_Read.calls (hT_ := by repeat (first | exact hT_ | (with_reducible apply Go.Proofs.YtcfhllbobapaiaaDoorW.XTabs.Tabs.drewN) | (with_reducible apply Go.Proofs.YtcfhllbobapaiaaDoorW.XTabs.Tabs.drew) | (with_reducible apply Go.Proofs.YtcfhllbobapaiaaDoorW.XTabs.Tabs.alloc) | exact Go.Proofs.YtcfhllbobapaiaaDoorW.XTabs.Tabs.below hT_ (by repeat (first | (with_reducible first | exact HB.out | apply below_alloc | apply pw_below_drewN | apply below_drew1) | exact HB.out | refine below_set ?_ (Aside0.out (by assumption)))))) k a0 t149 true _ A2.out) ?_; intro nd) | (go_at_call 15; (with_reducible refine (digits_Text.calls (hT_ := by repeat (first | exact hT_ | (with_reducible apply Go.Proofs.YtcfhllbobapaiaaDoorW.XTabs.Tabs.drewN) | (with_reducible apply Go.Proofs.YtcfhllbobapaiaaDoorW.XTabs.Tabs.drew) | (with_reducible apply Go.Proofs.YtcfhllbobapaiaaDoorW.XTabs.Tabs.alloc) | exact Go.Proofs.YtcfhllbobapaiaaDoorW.XTabs.Tabs.below hT_ (by repeat (first | (with_reducible first | exact HB.out | apply below_alloc | apply pw_below_drewN | apply below_drew1) | exact HB.out | refine below_set ?_ (Aside0.out (by assumption)))))) k t149 t151 _ A4.out).mono ?_); refine monoK ?_; clear HB; intro w7 HB))
      go_ret2
      exact finB
  · replace c3 := Bool.eq_false_iff.mpr c3
    subst c3
    rw [if_neg (show ¬ (false = true) by decide)] at H
    simp only [Option.some.injEq, Prod.mk.injEq] at H
    obtain ⟨rfl, rfl⟩ := H
    go_enter Tryd.func16, Tryd.ntmps16
    go_wp2_with (first | ((with_reducible refine gate_callee (f := 17) rfl ?_); refine goD (some 8) rfl Tryd.func17 (digits_Read.calls (hT_ := by repeat (first | exact hT_ | (with_reducible apply Go.Proofs.YtcfhllbobapaiaaDoorW.XTabs.Tabs.drewN) | (with_reducible apply Go.Proofs.YtcfhllbobapaiaaDoorW.XTabs.Tabs.drew) | (with_reducible apply Go.Proofs.YtcfhllbobapaiaaDoorW.XTabs.Tabs.alloc) | exact Go.Proofs.YtcfhllbobapaiaaDoorW.XTabs.Tabs.below hT_ (by repeat (first | (with_reducible first | exact HB.out | apply below_alloc | apply pw_below_drewN | apply below_drew1) | exact HB.out | refine below_set ?_ (Aside0.out (by assumption)))))) k a0 t149 false _ A2.out) ?_; intro nd))
    go_ret2
    exact finB
def oculusref08_May.f (a0 : Int) : Option (Bool) := some (decide (a0 ≥ (-9223372036854775807)))
set_option maxHeartbeats 8000000 in
set_option maxRecDepth 100000 in
theorem oculusref08_May.calls (a0 : Int) (r : Bool) (w : World) (h : oculusref08_May.f a0 = some r) :
    Calls Tryd.prog 19 #[.int .i64 a0] w fun e w' => e = .returned (.bool r) ∧ Drawn0 w w' := by
  have H := h
  (try unfold oculusref08_May.f at H)
  clear h
  obtain rfl := Option.some.inj H
  go_enter Tryd.func19, Tryd.ntmps19
  go_wp2
  go_ret
  exact fin0
def oculusref08_Abs.f (a0 : Int) : Option (Int) := if a0 < 0 then (some (IntKind.u64.wrap (wrap64 (-a0)))) else (some (IntKind.u64.wrap (a0)))
set_option maxHeartbeats 8000000 in
set_option maxRecDepth 100000 in
theorem oculusref08_Abs.calls (a0 : Int) (r : Int) (w : World) (h : oculusref08_Abs.f a0 = some r) :
    Calls Tryd.prog 70 #[.int .i64 a0] w fun e w' => e = .returned (.int .u64 r) ∧ Drawn0 w w' := by
  have H := h
  (try unfold oculusref08_Abs.f at H)
  clear h
  by_cases c2 : a0 < 0
  · rw [if_pos c2] at H
    have c2b0 : decide (a0 < 0) = true := decide_eq_true c2
    clear c2
    obtain rfl := Option.some.inj H
    go_enter Tryd.func70, Tryd.ntmps70
    go_wp2
    go_ret
    exact fin0
  · rw [if_neg c2] at H
    have c2b0 : decide (a0 < 0) = false := decide_eq_false c2
    clear c2
    obtain rfl := Option.some.inj H
    go_enter Tryd.func70, Tryd.ntmps70
    go_wp2
    go_ret
    exact fin0
end Go.Proofs.YtcfhllbobapaiaaDoor.PA
