/- What is told of a cost is read back: the law. -/
import Derived.Test.YtbkdoeghgdbjlaaDoorMeterTM
import Derived.Test.YtbkdoeghgdbjlaaDoorTyM
set_option linter.unusedVariables false
set_option linter.unusedSimpArgs false
set_option maxRecDepth 100000
namespace Go.Den.EM
open Go Go.Proofs
theorem alive36_ev : D 5 [] = some (.sc (.bool true)) := denI_of (k := 80) (by kernel_rfl)
theorem meterText_D (c : C5) (l : List UInt8) : D 3 [c.pv, .sc (.string (B l))] = some (.sc (.bool true)) := by
  have t := meter_text c
  have rt := rmeter_text c
  have rr := rrights_ev c
  obtain ⟨a0, a1, a2, a3, a4⟩ := c
  refine (f3_eq 0 a0 a1 a2 a3 a4 (B l)).trans ?_
  by_cases hl : l.length ≤ 200
  · refine im (by rw [decide_eq_true_eq, B_size]; omega) ?_
    simp only [C5.fold]
    refine cb t rfl ?_
    have hm := mtext_len ⟨a0, a1, a2, a3, a4⟩
    obtain ⟨r, e1, g1⟩ := mparse_ev (mtext ⟨a0, a1, a2, a3, a4⟩) (by omega)
    obtain ⟨s, e2, g2⟩ := mparse_ev l (by omega)
    obtain ⟨w, e3, g3⟩ := rparse_ev l (by omega)
    obtain rfl := good_uniq g2 g3
    refine cb e1 rfl (cb e2 rfl (cb e3 rfl (cb rt rfl ?_)))
    have er : r = if okC ⟨a0, a1, a2, a3, a4⟩ = true then (⟨a0, a1, a2, a3, a4⟩, true) else (⟨0, 0, 0, 0, 0⟩, false) := by
      unfold mtext at g1
      by_cases h : okC ⟨a0, a1, a2, a3, a4⟩ = true
      · rw [if_pos h] at g1 ⊢
        exact good_told h g1
      · rw [if_neg h] at g1 ⊢
        refine good_uniq g1 ⟨(fun h => by cases h), fun _ => ⟨rfl, fun c hc e => ?_⟩⟩
        have := ten_words e
        simp [spl] at this
    have es : s.2 = true → mtext s.1 = l := by
      intro h
      obtain ⟨h1, h2⟩ := g2.1 h
      unfold mtext
      rw [if_pos h1]; exact h2
    have ts2 := meter_text s.1
    have key : ∀ (x : C5 × Bool), (cel 1 (pvP x).parts).toBool = x.2 := fun x => rfl
    have k0 : ∀ (x : C5 × Bool), (cel 0 (cel 0 (pvP x).parts).cells).toInt = x.1.a := fun x => rfl
    have k1 : ∀ (x : C5 × Bool), (cel 1 (cel 0 (pvP x).parts).cells).toInt = x.1.b := fun x => rfl
    have k2 : ∀ (x : C5 × Bool), (cel 2 (cel 0 (pvP x).parts).cells).toInt = x.1.c := fun x => rfl
    have k3 : ∀ (x : C5 × Bool), (cel 3 (cel 0 (pvP x).parts).cells).toInt = x.1.d := fun x => rfl
    have k4 : ∀ (x : C5 × Bool), (cel 4 (cel 0 (pvP x).parts).cells).toInt = x.1.e := fun x => rfl
    have j0 : ∀ (x : C5 × Bool), (cel 0 (pvW x).cells).toInt = x.1.a := fun x => rfl
    have j1 : ∀ (x : C5 × Bool), (cel 1 (pvW x).cells).toInt = x.1.b := fun x => rfl
    have j2 : ∀ (x : C5 × Bool), (cel 2 (pvW x).cells).toInt = x.1.c := fun x => rfl
    have j3 : ∀ (x : C5 × Bool), (cel 3 (pvW x).cells).toInt = x.1.d := fun x => rfl
    have j4 : ∀ (x : C5 × Bool), (cel 4 (pvW x).cells).toInt = x.1.e := fun x => rfl
    have j5 : ∀ (x : C5 × Bool), (cel 5 (pvW x).cells).toBool = x.2 := fun x => rfl
    simp only [key, k0, k1, k2, k3, k4, j0, j1, j2, j3, j4, j5, C5.fold, C5.rb, rr, alive36_ev, ts2, bs, tb, ts, shb, shs, if_true, B_toList, beq_self_eq_true, Bool.not_true, Bool.false_eq_true, if_false]
    subst er
    cases hs : s.2
    · cases ho : okC ⟨a0, a1, a2, a3, a4⟩ <;> simp
    · rw [es hs]
      cases ho : okC ⟨a0, a1, a2, a3, a4⟩ <;> simp
  · exact ip (by rw [decide_eq_true_eq, B_size]; omega) (cb alive36_ev rfl rfl)
theorem meterText_law (W : World) (vs : List Value) (xs : List PV) (h : Handed Tryd.prog W [23, 9] vs xs) : D 3 xs = some (.sc (.bool true)) := by
  obtain ⟨a, _, _, rfl, ha, h⟩ := handed_cons h
  obtain ⟨b, _, _, rfl, hb, h⟩ := handed_cons h
  obtain rfl := handed_nil h
  obtain ⟨a0, a1, a2, a3, a4, rfl, _⟩ := of23 ha
  obtain ⟨t, rfl, _⟩ := of9 hb
  rw [ag23, on9]
  obtain ⟨l, rfl⟩ := B_of t
  exact meterText_D ⟨a0, a1, a2, a3, a4⟩ l
end Go.Den.EM
