/- Rows counted: the law of two views. -/
import Derived.Test.YtcfhllbobapaiaaDoorStatsA
set_option linter.unusedVariables false
set_option linter.unusedSimpArgs false
set_option maxRecDepth 100000
namespace Go.Den.ES
open Go Go.Proofs
theorem nest_sum (l : List Rw) (h : l.length ≤ 1000) : IntKind.i64.wrap (IntKind.i64.wrap (IntKind.i64.wrap (IntKind.i64.wrap (IntKind.i64.wrap (IntKind.i64.wrap ((cnt l 1 : Int) + cnt l 2) + cnt l 3) + cnt l 4) + cnt l 5) + cnt l 6) + cnt l 7) = ((cnt l 1 + cnt l 2 + cnt l 3 + cnt l 4 + cnt l 5 + cnt l 6 + cnt l 7 : Nat) : Int) := by
  have h1 := cnt_le l 1
  have h2 := cnt_le l 2
  have h3 := cnt_le l 3
  have h4 := cnt_le l 4
  have h5 := cnt_le l 5
  have h6 := cnt_le l 6
  have h7 := cnt_le l 7
  rw [w64 (x := (cnt l 1 : Int) + cnt l 2) (by omega) (by omega), w64 (x := (cnt l 1 : Int) + cnt l 2 + cnt l 3) (by omega) (by omega), w64 (x := (cnt l 1 : Int) + cnt l 2 + cnt l 3 + cnt l 4) (by omega) (by omega), w64 (x := (cnt l 1 : Int) + cnt l 2 + cnt l 3 + cnt l 4 + cnt l 5) (by omega) (by omega), w64 (x := (cnt l 1 : Int) + cnt l 2 + cnt l 3 + cnt l 4 + cnt l 5 + cnt l 6) (by omega) (by omega), w64 (by omega) (by omega)]
  omega
theorem all_take (l : List Rw) (i : Nat) (h : i < l.length) : (l.take (i + 1)).all good = ((l.take i).all good && good l[i]) := by
  rw [List.take_add_one, List.getElem?_eq_getElem h, List.all_append]
  simp only [Option.toList, List.all_cons, List.all_nil, Bool.and_true]
theorem rev_take (l : List Rw) (i : Nat) (h : i < l.length) : rpv (l.reverse.take (i + 1)) = rpv (l.reverse.take i) ++ [(l[l.length - 1 - i]'(by omega)).pv] := by
  have h2 : i < l.reverse.length := by simpa using h
  rw [List.take_add_one, List.getElem?_eq_getElem h2]
  simp [rpv, List.getElem_reverse]
section
variable (a b : List Rw)
theorem of_ab (hl : a.length ≤ 150) : D 25 [.lst 7 (rpv a).length (fun i => (rpv a).getD i .top)] = some (ofR a).pv := of_ev a (by omega)
/-- What stands behind the loop. -/
theorem last_b (ha : a.length ≤ 150) (hb : b.length ≤ 150) : f7.l0b 0 (rpv a).length (fun i => (rpv a).getD i .top) (rpv b).length (fun i => (rpv b).getD i .top) ((a ++ b).all good) ((a ++ b).length : Int) ((a ++ b).length : Int) (rpv (a ++ b)) (rpv (a ++ b).reverse) = some (.sc (.bool true)) := by
  have hab : (a ++ b).length ≤ 300 := by rw [List.length_append]; omega
  rw [f7.l0b_eq, if_neg (by simp)]
  have hs : addS (ofR b) (ofR a) = ofR (a ++ b) := by rw [add_of b a (by omega) (by omega), of_comm]
  have hr : D 25 [frozen 7 (rpv (a ++ b).reverse)] = some (ofR (a ++ b)).pv := by rw [of_ev _ (by rw [List.length_reverse]; omega), of_rev]
  rw [of_ev (a ++ b) (by omega), of_ab a ha, of_ab b hb, hr]
  simp only [bs, S8.sh, S8.c0, S8.c1, S8.c2, S8.c3, S8.c4, S8.c5, S8.c6, S8.c7, if_true, S8.fold, S8.rb, add_ev, add_of a b (by omega) (by omega), hs, tb, beq_self_eq_true, Bool.and_self, Bool.not_true, Bool.false_eq_true, if_false, alive_ev, shb, bO, bA]
  cases hw : (a ++ b).all good
  · simp
  · simp only [Bool.not_true, Bool.false_or, Bool.and_true]
    simp only [ofR]
    rw [nest_sum _ (by omega), sum_of _ hw]
    simp
theorem last_a : f7.l0a 0 (rpv ([] : List Rw)).length (fun i => (rpv ([] : List Rw)).getD i .top) (rpv ([] : List Rw)).length (fun i => (rpv ([] : List Rw)).getD i .top) true 0 0 (rpv []) = some (.sc (.bool true)) := by
  rw [f7.l0a_eq, if_neg (by simp)]
  have h0 : D 25 [.lst 7 0 (fun _ => .top)] = some (ofR []).pv := denI_of (k := 20) (by kernel_rfl)
  have hs : addS (ofR []) (ofR []) = ofR [] := by rw [add_of [] [] (by simp) (by simp)]; rfl
  rw [of_ev [] (by simp), of_ab [] (by simp), h0]
  simp only [bs, S8.sh, S8.c0, S8.c1, S8.c2, S8.c3, S8.c4, S8.c5, S8.c6, S8.c7, if_true, S8.fold, S8.rb, add_ev, hs, tb, beq_self_eq_true, Bool.and_self, Bool.not_true, Bool.false_eq_true, if_false, alive_ev, shb, bO, bA]
  have e := nest_sum [] (by simp)
  simp only [ofR]
  rw [e]
  rfl
theorem loop_b (ha : a.length ≤ 150) (hb : b.length ≤ 150) : ∀ (m i : Nat), i + m = (a ++ b).length → f7.l0b 0 (rpv a).length (fun i => (rpv a).getD i .top) (rpv b).length (fun i => (rpv b).getD i .top) (((a ++ b).take i).all good) ((a ++ b).length : Int) (i : Int) (rpv (a ++ b)) (rpv ((a ++ b).reverse.take i)) = some (.sc (.bool true)) := by
  have hab : (a ++ b).length ≤ 300 := by rw [List.length_append]; omega
  intro m
  induction m with
  | zero =>
    intro i he
    have : i = (a ++ b).length := by omega
    subst this
    have := last_b a b ha hb
    rw [List.take_length, List.take_of_length_le (by rw [List.length_reverse]; exact Nat.le_refl _)]
    exact this
  | succ m ih =>
    intro i he
    have hi : i < (a ++ b).length := by omega
    rw [f7.l0b_eq, if_pos (by rw [decide_eq_true_eq]; omega)]
    have e1 : IntKind.i64.wrap (IntKind.i64.wrap (((rpv (a ++ b)).length : Int) - 1) - (i : Int)) = (((a ++ b).length - 1 - i : Nat) : Int) := by
      rw [rpv_len, w64 (x := ((a ++ b).length : Int) - 1) (by omega) (by omega), w64 (by omega) (by omega)]; omega
    have hj : (a ++ b).length - 1 - i < (a ++ b).length := by omega
    simp only [e1, Int.toNat_natCast, rpv_get hj, rpv_get hi, Rw.sh, Rw.c0, Rw.c1, Rw.c2, Rw.c3, Rw.c4, Rw.c5, Rw.c6, Rw.fold, Rw.rb, if_true]
    rw [if_pos (by omega), if_pos (by rw [rpv_len]; omega), if_pos (by simp [rpv_len]; omega)]
    simp only [if_pos (show (0 : Int) ≤ (i : Int) by omega), if_pos (show (i : Int) < ((rpv (a ++ b)).length : Int) by rw [rpv_len]; omega), bs, tb, bA, next_i i (by omega)]
    have := ih (i + 1) (by omega)
    rw [rev_take _ i hi, all_take _ i hi] at this
    simp only [good] at this
    rw [Bool.and_assoc]
    exact this
theorem add_D (ha : a.length ≤ 9223372036854775807) (hb : b.length ≤ 9223372036854775807) : D 7 [frozen 7 (rpv a), frozen 7 (rpv b)] = some (.sc (.bool true)) := by
  refine (f7_eq 0 (rpv a).length (fun i => (rpv a).getD i .top) (rpv b).length (fun i => (rpv b).getD i .top)).trans ?_
  simp only [bO, alive_ev, bs, shb, if_true, tb]
  by_cases hc : a.length ≤ 150 ∧ b.length ≤ 150
  · obtain ⟨h1, h2⟩ := hc
    refine im (by rw [Bool.or_eq_true, decide_eq_true_eq, decide_eq_true_eq, rpv_len, rpv_len]; omega) ?_
    have er : ∀ l : List PV, (List.range l.length).map (fun i => l.getD i .top) = l := fun l => by
      apply List.ext_getElem
      · simp
      · intro i h1 h2; simp [h2]
    rw [er, er, if_pos (by simp [rpv_len]; omega), if_pos (by simp [rpv_len]; omega)]
    have ea : rpv a ++ rpv b = rpv (a ++ b) := by simp [rpv]
    rw [ea]
    by_cases h0 : a.length + b.length = 0
    · have e1 : a = [] := List.eq_nil_of_length_eq_zero (by omega)
      have e2 : b = [] := List.eq_nil_of_length_eq_zero (by omega)
      subst e1; subst e2
      exact last_a
    · have hab : (a ++ b).length = a.length + b.length := List.length_append
      have hi : 0 < (a ++ b).length := by omega
      have el : ((rpv (a ++ b)).length : Int) = ((a ++ b).length : Int) := by rw [rpv_len]
      rw [el, f7.l0a_eq, if_pos (by rw [decide_eq_true_eq]; omega)]
      have e1 : IntKind.i64.wrap (IntKind.i64.wrap (((rpv (a ++ b)).length : Int) - 1) - (0 : Int)) = (((a ++ b).length - 1 - 0 : Nat) : Int) := by
        rw [rpv_len, w64 (x := ((a ++ b).length : Int) - 1) (by omega) (by omega), w64 (by omega) (by omega)]; omega
      have hj : (a ++ b).length - 1 - 0 < (a ++ b).length := by omega
      have e0 : (0 : Int).toNat = 0 := rfl
      simp only [e1, e0, Int.toNat_natCast, rpv_get hj, rpv_get hi, Rw.sh, Rw.c0, Rw.c1, Rw.c2, Rw.c3, Rw.c4, Rw.c5, Rw.c6, Rw.fold, Rw.rb, if_true]
      rw [if_pos (by omega), if_pos (by rw [rpv_len]; omega), if_pos (by simp)]
      simp only [if_pos (show (0 : Int) ≤ (0 : Int) by omega), if_pos (show (0 : Int) < ((rpv (a ++ b)).length : Int) by rw [rpv_len]; omega), bs, tb, bA]
      have := loop_b a b h1 h2 ((a ++ b).length - 1) 1 (by omega)
      rw [rev_take _ 0 hi, all_take _ 0 hi] at this
      simp only [good, List.take_zero, List.all_nil, Bool.true_and] at this
      have e2 : IntKind.i64.wrap ((0 : Int) + 1) = ((1 : Nat) : Int) := by decide
      rw [e2]
      exact this
  · exact ip (by rw [Bool.or_eq_true, decide_eq_true_eq, decide_eq_true_eq, rpv_len, rpv_len]; omega) rfl
end
theorem row_of {xs : List PV} (h : Ty Tryd.prog 53 xs) : ∃ r : Rw, ofCells Tryd.prog 53 xs = r.pv := by
  obtain ⟨a, b, c, d, e, f, g, rfl, _⟩ := of53 h
  exact ⟨⟨a, b, c, d, e, f, g⟩, by rw [ag53]; rfl⟩
theorem rows_of : ∀ {l : List PV}, (∀ x, x ∈ l → Ty Tryd.prog 53 x.cells ∧ x = ofCells Tryd.prog 53 x.cells) → ∃ rs : List Rw, l = rpv rs
  | [], _ => ⟨[], rfl⟩
  | x :: l, h => by
    obtain ⟨rs, e⟩ := rows_of fun y hy => h y (List.mem_cons_of_mem _ hy)
    obtain ⟨h1, h2⟩ := h x List.mem_cons_self
    obtain ⟨r, er⟩ := row_of h1
    exact ⟨r :: rs, by rw [h2, er, e]; rfl⟩
theorem statsAdd_law (W : World) (vs : List Value) (xs : List PV) (h : Handed Tryd.prog W [37, 37] vs xs) : D 7 xs = some (.sc (.bool true)) := by
  obtain ⟨a, _, _, rfl, ha, h⟩ := handed_cons h
  obtain ⟨b, _, _, rfl, hb, h⟩ := handed_cons h
  obtain rfl := handed_nil h
  obtain ⟨a, rfl, _, la, ha⟩ := of37 ha
  obtain ⟨b, rfl, _, lb, hb⟩ := of37 hb
  obtain ⟨a, rfl⟩ := rows_of ha
  obtain ⟨b, rfl⟩ := rows_of hb
  rw [rpv_len] at la lb
  rw [on37, on37]
  exact add_D a b la lb
end Go.Den.ES
