/- Labels' texts; arguments; nodes as told. -/
import Derived.Test.YtcncojlgapknpaaShiftC
set_option linter.unusedVariables false
set_option maxRecDepth 100000
namespace Go.Den.EA
open Go Go.Proofs
theorem gt {c : Prop} [Decidable c] {X : Option PV} {x y : Bool} {F : PV → Option PV} {r : Option PV} (hx : c → X = some (.sc (.bool x))) (h : F (.sc (.bool (if c then x else y))) = r) : Option.bind (if c then X else some (.sc (.bool y))) F = r := by
  by_cases hc : c
  · rw [if_pos hc] at h ⊢; rw [hx hc]; exact h
  · rw [if_neg hc] at h ⊢; exact h
theorem gf {c : Prop} [Decidable c] {X : Option PV} {x y : Bool} {F : PV → Option PV} {r : Option PV} (hx : ¬ c → X = some (.sc (.bool x))) (h : F (.sc (.bool (if c then y else x))) = r) : Option.bind (if c then some (.sc (.bool y)) else X) F = r := by
  by_cases hc : c
  · rw [if_pos hc] at h ⊢; exact h
  · rw [if_neg hc] at h ⊢; rw [hx hc]; exact h
theorem IsB.now (b : Bool) : IsB (some (.sc (.bool b))) := ⟨b, rfl⟩
theorem IsB.ite {c : Prop} [Decidable c] {x y : Option PV} (h1 : IsB x) (h2 : IsB y) : IsB (if c then x else y) := by
  by_cases hc : c
  · rw [if_pos hc]; exact h1
  · rw [if_neg hc]; exact h2
theorem IsB.pos {c : Prop} [Decidable c] {x y : Option PV} (hc : c) (h1 : IsB x) : IsB (if c then x else y) := by rw [if_pos hc]; exact h1
theorem IsB.bind {u : Option PV} {F : PV → Option PV} (h : IsB u) (h2 : ∀ b, IsB (F (.sc (.bool b)))) : IsB (u.bind F) := by
  obtain ⟨b, hb⟩ := h
  rw [hb]
  exact h2 b
theorem labText_ev (l c : Int) (h0 : 0 ≤ l) (h1 : l ≤ 15) : IsS 2000 (D 32 [.agg [.sc (.int .i64 l), .sc (.int .u64 c)]]) := by
  rw [f32_eq 0]
  obtain ⟨n, hn⟩ := top_ev
  obtain ⟨d, hd, hdl⟩ := digits_ev l h0 (by omega)
  obtain ⟨x, hx, hxl⟩ := catText_ev c
  have hr1 : ¬ (PV.sc (.bool (if decide (l < 0) = true then true else decide (l > 15)))).toBool = true := by
    show ¬ (if decide (l < 0) = true then true else decide (l > 15)) = true
    simp; omega
  by_cases ht : ((l == (15 : Int)) && ((c == n) && true)) = true
  · exact ⟨_, gb (im hr1 (sb hn (ip rfl (ip ht rfl)))), by decide⟩
  · by_cases hc : (c != 0) = true
    · exact ⟨_, gb (im hr1 (sb hn (ip rfl (im ht (sb hd (ip rfl (ip hc (ip (by show d.size + 1 ≤ _; omega) (sb hx (ip rfl (ip (by show (d ++ (⟨#[58]⟩ : ByteArray)).size + x.size ≤ _; rw [ByteArray.size_append]; show d.size + 1 + x.size ≤ _; omega) rfl))))))))))), by
        show ((d ++ (⟨#[58]⟩ : ByteArray)) ++ x).size ≤ 2000
        rw [ByteArray.size_append, ByteArray.size_append]
        show d.size + 1 + x.size ≤ 2000
        omega⟩
    · exact ⟨_, gb (im hr1 (sb hn (ip rfl (im ht (sb hd (ip rfl (im hc rfl))))))), by show d.size ≤ 2000; omega⟩
theorem cats_ev (t : ByteArray) (ht : t.size ≤ 9223372036854775806) : ∃ s ok, D 31 [.sc (.string t)] = some (.agg [.sc (.int .u64 s), .sc (.bool ok)]) := by
  rw [f31_eq 0]
  have loop : ∀ (j : Nat) (i s n : Int), ((t.size : Int) + 1 - i).toNat = j → 0 ≤ i → i ≤ (t.size : Int) + 1 → ∃ s' ok, f31.l0a 0 t s n i 0 false = some (.agg [.sc (.int .u64 s'), .sc (.bool ok)]) := by
    intro j
    induction j with
    | zero =>
      intro i s n hj h0 h1
      rw [f31.l0a_eq]
      obtain ⟨x, hx, _⟩ := catText_ev s
      by_cases h : (!(x.toList == t.toList)) = true
      · exact ⟨_, _, im (fun hh => by have := of_decide_eq_true hh; omega) (sb hx (ip rfl (ip h rfl)))⟩
      · exact ⟨_, _, im (fun hh => by have := of_decide_eq_true hh; omega) (sb hx (ip rfl (im h rfl)))⟩
    | succ j ih =>
      intro i s n hj h0 h1
      rw [f31.l0a_eq]
      have hle : i ≤ (t.size : Int) := by omega
      have hw : IntKind.i64.wrap (i + 1) = i + 1 := w64 (by omega) (by omega)
      have go : ∀ s n, ∃ s' ok, f31.l0a 0 t s n (IntKind.i64.wrap (i + 1)) 0 false = some (.agg [.sc (.int .u64 s'), .sc (.bool ok)]) := fun s n => by
        rw [hw]; exact ih (i + 1) s n (by omega) (by omega) (by omega)
      generalize hb3 : (if decide (i < (t.size : Int)) = true then decide (bt t i ≥ 48) else false) = b3
      generalize hb6 : (if b3 = true then decide (bt t i ≤ 57) else false) = b6
      generalize hb7 : (if b6 = true then decide (n < 100) else false) = b7
      have lt : b3 = true → i < (t.size : Int) := fun h => by
        rw [← hb3] at h
        by_cases hh : i < (t.size : Int)
        · exact hh
        · rw [if_neg (by simpa using hh)] at h; cases h
      have start : ∀ {r : Option PV} {F : PV → Option PV}, F (.sc (.bool b7)) = r → (Option.bind (α := PV) (
          if decide (i < (t.size : Int)) = true then
            Option.bind (α := PV) (
              Option.bind (α := PV) (
                if 0 ≤ i then
                  if i < (t.size : Int) then
                    some (.sc (.bool (decide ((bt t i) ≥ 48))))
                  else none
                else none) fun r1 =>
              some (.sc (.bool r1.toBool))) fun r2 =>
            some (.sc (.bool r2.toBool))
          else
            some (.sc (.bool false))) fun r3 =>
        Option.bind (α := PV) (
          if r3.toBool = true then
            Option.bind (α := PV) (
              Option.bind (α := PV) (
                if 0 ≤ i then
                  if i < (t.size : Int) then
                    some (.sc (.bool (decide ((bt t i) ≤ 57))))
                  else none
                else none) fun r4 =>
              some (.sc (.bool r4.toBool))) fun r5 =>
            some (.sc (.bool r5.toBool))
          else
            some (.sc (.bool false))) fun r6 =>
        Option.bind (α := PV) (
          if r6.toBool = true then
            some (.sc (.bool (decide (n < 100))))
          else
            some (.sc (.bool false))) F) = r := fun {r F} h => by
        refine gt (fun hc => sb (sb (ip h0 (ip (of_decide_eq_true hc) rfl)) rfl) rfl) ?_
        show Option.bind (if (PV.sc (.bool (if decide (i < (t.size : Int)) = true then decide (bt t i ≥ 48) else false))).toBool = true then _ else _) _ = r
        rw [hb3]
        refine gt (x := decide (bt t i ≤ 57)) (fun hc => sb (sb (ip h0 (ip (lt hc) rfl)) rfl) rfl) ?_
        show Option.bind (if (PV.sc (.bool (if b3 = true then decide (bt t i ≤ 57) else false))).toBool = true then _ else _) _ = r
        rw [hb6]
        refine gb ?_
        show F (.sc (.bool (if b6 = true then decide (n < 100) else false))) = r
        rw [hb7]
        exact h
      cases b7 with
      | true =>
        have h6 : b6 = true := by
          cases b6 with
          | true => rfl
          | false => rw [if_neg (by decide)] at hb7; cases hb7
        have h3 : b3 = true := by
          cases b3 with
          | true => rfl
          | false => rw [if_neg (by decide), h6] at hb6; cases hb6
        obtain ⟨s', ok, h⟩ := go s (IntKind.i64.wrap ((IntKind.i64.wrap ((IntKind.i64.wrap ((if 0 > n then 0 else n) * 10)) + (IntKind.i64.wrap (bt t i)))) - 48))
        exact ⟨s', ok, ip (decide_eq_true hle) (start (ip rfl (ip h0 (ip (lt h3) h))))⟩
      | false =>
        by_cases hn : 0 ≤ n ∧ n < 64
        · obtain ⟨o, ho⟩ := one_ev' n (by omega)
          obtain ⟨u, hu⟩ := join_ev s o
          obtain ⟨s', ok, h⟩ := go u (-1)
          refine ⟨s', ok, ip (decide_eq_true hle) (start (im (by show ¬ false = true; decide) (gb (ip ?_ (sb ho (ip rfl (sb hu (ip rfl h))))))))⟩
          show (if decide (n ≥ 0) = true then decide (n < 64) else false) = true
          rw [if_pos (decide_eq_true hn.1)]
          exact decide_eq_true hn.2
        · obtain ⟨s', ok, h⟩ := go s (-1)
          refine ⟨s', ok, ip (decide_eq_true hle) (start (im (by show ¬ false = true; decide) (gb (im (fun hh => ?_) h))))⟩
          have h2 : (if decide (n ≥ 0) = true then decide (n < 64) else false) = true := hh
          by_cases h3 : n ≥ 0
          · rw [if_pos (decide_eq_true h3)] at h2
            exact hn ⟨h3, of_decide_eq_true h2⟩
          · rw [if_neg (by simpa using h3)] at h2
            cases h2
  exact loop _ 0 0 (-1) rfl (by omega) (by omega)
theorem label_ev (t : ByteArray) (ht : t.size ≤ 9223372036854775807) : ∃ a b ok, D 27 [.sc (.string t)] = some (.agg [.sc (.int .i64 a), .sc (.int .u64 b), .sc (.bool ok)]) := by
  rw [f27_eq 0]
  by_cases h0 : (t.toList == (⟨#[116, 111, 112]⟩ : ByteArray).toList) = true
  · obtain ⟨n, hn⟩ := top_ev
    exact ⟨_, _, _, ip h0 (sb hn (ip rfl rfl))⟩
  have loop : ∀ (j : Nat) (n : Int), (16 - n).toNat = j → 0 ≤ n → ∃ a b ok, f27.l0a 0 t n 0 0 false = some (.agg [.sc (.int .i64 a), .sc (.int .u64 b), .sc (.bool ok)]) := by
    intro j
    induction j with
    | zero =>
      intro n hj hn
      rw [f27.l0a_eq]
      exact ⟨_, _, _, im (fun hh => by have := of_decide_eq_true hh; omega) rfl⟩
    | succ j ih =>
      intro n hj hn
      rw [f27.l0a_eq]
      have hn15 : n ≤ 15 := by omega
      obtain ⟨d, hd, hdl⟩ := digits_ev n hn (by omega)
      by_cases he : (t.toList == d.toList) = true
      · exact ⟨_, _, _, ip (decide_eq_true hn15) (sb hd (ip rfl (ip he rfl)))⟩
      have hw : IntKind.i64.wrap (n + 1) = n + 1 := next_small (by omega) (by omega)
      obtain ⟨a, b, ok, hgo⟩ := ih (n + 1) (by omega) (by omega)
      have hds : IntKind.i64.wrap ((d.size : Int) + 1) = (d.size : Int) + 1 := w64 (by omega) (by omega)
      generalize hx : (!((t.extract 0 (IntKind.i64.wrap ((d.size : Int) + 1)).toNat).toList == (d ++ (⟨#[58]⟩ : ByteArray)).toList)) = x
      have hX : ¬ decide ((t.size : Int) ≤ (d.size : Int)) = true → (Option.bind (α := PV) (β := PV) (
            Option.bind (α := PV) (β := PV) (
              Option.bind (α := PV) (β := PV) (
                Option.bind (α := PV) (β := PV) (
                  if 0 ≤ IntKind.i64.wrap ((d.size : Int) + 1) then
                    if IntKind.i64.wrap ((d.size : Int) + 1) ≤ (t.size : Int) then
                      if 0 ≤ IntKind.i64.wrap ((d.size : Int) + 1) then
                        Option.bind (α := PV) (β := PV) (
                          Option.bind (α := PV) (β := PV) (
                            if d.size + 1 ≤ 9223372036854775807 then
                              some (.sc (.bool (!((t.extract 0 (IntKind.i64.wrap ((d.size : Int) + 1)).toNat).toList == (d ++ (⟨#[58]⟩ : ByteArray)).toList))))
                            else none) fun r3 =>
                          some (.sc (.bool r3.toBool))) fun r4 =>
                        some (.sc (.bool r4.toBool))
                      else none
                    else none
                  else none) fun r5 =>
                some (.sc (.bool r5.toBool))) fun r6 =>
              some (.sc (.bool r6.toBool))) fun r7 =>
            some (.sc (.bool r7.toBool))) fun r8 =>
          some (.sc (.bool r8.toBool))) = some (.sc (.bool x)) := fun hc => by
        have hc' : (d.size : Int) < (t.size : Int) := by simpa using hc
        rw [hx]
        refine sb (sb (sb (sb (ip (by rw [hds]; omega) (ip (by rw [hds]; omega) (ip (by rw [hds]; omega) (sb (sb (ip (by omega) rfl) rfl) rfl)))) rfl) rfl) rfl) rfl
      generalize h9 : (if decide ((t.size : Int) ≤ (d.size : Int)) = true then true else x) = b9
      cases b9 with
      | true =>
        refine ⟨a, b, ok, ip (decide_eq_true hn15) (sb hd (ip rfl (im he (gf hX (ip h9 ?_)))))⟩
        rw [hw]
        exact hgo
      | false =>
        have hlt : (d.size : Int) < (t.size : Int) := by
          by_cases hh : (t.size : Int) ≤ (d.size : Int)
          · rw [if_pos (decide_eq_true hh)] at h9; cases h9
          · omega
        have hes : (t.extract (IntKind.i64.wrap ((d.size : Int) + 1)).toNat (t.size : Int).toNat).size ≤ 9223372036854775806 := by
          rw [ByteArray.size_extract, hds]
          omega
        obtain ⟨s, k, hs⟩ := cats_ev _ hes
        obtain ⟨y, hy, _⟩ := labText_ev n s hn hn15
        have h9' : ¬ (PV.sc (.bool (if decide ((t.size : Int) ≤ (d.size : Int)) = true then true else x))).toBool = true := by
          show ¬ (if decide ((t.size : Int) ≤ (d.size : Int)) = true then true else x) = true
          rw [h9]; decide
        generalize h13 : (if k = true then (y.toList == t.toList) else false) = b13
        cases b13 with
        | true =>
          exact ⟨_, _, _, ip (decide_eq_true hn15) (sb hd (ip rfl (im he (gf hX (im h9' (ip (by omega) (ip (Int.le_refl _) (ip (by show 0 ≤ IntKind.i64.wrap ((d.size : Int) + 1); rw [hds]; omega) (ip (by show IntKind.i64.wrap ((d.size : Int) + 1) ≤ _; rw [hds]; omega) (sb hs (ip rfl (gt (x := (y.toList == t.toList)) (fun _ => sb (sb hy (ip rfl rfl)) rfl) (ip h13 rfl)))))))))))))⟩
        | false =>
          refine ⟨a, b, ok, ip (decide_eq_true hn15) (sb hd (ip rfl (im he (gf hX (im h9' (ip (by omega) (ip (Int.le_refl _) (ip (by show 0 ≤ IntKind.i64.wrap ((d.size : Int) + 1); rw [hds]; omega) (ip (by show IntKind.i64.wrap ((d.size : Int) + 1) ≤ _; rw [hds]; omega) (sb hs (ip rfl (gt (x := (y.toList == t.toList)) (fun _ => sb (sb hy (ip rfl rfl)) rfl) (im ?_ ?_)))))))))))))⟩
          · show ¬ (if k = true then (y.toList == t.toList) else false) = true
            rw [h13]; decide
          · rw [hw]
            exact hgo
  obtain ⟨a, b, ok, h⟩ := loop 16 0 (by omega) (by omega)
  exact ⟨a, b, ok, im h0 h⟩
theorem mayV_ev (v : Vl) : IsB (D 20 [.agg [.sc (.int .i64 v.kind), .sc (.int .i64 v.num), .sc (.string v.text)]]) := by
  rw [f20_eq 0]
  have h25 : ∀ x : Int, IsB (D 25 [.sc (.int .i64 x)]) := fun x => ⟨_, f25_eq 0 x⟩
  repeat first | exact IsB.now _ | exact h25 _ | exact IsB.pos rfl (IsB.now _) | refine IsB.bind ?_ (fun b => ?_) | refine IsB.ite ?_ ?_
theorem refB_ev (r : Rf) : D 21 [r.pv] = some (.sc (.bool (may r.row r.col))) := by
  unfold Rf.pv
  rw [f21_eq 0]
  exact sb (rmay_ev _ _) (ip rfl rfl)
end Go.Den.EA
