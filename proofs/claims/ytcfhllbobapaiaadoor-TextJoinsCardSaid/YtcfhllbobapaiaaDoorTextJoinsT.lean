/- Texts, one behind the other: the law. -/
import Derived.Test.YtcfhllbobapaiaaDoorFoldAT
import Derived.Test.YtcfhllbobapaiaaDoorTyT
set_option linter.unusedVariables false
set_option linter.unusedSimpArgs false
set_option maxRecDepth 100000
namespace Go.Den.ET
open Go Go.Proofs
theorem alive14_ev : D 47 [] = some (.sc (.bool true)) := denI_of (k := 80) (by kernel_rfl)
theorem lpcF {n n2 i : Nat} {F : Nat → PV} {x : PV} {s : Sh} {X Y r : Option PV} (hi : i < n) (hi2 : i < n2) (hx : F i = x) (hs : hasSh s x = true) (h : X = r) :
    (if decide ((i : Int) < (n : Int)) = true then (if 0 ≤ (i : Int) then (if (i : Int) < (n2 : Int) then (if hasSh s (F (i : Int).toNat) = true then X else none) else none) else none) else Y) = r :=
  ip (by rw [decide_eq_true_eq]; omega) (ip (by omega) (ip (by omega) (ip (by rw [Int.toNat_natCast, hx]; exact hs) h)))
theorem joinF_b (l : List ByteArray) (F : Nat → PV) (hF : ∀ i (h : i < l.length), F i = .sc (.string l[i])) (hl : l.length ≤ 1000000) : ∀ (m i : Nat) (s : ByteArray), i + m = l.length → s.size ≤ 256 →
    f60.l0b 0 l.length F (l.length : Int) (i : Int) (strB s) = some (pvJ (if (s ++ catL (l.drop i)).size ≤ 256 then (s ++ catL (l.drop i), true) else (E, false))) := by
  intro m
  induction m with
  | zero =>
    intro i s he hs
    rw [f60.l0b_eq, List.drop_eq_nil_of_le (by omega)]
    refine lpe (by omega) ?_
    refine hb (bstring_ev s) rfl rfl ?_
    have e : s ++ catL [] = s := app_E s
    rw [e, if_pos hs]
    rfl
  | succ m ih =>
    intro i s he hs
    have hi : i < l.length := by omega
    rw [f60.l0b_eq]
    refine lpcF hi hi (hF i hi) rfl ?_
    simp only [Int.toNat_natCast, hF i hi, ts]
    refine hb (blen_ev _) rfl rfl ?_
    rw [drop_at hi]
    have e1 : s ++ catL (l[i] :: l.drop (i + 1)) = (s ++ l[i]) ++ catL (l.drop (i + 1)) := by simp [catL, ByteArray.append_assoc]
    rw [e1]
    have e2 : IntKind.i64.wrap ((256 : Int) - ((strB s).length : Int)) = 256 - (s.size : Int) := by rw [strB_len, w64 (by omega) (by omega)]
    show (if decide (((l[i].size : Nat) : Int) > IntKind.i64.wrap ((256 : Int) - ((strB s).length : Int))) = true then _ else _) = _
    rw [e2]
    by_cases h : (s ++ l[i]).size ≤ 256
    · have h2 := h
      rw [size_app] at h2
      refine im (by rw [decide_eq_true_eq]; omega) ?_
      refine hb (bwrite_ev (strB s) l[i] (by rw [strB_len]; omega)) rfl rfl ?_
      rw [nx hi (by omega)]
      show f60.l0b 0 _ _ _ _ (strB s ++ strB l[i]) = _
      rw [strB_append]
      exact ih (i + 1) (s ++ l[i]) (by omega) h
    · have h2 := h
      rw [size_app] at h2
      refine ip (by rw [decide_eq_true_eq]; omega) ?_
      rw [if_neg (by rw [size_app]; omega)]
      rfl
theorem joinF_ev (l : List ByteArray) (F : Nat → PV) (hF : ∀ i (h : i < l.length), F i = .sc (.string l[i])) (hl : l.length ≤ 1000000) : D 60 [.lst 1 l.length F] = some (pvJ (joinS l)) := by
  refine (f60_eq 0 l.length F).trans ?_
  rw [f60.l0a_eq]
  unfold joinS
  by_cases h0 : 0 < l.length
  · refine lpcF (i := 0) h0 h0 (hF 0 h0) rfl ?_
    have e0 : F (0 : Int).toNat = .sc (.string l[0]) := hF 0 h0
    simp only [e0, ts]
    refine hb (blen_ev _) rfl rfl ?_
    have ed : l = l[0] :: l.drop 1 := by have := drop_at h0; rwa [List.drop_zero] at this
    have e1 : catL l = l[0] ++ catL (l.drop 1) := by
      conv => lhs; rw [ed]
      rfl
    rw [e1]
    show (if decide (((l[0].size : Nat) : Int) > IntKind.i64.wrap ((256 : Int) - (([] : List PV).length : Int))) = true then _ else _) = _
    rw [show IntKind.i64.wrap ((256 : Int) - (([] : List PV).length : Int)) = 256 from rfl]
    by_cases h : l[0].size ≤ 256
    · refine im (by rw [decide_eq_true_eq]; omega) ?_
      refine hb (bwrite_ev [] l[0] (by simp; omega)) rfl rfl ?_
      rw [show IntKind.i64.wrap ((0 : Int) + 1) = ((1 : Nat) : Int) from rfl]
      exact joinF_b l F hF hl (l.length - 1) 1 l[0] (by omega) h
    · refine ip (by rw [decide_eq_true_eq]; omega) ?_
      rw [if_neg (by rw [size_app]; omega)]
      rfl
  · have hl0 : l = [] := List.eq_nil_of_length_eq_zero (by omega)
    subst hl0
    refine lpe (i := 0) (by simp) ?_
    exact hb (bstring_ev E) rfl rfl rfl
theorem catL_app : ∀ l m : List ByteArray, catL (l ++ m) = catL l ++ catL m
  | [], m => (E_app _).symm
  | s :: l, m => by rw [List.cons_append, catL, catL, catL_app l m, ByteArray.append_assoc]
theorem fin14 (l : List ByteArray) (k : Nat) (hl : l.length ≤ 60) (hk : k ≤ l.length) (hs : ∀ s, s ∈ l → s.size ≤ 400) :
    f14.l0a 0 (sp l).length (fun i => (sp l).getD i .top) (k : Int) (sp l).length (fun i => (sp l).getD i .top) ((sp l).length : Int) (l.length : Int) = some (.sc (.bool true)) := by
  rw [f14.l0a_eq]
  refine lpe (by rw [sp_len]; omega) ?_
  refine cb (join_ev l (by omega)) rfl (cb (rjoin_ev l (by omega) (fun s h => by have := hs s h; omega)) rfl ?_)
  have q0 : (cel 0 (pvJ (joinS l)).parts).toStr = (joinS l).1 := rfl
  have q1 : (cel 1 (pvJ (joinS l)).parts).toBool = (joinS l).2 := rfl
  have q2 : (cel 0 (pvK (joinS l)).cells).toStr = (joinS l).1 := rfl
  have q3 : (cel 1 (pvK (joinS l)).cells).toBool = (joinS l).2 := rfl
  rw [bO]
  simp only [q0, q1, q2, q3, tb]
  refine im (by simp) (ip (by omega) (ip (by rw [sp_len]; omega) (ip (by omega) ?_)))
  have e1 : ((k : Int) - 0).toNat = (l.take k).length := by rw [List.length_take]; omega
  rw [e1]
  refine cb (joinF_ev (l.take k) _ (fun i h => ?_) (by rw [List.length_take]; omega)) rfl ?_
  · rw [List.length_take] at h
    have hi : i < l.length := by omega
    show (sp l).getD (0 + i) .top = _
    rw [Nat.zero_add, sp_get hi, List.getElem_take]
  refine ip (by omega) (ip (Int.le_refl _) (ip (by omega) (ip (by rw [sp_len]; omega) ?_)))
  have e2 : (((sp l).length : Int) - (k : Int)).toNat = (l.drop k).length := by rw [List.length_drop, sp_len]; omega
  rw [e2]
  refine cb (joinF_ev (l.drop k) _ (fun i h => ?_) (by rw [List.length_drop]; omega)) rfl ?_
  · rw [List.length_drop] at h
    have hi : k + i < l.length := by omega
    show (sp l).getD ((k : Int).toNat + i) .top = _
    rw [Int.toNat_natCast, sp_get hi, List.getElem_drop]
  have r0 : ∀ m, (cel 0 (pvJ (joinS m)).parts).toStr = (joinS m).1 := fun _ => rfl
  have r1 : ∀ m, (cel 1 (pvJ (joinS m)).parts).toBool = (joinS m).2 := fun _ => rfl
  simp only [r0, r1, alive14_ev]
  by_cases h : (catL l).size ≤ 256
  · have ec : catL l = catL (l.take k) ++ catL (l.drop k) := by rw [← catL_app, List.take_append_drop]
    have hz := h
    rw [ec, size_app] at hz
    have j0 : joinS l = (catL l, true) := if_pos h
    have j1 : joinS (l.take k) = (catL (l.take k), true) := if_pos (by omega)
    have j2 : joinS (l.drop k) = (catL (l.drop k), true) := if_pos (by omega)
    simp only [j0, j1, j2]
    have hle : (catL (l.take k)).size + (catL (l.drop k)).size ≤ 9223372036854775807 := by omega
    simp only [if_pos hle, ← ec]
    simp
  · have j0 : joinS l = (E, false) := if_neg h
    simp only [j0]
    simp
theorem loop14 (l : List ByteArray) (k : Nat) (hl : l.length ≤ 60) (hk : k ≤ l.length) : ∀ (m i : Nat), i + m = l.length → (∀ j (h : j < l.length), j < i → l[j].size ≤ 400) →
    f14.l0a 0 (sp l).length (fun i => (sp l).getD i .top) (k : Int) (sp l).length (fun i => (sp l).getD i .top) ((sp l).length : Int) (i : Int) = some (.sc (.bool true)) := by
  intro m
  induction m with
  | zero =>
    intro i he hs
    obtain rfl : i = l.length := by omega
    refine fin14 l k hl hk fun s h => ?_
    obtain ⟨j, hj, rfl⟩ := List.getElem_of_mem h
    exact hs j hj hj
  | succ m ih =>
    intro i he hs
    have hi : i < l.length := by omega
    rw [f14.l0a_eq]
    refine lpc (by rw [sp_len]; omega) (by rw [sp_len]; omega) (sp_sh hi) ?_
    simp only [Int.toNat_natCast, sp_get hi, ts]
    by_cases h : l[i].size > 400
    · exact ip (by rw [decide_eq_true_eq]; omega) (cb alive14_ev rfl rfl)
    · refine im (by rw [decide_eq_true_eq]; omega) ?_
      rw [nx hi (by omega)]
      refine ih (i + 1) (by omega) fun j hj hji => ?_
      by_cases e : j = i
      · subst e; omega
      · exact hs j hj (by omega)
theorem textJoins_D (l : List ByteArray) (k : Int) : D 14 [frozen 1 (sp l), .sc (.int .i64 k)] = some (.sc (.bool true)) := by
  refine (f14_eq 0 (sp l).length _ k).trans ?_
  simp only [bO, tb]
  by_cases h : l.length > 60 ∨ k < 0 ∨ k > l.length
  · refine ip ?_ (cb alive14_ev rfl rfl)
    rw [sp_len]
    simp only [Bool.or_eq_true, decide_eq_true_eq]
    omega
  · refine im ?_ ?_
    · rw [sp_len]
      simp only [Bool.or_eq_true, decide_eq_true_eq]
      omega
    · obtain ⟨k, rfl⟩ := Int.eq_ofNat_of_zero_le (show 0 ≤ k by omega)
      exact loop14 l k (by omega) (by omega) l.length 0 (by omega) (fun j _ h => by omega)
theorem strs_of {xs : List PV} (h : ∀ x, x ∈ xs → Ty Tryd.prog 9 x.cells ∧ x = ofCells Tryd.prog 9 x.cells) : ∃ l : List ByteArray, xs = sp l := by
  induction xs with
  | nil => exact ⟨[], rfl⟩
  | cons x xs ih =>
    obtain ⟨l, e⟩ := ih fun y hy => h y (List.mem_cons_of_mem _ hy)
    obtain ⟨h1, h2⟩ := h x List.mem_cons_self
    obtain ⟨t, e2, _⟩ := of9 h1
    rw [e2, on9] at h2
    exact ⟨t :: l, by rw [e, h2]; rfl⟩
theorem textJoins_law (W : World) (vs : List Value) (xs : List PV) (h : Handed Tryd.prog W [77, 3] vs xs) : D 14 xs = some (.sc (.bool true)) := by
  obtain ⟨a, _, _, rfl, ha, h⟩ := handed_cons h
  obtain ⟨b, _, _, rfl, hb, h⟩ := handed_cons h
  obtain rfl := handed_nil h
  obtain ⟨a, rfl, _, la, ha⟩ := of77 ha
  obtain ⟨a, rfl⟩ := strs_of ha
  obtain ⟨b, rfl, _⟩ := of3 hb
  rw [on77, on3]
  exact textJoins_D a b
end Go.Den.ET
