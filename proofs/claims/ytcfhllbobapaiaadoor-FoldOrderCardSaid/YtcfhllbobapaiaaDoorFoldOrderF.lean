/- In which order values are taken: the law. -/
import Derived.Test.YtcfhllbobapaiaaDoorFoldFF
import Derived.Test.YtcfhllbobapaiaaDoorTyF
set_option linter.unusedVariables false
set_option linter.unusedSimpArgs false
set_option maxRecDepth 100000
namespace Go.Den.EF
open Go Go.Proofs
theorem alive15_ev : D 33 [] = some (.sc (.bool true)) := denI_of (k := 80) (by kernel_rfl)
theorem same_v (v : Vl) : (((v.kind == v.kind) && ((v.num == v.num) && ((v.text.toList == v.text.toList) && true)))) = true := by simp
theorem fault_rev (l : List Vl) : (faultO l = none ∧ faultO l.reverse = none) ∨ ∃ v w, faultO l = some v ∧ faultO l.reverse = some w := by
  cases h : faultO l with
  | none =>
    refine .inl ⟨rfl, ?_⟩
    have h2 := faultO_none h
    unfold faultO
    rw [List.find?_eq_none]
    intro x hx
    have := h2 x (List.mem_reverse.1 hx)
    simpa using this
  | some v =>
    cases h3 : faultO l.reverse with
    | none => exact absurd (faultO_kind h) (faultO_none h3 v (List.mem_reverse.2 (faultO_mem h)))
    | some w => exact .inr ⟨v, w, rfl, rfl⟩
theorem at_rev {l : List Vl} {i : Nat} (h : i < l.length) : l[l.length - 1 - i]? = l.reverse[i]? := by
  rw [List.getElem?_reverse h]
theorem getS {l : List Vl} {i : Nat} {v : Vl} (h : l[i]? = some v) : (vp l).getD i .top = v.pv := by
  unfold vp
  rw [List.getD_eq_getElem?_getD, List.getElem?_map, h]; rfl
theorem vp_app (l : List Vl) (v : Vl) : vp l ++ [v.pv] = vp (l ++ [v]) := by simp [vp]
theorem end_ev (l : List Vl) (hl : l.length ≤ 200) (hn : ∀ v, v ∈ l → I64 v.num) (k : Int) :
    f9.l0b 0 (vp l).length (fun i => (vp l).getD i .top) (l.length : Int) (l.length : Int) (vp l.reverse) = some (.sc (.bool true)) := by
  have hr : l.reverse.length ≤ 1000 := by rw [List.length_reverse]; omega
  have hl : l.length ≤ 1000 := by omega
  have hnr : ∀ v, v ∈ l.reverse → I64 v.num := fun v hv => hn v (List.mem_reverse.1 hv)
  rw [f9.l0b_eq]
  refine lpe (Nat.lt_irrefl _) (cb (rffault_ev l (by omega)) rfl ?_)
  rcases faultI_spec l with ⟨h1, h2⟩ | ⟨i, hi, h1, h2⟩
  · rw [h2]
    refine im (by decide) ?_
    have h3 : faultO l.reverse = none := by
      rcases fault_rev l with ⟨_, h⟩ | ⟨v, w, h, _⟩
      · exact h
      · rw [h1] at h; cases h
    have fl : ∀ v, fOr l v = v := fun v => by unfold fOr; rw [h1]
    have fr : ∀ v, fOr l.reverse v = v := fun v => by unfold fOr; rw [h3]
    have e1 := sum_ev l hl hn
    have e2 := sum_ev l.reverse hr hnr
    have e3 := least_ev l hl
    have e4 := least_ev l.reverse hr
    have e5 := most_ev l hl
    have e6 := most_ev l.reverse hr
    have e7 := fcount_ev l 0 hl
    have e8 := fcount_ev l.reverse 0 hr
    rw [fl] at e1 e3 e5
    rw [fr] at e2 e4 e6
    rw [nums_rev, best_rev] at e4 e6
    rw [cnt_rev] at e8
    refine cb e1 rfl (cb e2 rfl ?_)
    simp only [bA, tb]
    simp only [Vl.c0, Vl.c1, Vl.c2]
    have key : ∀ x y : Int × Bool, (x.2 = true → x.1 = (nums l).sum) → (y.2 = true → y.1 = (nums l).sum) → (((gotV x.1 x.2).kind == 1 && (gotV y.1 y.2).kind == 1) && (!((gotV x.1 x.2).kind == (gotV y.1 y.2).kind && ((gotV x.1 x.2).num == (gotV y.1 y.2).num && ((gotV x.1 x.2).text.toList == (gotV y.1 y.2).text.toList && true))))) = false := by
      intro x y hx hy
      have kb : (badV 4).kind = 4 := by rw [bad_4]
      rcases x with ⟨x, _ | _⟩
      · simp [gotV, kb]
      · rcases y with ⟨y, _ | _⟩
        · simp [gotV, kb]
        · have a := hx rfl
          have b := hy rfl
          dsimp only at a b
          subst a; subst b
          rw [same_v]; simp
    refine im (by rw [key _ _ (fun h => by rw [sumS_sum _ _ h]; omega) (fun h => by rw [sumS_sum _ _ h, nums_rev, List.sum_reverse]; omega)]; decide) (cb e4 rfl (cb e3 rfl ?_))
    simp only [Vl.c0, Vl.c1, Vl.c2, same_v, if_true]
    rw [show (PV.lst 3 (vp l).length fun i => (vp l).getD i .top) = frozen 3 (vp l) from rfl, e5, e6, e7, e8, alive15_ev]
    simp [same_v]
  · rw [h1]
    refine ip (by rw [ti, decide_eq_true_eq]; omega) ?_
    obtain ⟨w, h4⟩ : ∃ w, faultO l.reverse = some w := by
      rcases fault_rev l with ⟨h, _⟩ | ⟨v, w, _, h⟩
      · rw [h2] at h; cases h
      · exact ⟨w, h⟩
    have fr : ∀ v, fOr l.reverse v = w := fun v => by unfold fOr; rw [h4]
    rcases faultI_spec l.reverse with ⟨h5, h6⟩ | ⟨j, hj, h5, h6⟩
    · rw [h5] at h4; cases h4
    · rw [h4] at h6
      have h6 : w = l.reverse[j] := by injection h6
      refine cb (rffault_ev l.reverse (by omega)) rfl ?_
      rw [h5]
      have e2 := sum_ev l.reverse hr hnr
      have e4 := least_ev l.reverse hr
      have e6 := mean_ev l.reverse hr hnr
      have e8 := concat_ev l.reverse hr hnr
      rw [fr] at e2 e4 e6
      rw [h4] at e8
      refine cb e2 rfl (rfault_at hj ?_)
      have c1 : (0 : Int) ≤ (j : Int) := by omega
      have c2 : (j : Int) < ((vp l.reverse).length : Int) := by rw [vp_len]; omega
      simp only [ti, Int.toNat_natCast, vp_get hj, ← h6, Vl.c0, Vl.c1, Vl.c2, same_v, if_true, e4, e6, e8, if_pos c1, if_pos c2, alive15_ev]
      simp [same_v]
theorem back_b (l : List Vl) (hl : l.length ≤ 200) (hn : ∀ v, v ∈ l → I64 v.num) : ∀ (m i : Nat), i + m = l.length →
    f9.l0b 0 (vp l).length (fun i => (vp l).getD i .top) (l.length : Int) (i : Int) (vp (l.reverse.take i)) = some (.sc (.bool true)) := by
  intro m
  induction m with
  | zero =>
    intro i he
    obtain rfl : i = l.length := by omega
    rw [List.take_of_length_le (by rw [List.length_reverse]; omega)]
    exact end_ev l hl hn 0
  | succ m ih =>
    intro i he
    have hi : i < l.length := by omega
    have hi2 : i < l.reverse.length := by rw [List.length_reverse]; exact hi
    rw [f9.l0b_eq]
    refine ip (by rw [decide_eq_true_eq]; omega) ?_
    have ex : IntKind.i64.wrap (IntKind.i64.wrap (((vp l).length : Int) - 1) - (i : Int)) = ((l.length - 1 - i : Nat) : Int) := by
      rw [vp_len, w64 (x := (l.length : Int) - 1) (by omega) (by omega), w64 (by omega) (by omega)]; omega
    have eg : (vp l).getD (l.length - 1 - i) .top = l.reverse[i].pv := getS (by rw [at_rev hi, List.getElem?_eq_getElem hi2])
    simp only [ex, Int.toNat_natCast, eg]
    refine ip (by omega) (ip (by rw [vp_len]; omega) (ip rfl ?_))
    simp only [Vl.c0, Vl.c1, Vl.c2, Vl.fold, Vl.rb]
    refine ip (by rw [vp_len, List.length_take]; simp; omega) ?_
    rw [nx hi (by omega), vp_app, show l.reverse.take i ++ [l.reverse[i]] = l.reverse.take (i + 1) from (List.take_append_getElem hi2)]
    exact ih (i + 1) (by omega)
theorem back_a (l : List Vl) (h0 : l ≠ []) (hl : l.length ≤ 200) (hn : ∀ v, v ∈ l → I64 v.num) :
    f9.l0a 0 (vp l).length (fun i => (vp l).getD i .top) (l.length : Int) 0 = some (.sc (.bool true)) := by
  have hi : 0 < l.length := List.length_pos_iff.2 h0
  have hi2 : 0 < l.reverse.length := by rw [List.length_reverse]; exact hi
  rw [f9.l0a_eq]
  refine ip (by rw [decide_eq_true_eq]; omega) ?_
  have ex : IntKind.i64.wrap (IntKind.i64.wrap (((vp l).length : Int) - 1) - (0 : Int)) = ((l.length - 1 - 0 : Nat) : Int) := by
    rw [vp_len, w64 (x := (l.length : Int) - 1) (by omega) (by omega), w64 (by omega) (by omega)]; omega
  have eg : (vp l).getD (l.length - 1 - 0) .top = l.reverse[0].pv := getS (by rw [at_rev hi, List.getElem?_eq_getElem hi2])
  simp only [ex, Int.toNat_natCast, eg]
  refine ip (by omega) (ip (by rw [vp_len]; omega) (ip rfl ?_))
  simp only [Vl.c0, Vl.c1, Vl.c2, Vl.fold, Vl.rb]
  refine ip (by simp) ?_
  have := back_b l hl hn (l.length - 1) 1 (by omega)
  rw [show l.reverse.take 1 = [l.reverse[0]] from (List.take_append_getElem hi2).symm] at this
  exact this
theorem foldOrder_D (l : List Vl) (hn : ∀ v, v ∈ l → I64 v.num) : D 9 [frozen 3 (vp l)] = some (.sc (.bool true)) := by
  by_cases h0 : l = []
  · subst h0
    exact denI_of (k := 80) (by kernel_rfl)
  refine (f9_eq 0 (vp l).length _).trans ?_
  refine cb (right_ev l (fun v hv => (hn v hv).1) 200 (by decide)) rfl ?_
  simp only [tb]
  cases h : rightL l 200
  · exact ip rfl (cb alive15_ev rfl rfl)
  · refine im (by decide) ?_
    unfold rightL at h
    rw [Bool.and_eq_true, decide_eq_true_eq] at h
    have := back_a l h0 h.1 hn
    rw [vp_len] at this ⊢
    exact this
theorem vals_of {xs : List PV} (h : ∀ x, x ∈ xs → Ty Tryd.prog 51 x.cells ∧ x = ofCells Tryd.prog 51 x.cells) : ∃ l : List Vl, xs = vp l ∧ ∀ v, v ∈ l → I64 v.num := by
  induction xs with
  | nil => exact ⟨[], rfl, fun v hv => by cases hv⟩
  | cons x xs ih =>
    obtain ⟨l, e, hl⟩ := ih fun y hy => h y (List.mem_cons_of_mem _ hy)
    obtain ⟨h1, h2⟩ := h x List.mem_cons_self
    obtain ⟨k, n, t, e2, _, hb, _⟩ := of51 h1
    rw [e2, ag51] at h2
    refine ⟨⟨k, n, t⟩ :: l, by rw [e, h2]; rfl, fun v hv => ?_⟩
    rcases List.mem_cons.1 hv with rfl | hv
    · exact hb
    · exact hl v hv
theorem foldOrder_law (W : World) (vs : List Value) (xs : List PV) (h : Handed Tryd.prog W [56] vs xs) : D 9 xs = some (.sc (.bool true)) := by
  obtain ⟨a, _, _, rfl, ha, h⟩ := handed_cons h
  obtain rfl := handed_nil h
  obtain ⟨a, rfl, _, la, ha⟩ := of56 ha
  obtain ⟨a, rfl, hn⟩ := vals_of ha
  rw [on56]
  exact foldOrder_D a hn
end Go.Den.EF
