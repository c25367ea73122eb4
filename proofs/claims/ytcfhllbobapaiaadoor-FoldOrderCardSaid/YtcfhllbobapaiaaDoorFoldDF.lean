/- Lists of values: numbers, the best one, how many (the functions). -/
import Derived.Test.YtcfhllbobapaiaaDoorFoldCF
set_option linter.unusedVariables false
set_option linter.unusedSimpArgs false
set_option maxRecDepth 100000
namespace Go.Den.EF
open Go Go.Proofs
def nums : List Vl → List Int
  | [] => []
  | v :: l => if v.kind = 1 then v.num :: nums l else nums l
theorem nums_len : ∀ l : List Vl, (nums l).length ≤ l.length
  | [] => Nat.le_refl _
  | v :: l => by
    have := nums_len l
    unfold nums
    split <;> simp <;> omega
theorem nums_app : ∀ l m : List Vl, nums (l ++ m) = nums l ++ nums m
  | [], m => rfl
  | v :: l, m => by
    rw [List.cons_append, nums, nums, nums_app l m]
    split <;> rfl
theorem nums_rev : ∀ l : List Vl, nums l.reverse = (nums l).reverse
  | [] => rfl
  | v :: l => by
    rw [List.reverse_cons, nums_app, nums_rev l]
    by_cases h : v.kind = 1 <;> simp [nums, h]
theorem nums_i {l : List Vl} (hn : ∀ v, v ∈ l → I64 v.num) : ∀ x, x ∈ nums l → I64 x := by
  induction l with
  | nil => intro x hx; cases hx
  | cons v l ih =>
    intro x hx
    rw [nums] at hx
    split at hx
    · rcases List.mem_cons.1 hx with rfl | hx
      · exact hn _ List.mem_cons_self
      · exact ih (fun v hv => hn v (List.mem_cons_of_mem _ hv)) x hx
    · exact ih (fun v hv => hn v (List.mem_cons_of_mem _ hv)) x hx
theorem ip_app (l : List Int) (s : Int) : ip_ l ++ [.sc (.int .i64 s)] = ip_ (l ++ [s]) := by simp [ip_]
theorem frz0 (k : Nat) : frozen k ([] : List PV) = .lst k 0 (fun _ => .top) := rfl
theorem numbers_b (l : List Vl) (hl : l.length ≤ 1000) : ∀ (m i : Nat) (ns : List Int), i + m = l.length → ns.length ≤ i →
    f137.l0b 0 (vp l).length (fun i => (vp l).getD i .top) ((vp l).length : Int) (i : Int) 0 0 E (ip_ ns) = some (.tup [frozen 1 (ip_ (ns ++ nums (l.drop i))), (Vl.mk 0 0 E).pv]) := by
  intro m
  induction m with
  | zero =>
    intro i ns he hw
    rw [f137.l0b_eq, List.drop_eq_nil_of_le (by omega)]
    refine lpe (by rw [vp_len]; omega) ?_
    rw [nums, List.append_nil]; rfl
  | succ m ih =>
    intro i ns he hw
    have hi : i < l.length := by omega
    rw [f137.l0b_eq]
    refine lpc (by rw [vp_len]; omega) (by rw [vp_len]; omega) (vp_sh hi) ?_
    simp only [Int.toNat_natCast, vp_get hi, Vl.c0, Vl.c1, Vl.c2, Vl.fold, Vl.rb]
    rw [drop_at hi, nums]
    by_cases h : l[i].kind = 1
    · rw [if_pos h]
      refine ip (by simp [h]) (ip (by rw [ip_len]; simp; omega) ?_)
      rw [nx hi (by omega), ip_app, ih (i + 1) _ (by omega) (by simp; omega), List.append_assoc]
      rfl
    · rw [if_neg h]
      refine im (by simp [h]) ?_
      rw [nx hi (by omega)]
      exact ih (i + 1) ns (by omega) (by omega)
theorem numbers_a (l : List Vl) (hl : l.length ≤ 1000) : ∀ (m i : Nat), i + m = l.length →
    f137.l0a 0 (vp l).length (fun i => (vp l).getD i .top) ((vp l).length : Int) (i : Int) 0 0 E = some (.tup [frozen 1 (ip_ (nums (l.drop i))), (Vl.mk 0 0 E).pv]) := by
  intro m
  induction m with
  | zero =>
    intro i he
    rw [f137.l0a_eq, List.drop_eq_nil_of_le (by omega)]
    exact lpe (by rw [vp_len]; omega) rfl
  | succ m ih =>
    intro i he
    have hi : i < l.length := by omega
    rw [f137.l0a_eq]
    refine lpc (by rw [vp_len]; omega) (by rw [vp_len]; omega) (vp_sh hi) ?_
    simp only [Int.toNat_natCast, vp_get hi, Vl.c0, Vl.c1, Vl.c2, Vl.fold, Vl.rb]
    rw [drop_at hi, nums]
    by_cases h : l[i].kind = 1
    · rw [if_pos h]
      refine ip (by simp [h]) (ip (by simp) ?_)
      rw [nx hi (by omega)]
      exact numbers_b l hl m (i + 1) [l[i].num] (by omega) (by simp)
    · rw [if_neg h]
      refine im (by simp [h]) ?_
      rw [nx hi (by omega)]
      exact ih (i + 1) (by omega)
def numsF (l : List Vl) : List Int := match faultO l with | some _ => [] | none => nums l
theorem numbers_ev (l : List Vl) (hl : l.length ≤ 1000) : D 137 [frozen 3 (vp l)] = some (.tup [frozen 1 (ip_ (numsF l)), (faultV l).pv]) := by
  refine (f137_eq 0 (vp l).length _).trans (cb (ffault_ev l (by omega)) rfl ?_)
  unfold faultV numsF
  simp only [Vl.c0, Vl.c1, Vl.c2, Vl.fold, Vl.rb]
  cases hf : faultO l with
  | some v => exact ip (by simp [faultO_kind hf]) rfl
  | none => exact im (by decide) (numbers_a l hl l.length 0 (by omega))
theorem rnumbers_b (l : List Vl) (hl : l.length ≤ 1000) : ∀ (m i : Nat) (ns : List Int), i + m = l.length → ns.length ≤ i →
    f89.l0b 0 (vp l).length (fun i => (vp l).getD i .top) (i : Int) (ip_ ns) = some (frozen 1 (ip_ (ns ++ nums (l.drop i)))) := by
  intro m
  induction m with
  | zero =>
    intro i ns he hw
    rw [f89.l0b_eq, List.drop_eq_nil_of_le (by omega)]
    refine lpe (by rw [vp_len]; omega) ?_
    rw [nums, List.append_nil]
  | succ m ih =>
    intro i ns he hw
    have hi : i < l.length := by omega
    rw [f89.l0b_eq]
    refine lpc (by rw [vp_len]; omega) (by rw [vp_len]; omega) (vp_sh hi) ?_
    have c1 : (0 : Int) ≤ (i : Int) := by omega
    have c2 : (i : Int) < ((vp l).length : Int) := by rw [vp_len]; omega
    simp only [Int.toNat_natCast, vp_get hi, Vl.c0, Vl.c1, Vl.c2, Vl.fold, Vl.rb, if_pos c1, if_pos c2, Vl.sh, if_true]
    rw [drop_at hi, nums]
    by_cases h : l[i].kind = 1
    · rw [if_pos h]
      refine ip (by simp [h]) (ip (by rw [ip_len]; simp; omega) ?_)
      rw [nx hi (by omega), ip_app, ih (i + 1) _ (by omega) (by simp; omega), List.append_assoc]
      rfl
    · rw [if_neg h]
      refine im (by simp [h]) ?_
      rw [nx hi (by omega)]
      exact ih (i + 1) ns (by omega) (by omega)
theorem rnumbers_a (l : List Vl) (hl : l.length ≤ 1000) : ∀ (m i : Nat), i + m = l.length →
    f89.l0a 0 (vp l).length (fun i => (vp l).getD i .top) (i : Int) = some (frozen 1 (ip_ (nums (l.drop i)))) := by
  intro m
  induction m with
  | zero =>
    intro i he
    rw [f89.l0a_eq, List.drop_eq_nil_of_le (by omega)]
    exact lpe (by rw [vp_len]; omega) rfl
  | succ m ih =>
    intro i he
    have hi : i < l.length := by omega
    rw [f89.l0a_eq]
    refine lpc (by rw [vp_len]; omega) (by rw [vp_len]; omega) (vp_sh hi) ?_
    have c1 : (0 : Int) ≤ (i : Int) := by omega
    have c2 : (i : Int) < ((vp l).length : Int) := by rw [vp_len]; omega
    simp only [Int.toNat_natCast, vp_get hi, Vl.c0, Vl.c1, Vl.c2, Vl.fold, Vl.rb, if_pos c1, if_pos c2, Vl.sh, if_true]
    rw [drop_at hi, nums]
    by_cases h : l[i].kind = 1
    · rw [if_pos h]
      refine ip (by simp [h]) (ip (by simp) ?_)
      rw [nx hi (by omega)]
      exact rnumbers_b l hl m (i + 1) [l[i].num] (by omega) (by simp)
    · rw [if_neg h]
      refine im (by simp [h]) ?_
      rw [nx hi (by omega)]
      exact ih (i + 1) (by omega)
theorem rnumbers_ev (l : List Vl) (hl : l.length ≤ 1000) : D 89 [frozen 3 (vp l)] = some (frozen 1 (ip_ (numsF l))) := by
  refine (f89_eq 0 (vp l).length _).trans (cb (rffault_ev l (by omega)) rfl ?_)
  unfold numsF
  rcases faultI_spec l with ⟨h1, h2⟩ | ⟨i, hi, h1, h2⟩
  · rw [h1, h2]
    exact im (by decide) (rnumbers_a l hl l.length 0 (by omega))
  · rw [h1, h2]
    exact ip (by rw [ti, decide_eq_true_eq]; omega) rfl
/-- The best one. -/
def bet (m : Bool) (x o : Int) : Bool := if m then decide (x > o) else decide (x < o)
def bst (m : Bool) (o : Int) : List Int → Int
  | [] => o
  | x :: xs => bst m (if bet m x o = true then x else o) xs
def bestL (m : Bool) : List Int → Int
  | [] => 0
  | x :: xs => bst m x xs
theorem bst_mem (m : Bool) : ∀ (xs : List Int) (o : Int), bst m o xs = o ∨ bst m o xs ∈ xs
  | [], o => .inl rfl
  | x :: xs, o => by
    rw [bst]
    rcases bst_mem m xs (if bet m x o = true then x else o) with h | h
    · rw [h]
      split
      · exact .inr List.mem_cons_self
      · exact .inl rfl
    · exact .inr (List.mem_cons_of_mem _ h)
theorem bst_best (m : Bool) : ∀ (xs : List Int) (o : Int), bet m o (bst m o xs) = false ∧ ∀ x, x ∈ xs → bet m x (bst m o xs) = false
  | [], o => by cases m <;> simp [bst, bet]
  | x :: xs, o => by
    have ⟨h1, h2⟩ := bst_best m xs (if bet m x o = true then x else o)
    rw [bst]
    generalize bst m (if bet m x o = true then x else o) xs = r at *
    have h3 : bet m o r = false ∧ bet m x r = false := by
      cases m <;> simp only [bet, Bool.false_eq_true, if_true, if_false, decide_eq_false_iff_not, decide_eq_true_eq] at * <;> split at h1 <;> omega
    refine ⟨h3.1, fun y hy => ?_⟩
    rcases List.mem_cons.1 hy with rfl | hy
    · exact h3.2
    · exact h2 y hy
theorem best_spec (m : Bool) {xs : List Int} (h : xs ≠ []) : bestL m xs ∈ xs ∧ ∀ x, x ∈ xs → bet m x (bestL m xs) = false := by
  cases xs with
  | nil => exact absurd rfl h
  | cons x xs =>
    have ⟨h1, h2⟩ := bst_best m xs x
    refine ⟨?_, fun y hy => ?_⟩
    · rcases bst_mem m xs x with h | h
      · rw [bestL, h]; exact List.mem_cons_self
      · exact List.mem_cons_of_mem _ h
    · rcases List.mem_cons.1 hy with rfl | hy
      · exact h1
      · exact h2 y hy
theorem best_rev (m : Bool) (xs : List Int) : bestL m xs.reverse = bestL m xs := by
  by_cases h : xs = []
  · subst h; rfl
  · have ⟨h1, h2⟩ := best_spec m h
    have ⟨h3, h4⟩ := best_spec m (xs := xs.reverse) (by simpa using h)
    have h5 := h2 _ (List.mem_reverse.1 h3)
    have h6 := h4 _ (List.mem_reverse.2 h1)
    cases m <;> simp only [bet, Bool.false_eq_true, if_true, if_false, decide_eq_false_iff_not] at h5 h6 <;> omega
theorem best_i (m : Bool) {xs : List Int} (h : ∀ x, x ∈ xs → I64 x) : I64 (bestL m xs) := by
  by_cases h0 : xs = []
  · subst h0; show I64 0; unfold I64; omega
  · exact h _ (best_spec m h0).1
def fOr (l : List Vl) (v : Vl) : Vl := match faultO l with | some w => w | none => v
theorem lt_ev (a b : Int) : D 88 [.sc (.int .i64 a), .sc (.int .i64 b)] = some (.sc (.bool (bet false a b))) := f88_eq 0 a b
theorem least_l (ns : List Int) (hl : ns.length ≤ 1000) : ∀ (m i : Nat) (o : Int), (i + 1) + m = ns.length →
    f87s88.l0a 0 o (ip_ ns).length (fun i => (ip_ ns).getD i .top) ((ip_ ns).length : Int) ((i + 1 : Nat) : Int) 0 0 E = some (numV (bst false o (ns.drop (i + 1)))).pv := by
  intro m
  induction m with
  | zero =>
    intro i o he
    rw [f87s88.l0a_eq, List.drop_eq_nil_of_le (by omega)]
    exact lpe (by rw [ip_len]; omega) (cb (num_ev _) rfl rfl)
  | succ m ih =>
    intro i o he
    have hi : i + 1 < ns.length := by omega
    rw [f87s88.l0a_eq]
    refine lpc (by rw [ip_len]; omega) (by rw [ip_len]; omega) (ip_sh hi) ?_
    simp only [Int.toNat_natCast, ip_get hi, ti, lt_ev, bs, shb, if_true, tb, bO]
    rw [drop_at hi, bst, nx hi (by omega), show ((((i + 1 : Nat) : Int) == 0) = false) from by simp; omega, Bool.false_or]
    by_cases h : bet false ns[i + 1] o = true
    · rw [if_pos h]
      exact ip h (ih (i + 1) _ (by omega))
    · rw [if_neg h]
      exact im h (ih (i + 1) _ (by omega))
theorem least_ev (l : List Vl) (hl : l.length ≤ 1000) : D 34 [frozen 3 (vp l)] = some (fOr l (numV (bestL false (nums l)))).pv := by
  refine (f34_eq 0 (vp l).length _).trans ?_
  have hb : D 87 [frozen 3 (vp l), .sc (.func (.func 88) #[] #[])] = some (fOr l (numV (bestL false (nums l)))).pv := by
    refine (f87s88_eq 0 (vp l).length _).trans (cb (numbers_ev l hl) rfl ?_)
    unfold faultV fOr numsF
    cases hf : faultO l with
    | some v => exact ip (by show (v.kind == 4) = true; simp [faultO_kind hf]) rfl
    | none =>
      refine im (show ¬ ((0 : Int) == 4) = true by decide) ?_
      show f87s88.l0a 0 0 (ip_ (nums l)).length (fun i => (ip_ (nums l)).getD i .top) ((ip_ (nums l)).length : Int) 0 0 0 E = _
      have hq := nums_len l
      generalize nums l = ns at *
      rw [f87s88.l0a_eq]
      cases ns with
      | nil => exact im (by decide) (cb (num_ev _) rfl rfl)
      | cons x xs =>
        refine lpc (i := 0) (by rw [ip_len]; simp) (by rw [ip_len]; simp) rfl ?_
        simp only [show ((0 : Int) == 0) = true from rfl, if_true, bs, tb]
        exact least_l (x :: xs) (by omega) xs.length 0 x (by simp; omega)
  exact cb hb rfl rfl
theorem gt_ev (a b : Int) : D 91 [.sc (.int .i64 a), .sc (.int .i64 b)] = some (.sc (.bool (bet true a b))) := f91_eq 0 a b
theorem most_l (ns : List Int) (hl : ns.length ≤ 1000) : ∀ (m i : Nat) (o : Int), (i + 1) + m = ns.length →
    f87s91.l0a 0 o (ip_ ns).length (fun i => (ip_ ns).getD i .top) ((ip_ ns).length : Int) ((i + 1 : Nat) : Int) 0 0 E = some (numV (bst true o (ns.drop (i + 1)))).pv := by
  intro m
  induction m with
  | zero =>
    intro i o he
    rw [f87s91.l0a_eq, List.drop_eq_nil_of_le (by omega)]
    exact lpe (by rw [ip_len]; omega) (cb (num_ev _) rfl rfl)
  | succ m ih =>
    intro i o he
    have hi : i + 1 < ns.length := by omega
    rw [f87s91.l0a_eq]
    refine lpc (by rw [ip_len]; omega) (by rw [ip_len]; omega) (ip_sh hi) ?_
    simp only [Int.toNat_natCast, ip_get hi, ti, gt_ev, bs, shb, if_true, tb, bO]
    rw [drop_at hi, bst, nx hi (by omega), show ((((i + 1 : Nat) : Int) == 0) = false) from by simp; omega, Bool.false_or]
    by_cases h : bet true ns[i + 1] o = true
    · rw [if_pos h]
      exact ip h (ih (i + 1) _ (by omega))
    · rw [if_neg h]
      exact im h (ih (i + 1) _ (by omega))
theorem most_ev (l : List Vl) (hl : l.length ≤ 1000) : D 36 [frozen 3 (vp l)] = some (fOr l (numV (bestL true (nums l)))).pv := by
  refine (f36_eq 0 (vp l).length _).trans ?_
  have hb : D 87 [frozen 3 (vp l), .sc (.func (.func 91) #[] #[])] = some (fOr l (numV (bestL true (nums l)))).pv := by
    refine (f87s91_eq 0 (vp l).length _).trans (cb (numbers_ev l hl) rfl ?_)
    unfold faultV fOr numsF
    cases hf : faultO l with
    | some v => exact ip (by show (v.kind == 4) = true; simp [faultO_kind hf]) rfl
    | none =>
      refine im (show ¬ ((0 : Int) == 4) = true by decide) ?_
      show f87s91.l0a 0 0 (ip_ (nums l)).length (fun i => (ip_ (nums l)).getD i .top) ((ip_ (nums l)).length : Int) 0 0 0 E = _
      have hq := nums_len l
      generalize nums l = ns at *
      rw [f87s91.l0a_eq]
      cases ns with
      | nil => exact im (by decide) (cb (num_ev _) rfl rfl)
      | cons x xs =>
        refine lpc (i := 0) (by rw [ip_len]; simp) (by rw [ip_len]; simp) rfl ?_
        simp only [show ((0 : Int) == 0) = true from rfl, if_true, bs, tb]
        exact most_l (x :: xs) (by omega) xs.length 0 x (by simp; omega)
  exact cb hb rfl rfl
theorem rbest_l (m : Bool) (ns : List Int) (hl : ns.length ≤ 1000) (hn : ∀ x, x ∈ ns → I64 x) : ∀ (k i : Nat) (o : Int), I64 o → (i + 1) + k = ns.length →
    f35.l0a 0 m (ip_ ns).length (fun i => (ip_ ns).getD i .top) o ((i + 1 : Nat) : Int) 0 0 E = some (numV (bst m o (ns.drop (i + 1)))).pv := by
  intro k
  induction k with
  | zero =>
    intro i o ho he
    rw [f35.l0a_eq, List.drop_eq_nil_of_le (by omega)]
    exact lpe (by rw [ip_len]; omega) (cb (rnum_ev _ ho.1) rfl rfl)
  | succ k ih =>
    intro i o ho he
    have hi : i + 1 < ns.length := by omega
    rw [f35.l0a_eq]
    refine ip (by rw [decide_eq_true_eq, ip_len]; omega) ?_
    have c1 : (0 : Int) ≤ ((i + 1 : Nat) : Int) := by omega
    have c2 : ((i + 1 : Nat) : Int) < ((ip_ ns).length : Int) := by rw [ip_len]; omega
    simp only [Int.toNat_natCast, ip_get hi, ti, if_pos c1, if_pos c2, bs, shb, shi, if_true, tb, bO, bA]
    rw [drop_at hi, bst, nx hi (by omega), show ((((i + 1 : Nat) : Int) == 0) = false) from by simp; omega, Bool.false_or]
    have e : ((m && decide (ns[i + 1] > o)) || (!m && decide (ns[i + 1] < o))) = bet m ns[i + 1] o := by cases m <;> simp [bet]
    simp only [e]
    have hx := hn _ (List.getElem_mem hi)
    by_cases h : bet m ns[i + 1] o = true
    · rw [if_pos h, if_pos h]
      exact ih (i + 1) _ hx (by omega)
    · rw [if_neg h, if_neg h]
      exact ih (i + 1) _ ho (by omega)
theorem rfault_at {l : List Vl} {i : Nat} (hi : i < l.length) {X r : Option PV} (h : X = r) :
    (if 0 ≤ (i : Int) then if (i : Int) < ((vp l).length : Int) then if hasSh (.agg [(.int .i64), (.int .i64), .str]) ((vp l).getD (i : Int).toNat .top) = true then X else none else none else none) = r := by
  rw [if_pos (by omega), if_pos (by rw [vp_len]; omega), Int.toNat_natCast, if_pos (vp_sh hi)]; exact h
theorem rbest_ev (l : List Vl) (m : Bool) (hl : l.length ≤ 1000) (hn : ∀ v, v ∈ l → I64 v.num) : D 35 [frozen 3 (vp l), .sc (.bool m)] = some (fOr l (numV (bestL m (nums l)))).pv := by
  refine (f35_eq 0 (vp l).length _ _).trans (cb (rffault_ev l (by omega)) rfl ?_)
  unfold fOr
  rcases faultI_spec l with ⟨h1, h2⟩ | ⟨i, hi, h1, h2⟩
  · rw [h1, h2]
    refine im (by decide) (cb (rnumbers_ev l hl) rfl ?_)
    have e : numsF l = nums l := by unfold numsF; rw [h1]
    rw [e]
    show f35.l0a 0 m (ip_ (nums l)).length (fun i => (ip_ (nums l)).getD i .top) 0 0 0 0 E = _
    have hq := nums_len l
    have hi := nums_i hn
    generalize nums l = ns at *
    rw [f35.l0a_eq]
    cases ns with
    | nil => exact im (by decide) (cb (rnum_ev _ (by decide)) rfl rfl)
    | cons x xs =>
      refine ip (by rw [decide_eq_true_eq, ip_len]; simp) ?_
      simp only [show ((0 : Int) == 0) = true from rfl, if_true, bs, tb]
      have hx := hi x List.mem_cons_self
      refine ip (by decide) (ip (by rw [ip_len]; simp) (ip rfl ?_))
      exact rbest_l m (x :: xs) (by omega) hi xs.length 0 x hx (by simp; omega)
  · rw [h1, h2]
    refine ip (by rw [ti, decide_eq_true_eq]; omega) ?_
    refine rfault_at hi ?_
    simp only [ti, Int.toNat_natCast, vp_get hi, Vl.c0, Vl.c1, Vl.c2, Vl.fold, Vl.rb]
/-- How many. -/
def cntB (kind : Int) (v : Vl) : Bool := if kind = 1 then v.kind == 1 else if kind = 0 then (v.kind == 0 || (v.kind == 2 && em v.text)) else v.kind != 0
def cntL (kind : Int) (l : List Vl) : Nat := l.countP (cntB kind)
theorem cnt_cons (kind : Int) (v : Vl) (l : List Vl) : cntL kind (v :: l) = cntL kind l + (if cntB kind v = true then 1 else 0) := by
  unfold cntL; rw [List.countP_cons]
theorem cnt_le (kind : Int) (l : List Vl) : cntL kind l ≤ l.length := List.countP_le_length
theorem cnt_rev (kind : Int) (l : List Vl) : cntL kind l.reverse = cntL kind l := by unfold cntL; exact List.countP_reverse
theorem cnt_nums (l : List Vl) : cntL 1 l = (nums l).length := by
  induction l with
  | nil => rfl
  | cons v l ih =>
    rw [cnt_cons, ih, nums]
    by_cases h : v.kind = 1 <;> simp [cntB, h]
theorem count_l (l : List Vl) (kind : Int) (hl : l.length ≤ 1000) : ∀ (m i n : Nat), i + m = l.length → n ≤ i →
    f39.l0a 0 kind (n : Int) (vp l).length (fun i => (vp l).getD i .top) ((vp l).length : Int) (i : Int) = some (.sc (.int .i64 ((n + cntL kind (l.drop i) : Nat) : Int))) := by
  intro m
  induction m with
  | zero =>
    intro i n he hn
    rw [f39.l0a_eq, List.drop_eq_nil_of_le (by omega)]
    exact lpe (by rw [vp_len]; omega) rfl
  | succ m ih =>
    intro i n he hn
    have hi : i < l.length := by omega
    rw [f39.l0a_eq]
    refine lpc (by rw [vp_len]; omega) (by rw [vp_len]; omega) (vp_sh hi) ?_
    simp only [Int.toNat_natCast, vp_get hi, Vl.c0, Vl.c1, Vl.c2, bs, tb, bO, bA, em_fold]
    have ew : IntKind.i64.wrap ((n : Int) + 1) = ((n + 1 : Nat) : Int) := by rw [w64 (by omega) (by omega)]; rfl
    rw [drop_at hi, cnt_cons, nx hi (by omega), ew]
    have yes : cntB kind l[i] = true → f39.l0a 0 kind ((n + 1 : Nat) : Int) (vp l).length (fun i => (vp l).getD i .top) ((vp l).length : Int) ((i + 1 : Nat) : Int) = some (.sc (.int .i64 ((n + (cntL kind (l.drop (i + 1)) + if cntB kind l[i] = true then 1 else 0) : Nat) : Int))) := by
      intro h
      rw [ih (i + 1) (n + 1) (by omega) (by omega), if_pos h]
      exact congrArg (fun z : Nat => some (PV.sc (.int .i64 (z : Int)))) (by omega)
    have no : ¬ cntB kind l[i] = true → f39.l0a 0 kind (n : Int) (vp l).length (fun i => (vp l).getD i .top) ((vp l).length : Int) ((i + 1 : Nat) : Int) = some (.sc (.int .i64 ((n + (cntL kind (l.drop (i + 1)) + if cntB kind l[i] = true then 1 else 0) : Nat) : Int))) := by
      intro h
      rw [ih (i + 1) n (by omega) (by omega), if_neg h]
      rfl
    by_cases h1 : kind = 1
    · subst h1
      refine ip (by decide) ?_
      by_cases h : (l[i].kind == 1) = true
      · exact ip h (yes h)
      · exact im h (no h)
    · refine im (by simpa using h1) ?_
      by_cases h0 : kind = 0
      · subst h0
        refine ip (by decide) ?_
        by_cases h : (l[i].kind == 0 || (l[i].kind == 2 && em l[i].text)) = true
        · exact ip h (yes h)
        · exact im h (no h)
      · refine im (by simpa using h0) ?_
        have e : cntB kind l[i] = (l[i].kind != 0) := by unfold cntB; rw [if_neg h1, if_neg h0]
        by_cases h : (l[i].kind != 0) = true
        · exact ip h (yes (by rw [e]; exact h))
        · exact im h (no (by rw [e]; exact h))
theorem fcount_ev (l : List Vl) (kind : Int) (hl : l.length ≤ 1000) : D 39 [frozen 3 (vp l), .sc (.int .i64 kind)] = some (.sc (.int .i64 (cntL kind l : Int))) := by
  refine (f39_eq 0 (vp l).length _ _).trans ((count_l l kind hl l.length 0 0 (by omega) (by omega)).trans ?_)
  rw [List.drop_zero, Nat.zero_add]
theorem rcount_l (l : List Vl) (kind : Int) (hl : l.length ≤ 1000) : ∀ (m i n : Nat), i + m = l.length → n ≤ i →
    f40.l0a 0 (vp l).length (fun i => (vp l).getD i .top) kind (n : Int) (i : Int) = some (.sc (.int .i64 ((n + cntL kind (l.drop i) : Nat) : Int))) := by
  intro m
  induction m with
  | zero =>
    intro i n he hn
    rw [f40.l0a_eq, List.drop_eq_nil_of_le (by omega)]
    exact lpe (by rw [vp_len]; omega) rfl
  | succ m ih =>
    intro i n he hn
    have hi : i < l.length := by omega
    rw [f40.l0a_eq]
    refine lpc (by rw [vp_len]; omega) (by rw [vp_len]; omega) (vp_sh hi) ?_
    simp only [Int.toNat_natCast, vp_get hi, Vl.c0, Vl.c1, Vl.c2, bs, tb, bO, bA, em_fold]
    have ew : IntKind.i64.wrap ((n : Int) + 1) = ((n + 1 : Nat) : Int) := by rw [w64 (by omega) (by omega)]; rfl
    rw [drop_at hi, cnt_cons, nx hi (by omega), ew]
    have e : cntB kind l[i] = ((kind == 1 && l[i].kind == 1) || (kind == 0 && (l[i].kind == 0 || (l[i].kind == 2 && em l[i].text))) || ((kind != 0 && kind != 1) && l[i].kind != 0)) := by
      unfold cntB
      by_cases h1 : kind = 1
      · subst h1; simp
      · by_cases h0 : kind = 0
        · subst h0; simp
        · have e1 : (kind == 1) = false := by simpa using h1
          have e0 : (kind == 0) = false := by simpa using h0
          rw [if_neg h1, if_neg h0, e1, e0, show (kind != 1) = true by simpa using h1, show (kind != 0) = true by simpa using h0]
          simp
    rw [e]
    by_cases h : ((kind == 1 && l[i].kind == 1) || (kind == 0 && (l[i].kind == 0 || (l[i].kind == 2 && em l[i].text))) || ((kind != 0 && kind != 1) && l[i].kind != 0)) = true
    · refine ip h ?_
      rw [ih (i + 1) (n + 1) (by omega) (by omega), if_pos h]
      exact congrArg (fun z : Nat => some (PV.sc (.int .i64 (z : Int)))) (by omega)
    · refine im h ?_
      rw [ih (i + 1) n (by omega) (by omega), if_neg h]
      rfl
theorem rcount_ev (l : List Vl) (kind : Int) (hl : l.length ≤ 1000) : D 40 [frozen 3 (vp l), .sc (.int .i64 kind)] = some (.sc (.int .i64 (cntL kind l : Int))) := by
  refine (f40_eq 0 (vp l).length _ _).trans ((rcount_l l kind hl l.length 0 0 (by omega) (by omega)).trans ?_)
  rw [List.drop_zero, Nat.zero_add]
end Go.Den.EF
