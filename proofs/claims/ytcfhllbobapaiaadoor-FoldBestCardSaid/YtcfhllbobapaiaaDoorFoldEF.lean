/- Sums, and the middle. -/
import Derived.Test.YtcfhllbobapaiaaDoorFoldDF
import Derived.Test.YtcfhllbobapaiaaDoorDigRF
set_option linter.unusedVariables false
set_option linter.unusedSimpArgs false
set_option maxRecDepth 100000
namespace Go.Den.EF
open Go Go.Proofs
theorem addS_i {a b : Int} (ha : I64 a) : I64 (addS a b).1 := by
  unfold addS
  split
  · rename_i h; exact h.2.2.i
  · show I64 0; unfold I64; omega
def sumS : List Int → Int → Int × Bool
  | [], b => (b, true)
  | x :: xs, b => if (addS b x).2 = true then sumS xs (addS b x).1 else (0, false)
theorem sumS_i : ∀ (xs : List Int) (b : Int), I64 b → I64 (sumS xs b).1
  | [], b, h => h
  | x :: xs, b, h => by
    rw [sumS]
    split
    · exact sumS_i xs _ (addS_i h)
    · show I64 0; unfold I64; omega
theorem sumS_sum : ∀ (xs : List Int) (b : Int), (sumS xs b).2 = true → (sumS xs b).1 = b + xs.sum
  | [], b, _ => by simp [sumS]
  | x :: xs, b, h => by
    rw [sumS] at h ⊢
    by_cases h2 : (addS b x).2 = true
    · rw [if_pos h2] at h ⊢
      rw [sumS_sum xs _ h, List.sum_cons]
      unfold addS at h2 ⊢
      split at h2
      · rename_i h3; rw [if_pos h3]; omega
      · cases h2
    · rw [if_neg h2] at h; cases h
theorem sumS_may : ∀ (xs : List Int) (b : Int), May b → (sumS xs b).2 = true → May (sumS xs b).1
  | [], b, h, _ => h
  | x :: xs, b, hb, h => by
    rw [sumS] at h ⊢
    by_cases h2 : (addS b x).2 = true
    · rw [if_pos h2] at h ⊢
      refine sumS_may xs _ ?_ h
      unfold addS at h2 ⊢
      split at h2
      · rename_i h3; rw [if_pos h3]; exact h3.2.2
      · cases h2
    · rw [if_neg h2] at h; cases h
theorem all_l (ns : List Int) (hl : ns.length ≤ 1000) (hn : ∀ x, x ∈ ns → I64 x) : ∀ (k i : Nat) (o : Int), I64 o → i + k = ns.length →
    f99s100.l0a 0 o (ip_ ns).length (fun i => (ip_ ns).getD i .top) ((ip_ ns).length : Int) (i : Int) 0 0 E = some (gotV (sumS (ns.drop i) o).1 (sumS (ns.drop i) o).2).pv := by
  intro k
  induction k with
  | zero =>
    intro i o ho he
    rw [f99s100.l0a_eq, List.drop_eq_nil_of_le (by omega)]
    exact lpe (by rw [ip_len]; omega) (cb (num_ev _) rfl rfl)
  | succ k ih =>
    intro i o ho he
    have hi : i < ns.length := by omega
    rw [f99s100.l0a_eq]
    refine lpc (by rw [ip_len]; omega) (by rw [ip_len]; omega) (ip_sh hi) ?_
    simp only [Int.toNat_natCast, ip_get hi, ti]
    refine cb (add_ev ho (hn _ (List.getElem_mem hi))) rfl ?_
    simp only [pvG_0, pvG_1]
    rw [drop_at hi, sumS]
    by_cases h : (addS o ns[i]).2 = true
    · refine im (by rw [h]; decide) ?_
      rw [if_pos h, nx hi (by omega)]
      exact ih (i + 1) _ (addS_i ho) (by omega)
    · rw [if_neg h]
      exact ip (by simpa using h) (cb (bad_ev _) rfl rfl)
theorem sum_ev (l : List Vl) (hl : l.length ≤ 1000) (hn : ∀ v, v ∈ l → I64 v.num) : D 42 [frozen 3 (vp l)] = some (fOr l (gotV (sumS (nums l) 0).1 (sumS (nums l) 0).2)).pv := by
  refine (f42_eq 0 (vp l).length _).trans ?_
  have hb : D 99 [frozen 3 (vp l), .sc (.int .i64 0), .sc (.func (.func 100) #[] #[])] = some (fOr l (gotV (sumS (nums l) 0).1 (sumS (nums l) 0).2)).pv := by
    refine (f99s100_eq 0 (vp l).length _ 0).trans (cb (numbers_ev l hl) rfl ?_)
    unfold faultV fOr numsF
    cases hf : faultO l with
    | some v => exact ip (by show (v.kind == 4) = true; simp [faultO_kind hf]) rfl
    | none =>
      refine im (show ¬ ((0 : Int) == 4) = true by decide) ?_
      have hq := nums_len l
      exact all_l (nums l) (by omega) (nums_i hn) (nums l).length 0 0 (by unfold I64; omega) (by omega)
  exact cb hb rfl rfl
def pvGa (g : Int × Bool) : PV := .agg [.sc (.int .i64 g.1), .sc (.bool g.2)]
theorem radd_ev {a b : Int} (ha : I64 a) (hb : I64 b) : D 131 [.sc (.int .i64 a), .sc (.int .i64 b)] = some (pvGa (addS a b)) := by
  have ma : decide (a ≥ -9223372036854775807) = decide (May a) := by congr 1; apply propext; unfold I64 at ha; unfold May; omega
  have mb : decide (b ≥ -9223372036854775807) = decide (May b) := by congr 1; apply propext; unfold I64 at hb; unfold May; omega
  rw [f131_eq 0]
  simp only [rmay8_ev ha, rmay8_ev hb, bs, shb, if_true, tb, bA, bO]
  unfold I64 at ha hb
  have d1 : (decide (b > 0) && decide (a > IntKind.i64.wrap ((9223372036854775807 : Int) - b))) = decide (b > 0 ∧ a + b > 9223372036854775807) := by
    by_cases h : b > 0
    · rw [w64 (by omega) (by omega), decide_eq_true h, Bool.true_and]; congr 1; apply propext; omega
    · rw [decide_eq_false h, Bool.false_and, decide_eq_false (by omega)]
  have d2 : (decide (b < 0) && decide (a < IntKind.i64.wrap ((-9223372036854775807 : Int) - b))) = decide (b < 0 ∧ a + b < -9223372036854775807) := by
    by_cases h : b < 0
    · rw [w64 (by omega) (by omega), decide_eq_true h, Bool.true_and]; congr 1; apply propext; omega
    · rw [decide_eq_false h, Bool.false_and, decide_eq_false (by omega)]
  simp only [d1, d2]
  unfold addS
  by_cases h : May a ∧ May b ∧ May (a + b)
  · rw [if_pos h]
    refine im ?_ ?_
    · simp only [Bool.or_eq_true, Bool.not_eq_true', decide_eq_true_eq, decide_eq_false_iff_not]
      unfold May at h ⊢; omega
    · unfold May at h
      rw [w64 (by omega) (by omega)]; rfl
  · rw [if_neg h]
    refine ip ?_ rfl
    simp only [Bool.or_eq_true, Bool.not_eq_true', decide_eq_true_eq, decide_eq_false_iff_not]
    unfold May at h ⊢; omega
theorem rstep0_ev {a b : Int} (ha : I64 a) (hb : I64 b) : D 171 [.sc (.int .i64 0), .sc (.int .i64 a), .sc (.int .i64 b)] = some (pvGa (addS a b)) :=
  (f171_eq 0 _ _ _).trans (ip (by decide) (cb (radd_ev ha hb) rfl rfl))
theorem addS_0 {a b : Int} (h : (addS a b).2 = false) : (addS a b).1 = 0 := by
  unfold addS at h ⊢
  split at h
  · cases h
  · rename_i h2; rw [if_neg h2]
theorem total_l (ns : List Int) (hl : ns.length ≤ 1000) (hn : ∀ x, x ∈ ns → I64 x) : ∀ (k i : Nat) (o : Int), I64 o → i + k = ns.length →
    f144.l1a 0 (ip_ ns).length (fun i => (ip_ ns).getD i .top) 0 (i : Int) 0 false o true = some (pvGa (sumS (ns.drop i) o)) := by
  intro k
  induction k with
  | zero =>
    intro i o ho he
    rw [f144.l1a_eq, List.drop_eq_nil_of_le (by omega), bA]
    refine im ?_ rfl
    rw [tb, ip_len, decide_eq_false (by omega)]; decide
  | succ k ih =>
    intro i o ho he
    have hi : i < ns.length := by omega
    rw [f144.l1a_eq, bA]
    refine ip ?_ ?_
    · rw [tb, ip_len, decide_eq_true (by omega)]; rfl
    refine lpr (by rw [ip_len]; omega) (ip_sh hi) ?_
    simp only [Int.toNat_natCast, ip_get hi, ti]
    refine cb (rstep0_ev ho (hn _ (List.getElem_mem hi))) rfl ?_
    rw [drop_at hi, sumS, nx hi (by omega)]
    show f144.l1a 0 (ip_ ns).length (fun i => (ip_ ns).getD i .top) 0 ((i + 1 : Nat) : Int) 0 false (addS o ns[i]).1 (addS o ns[i]).2 = _
    by_cases h : (addS o ns[i]).2 = true
    · rw [if_pos h, h]
      exact ih (i + 1) _ (addS_i ho) (by omega)
    · have h : (addS o ns[i]).2 = false := by simpa using h
      rw [if_neg (by rw [h]; decide), h]
      rw [addS_0 h, f144.l1a_eq, bA]
      refine im ?_ rfl
      rw [tb, Bool.and_false]; decide
theorem rall_ev (l : List Vl) (hl : l.length ≤ 1000) (hn : ∀ v, v ∈ l → I64 v.num) : D 95 [frozen 3 (vp l), .sc (.int .i64 0)] = some (fOr l (gotV (sumS (nums l) 0).1 (sumS (nums l) 0).2)).pv := by
  refine (f95_eq 0 (vp l).length _ _).trans (cb (rffault_ev l (by omega)) rfl ?_)
  unfold fOr
  have hi := nums_i hn
  have hq := nums_len l
  rcases faultI_spec l with ⟨h1, h2⟩ | ⟨i, hi, h1, h2⟩
  · rw [h1, h2]
    refine im (by decide) (cb (rnumbers_ev l hl) rfl ?_)
    have e : numsF l = nums l := by unfold numsF; rw [h1]
    rw [e]
    have ht : D 144 [frozen 1 (ip_ (nums l)), .sc (.int .i64 0)] = some (pvGa (sumS (nums l) 0)) := by
      refine (f144_eq 0 (ip_ (nums l)).length _ 0).trans ?_
      rw [bA]
      refine im (by rw [tb]; simp) ?_
      rw [f144.j0a_eq]
      exact total_l (nums l) (by omega) hi (nums l).length 0 0 (by unfold I64; omega) (by omega)
    exact cb ht rfl (cb (rof_ev _ _ (sumS_i _ _ (by unfold I64; omega)).1) rfl rfl)
  · rw [h1, h2]
    refine ip (by rw [ti, decide_eq_true_eq]; omega) ?_
    refine rfault_at hi ?_
    simp only [ti, Int.toNat_natCast, vp_get hi, Vl.c0, Vl.c1, Vl.c2, Vl.fold, Vl.rb]
/-- The middle: of a whole number, over a small one. -/
def rq (a n : Nat) : Nat := if n - a % n ≤ a % n then a / n + 1 else a / n
def mid (a : Int) (n : Nat) : Int := if a < 0 then -(rq a.natAbs n : Int) else (rq a.natAbs n : Int)
theorem rq_le {a n : Nat} (ha : (a : Int) ≤ 9223372036854775807) (hn : 1 ≤ n) : (rq a n : Int) ≤ 9223372036854775807 := by
  unfold rq
  have h1 := Nat.div_le_self a n
  split
  · rename_i h
    have h2 : 2 ≤ n := by
      rcases Nat.lt_or_ge n 2 with h3 | h3
      · have : n = 1 := by omega
        subst this; rw [Nat.mod_one] at h; omega
      · exact h3
    have h4 : a / n * 2 ≤ a := Nat.le_trans (Nat.mul_le_mul_left _ h2) (Nat.div_mul_le_self a n)
    omega
  · omega
theorem sizeA_ev {x : Int} (h : May x) : D 140 [.sc (.int .i64 x)] = some (.sc (.int .u64 (x.natAbs : Int))) := by
  unfold May at h
  rw [f140_eq 0]
  by_cases h0 : x < 0
  · refine ip (decide_eq_true h0) ?_
    rw [w64 (by omega) (by omega), u64i (by omega) (by omega)]
    exact congrArg (fun z => some (PV.sc (.int .u64 z))) (by omega)
  · refine im (by rw [decide_eq_true_eq]; exact h0) ?_
    rw [u64i (by omega) (by omega)]
    exact congrArg (fun z => some (PV.sc (.int .u64 z))) (by omega)
theorem signA_ev (x : Int) : D 143 [.sc (.int .i64 x)] = some (.sc (.int .i64 (if x < 0 then -1 else if x > 0 then 1 else 0))) := by
  rw [f143_eq 0]
  by_cases h : x < 0
  · rw [if_pos h]; exact ip (decide_eq_true h) rfl
  · rw [if_neg h]
    refine im (by rw [decide_eq_true_eq]; exact h) ?_
    by_cases h2 : x > 0
    · rw [if_pos h2]; exact ip (decide_eq_true h2) rfl
    · rw [if_neg h2]; exact im (by rw [decide_eq_true_eq]; exact h2) rfl
theorem divA_ev {lo n : Nat} (h1 : (lo : Int) < 18446744073709551616) (hn : 1 ≤ n) (hn2 : (n : Int) < 18446744073709551616) : D 142 [.sc (.int .u64 0), .sc (.int .u64 (lo : Int)), .sc (.int .u64 (n : Int))] = some (pvU ((lo / n : Nat) : Int) ((lo % n : Nat) : Int)) := by
  rw [f142_eq 0]
  refine im (by simp; omega) ?_
  rw [f142.j0a_eq]
  refine im (by rw [decide_eq_true_eq]; omega) ?_
  rw [f142.j1a_eq]
  have c : IntKind.u64 = IntKind.u64 ∧ (n : Int) ≠ 0 := ⟨rfl, by omega⟩
  refine ip (by decide) (ip c (ip c ?_))
  have h2 := Nat.div_le_self lo n
  have h3 : (0 : Int) ≤ ((lo / n : Nat) : Int) := Int.natCast_nonneg _
  rw [← Int.ofNat_tdiv, ← Int.ofNat_tmod, u64i (by omega) (by omega)]
  rfl
theorem mid_ev {a : Int} {n : Nat} (ha : May a) (hn : 1 ≤ n) (hn2 : n ≤ 1000) : D 93 [.sc (.int .i64 a), .sc (.int .i64 1), .sc (.int .i64 (n : Int))] = some (pvG (mid a n, true)) := by
  have mn : May (n : Int) := by unfold May; omega
  have m1 : May 1 := by decide
  have hA := natAbs_lt ha
  rw [f93_eq 0]
  simp only [may_ev ha.i, may_ev mn.i, may_ev m1.i, decide_eq_true ha, decide_eq_true mn, decide_eq_true m1, bs, shb, if_true, tb, bA, bO]
  refine im (by simp; omega) (cb (sizeA_ev mn) rfl (cb (sizeA_ev ha) rfl (cb (sizeA_ev m1) rfl ?_)))
  simp only [ti]
  refine cb (mul64_ev _ _ hA.1 (by omega) (by decide) (by decide)) rfl ?_
  have e1 : (a.natAbs : Int) * ((1 : Int).natAbs : Int) = (a.natAbs : Int) := by rw [show ((1 : Int).natAbs : Int) = 1 from rfl, Int.mul_one]
  rw [e1, show (a.natAbs : Int) / 18446744073709551616 = 0 by omega, show (a.natAbs : Int) % 18446744073709551616 = (a.natAbs : Int) by omega]
  rw [show ((n : Int).natAbs : Int) = (n : Int) from rfl]
  refine im (by show ¬ decide ((0 : Int) ≥ (n : Int)) = true; rw [decide_eq_true_eq]; omega) ?_
  refine cb (x := pvU ((a.natAbs / n : Nat) : Int) ((a.natAbs % n : Nat) : Int)) (divA_ev (by omega) hn (by omega)) rfl ?_
  show (if decide (((a.natAbs % n : Nat) : Int) ≥ IntKind.u64.wrap ((n : Int) - ((a.natAbs % n : Nat) : Int))) = true then f93.j0a 0 a 1 (n : Int) (IntKind.u64.wrap (((a.natAbs / n : Nat) : Int) + 1)) else f93.j0a 0 a 1 (n : Int) ((a.natAbs / n : Nat) : Int)) = _
  have hm := Nat.mod_lt a.natAbs hn
  have hd := Nat.div_le_self a.natAbs n
  have hd0 : (0 : Int) ≤ ((a.natAbs / n : Nat) : Int) := Int.natCast_nonneg _
  rw [u64i (x := (n : Int) - ((a.natAbs % n : Nat) : Int)) (by omega) (by omega), u64i (x := ((a.natAbs / n : Nat) : Int) + 1) (by omega) (by omega)]
  have hr := rq_le hA.2 hn
  have fin : f93.j0a 0 a 1 (n : Int) (rq a.natAbs n : Int) = some (pvG (mid a n, true)) := by
    rw [f93.j0a_eq]
    refine im (by rw [decide_eq_true_eq]; omega) (cb (signA_ev _) rfl (cb (signA_ev _) rfl (cb (signA_ev _) rfl ?_)))
    simp only [ti]
    rw [w64 (x := (rq a.natAbs n : Int)) (by omega) (by omega)]
    have s1 : (if (1 : Int) < 0 then (-1 : Int) else if (1 : Int) > 0 then 1 else 0) = 1 := rfl
    have sn : (if (n : Int) < 0 then (-1 : Int) else if (n : Int) > 0 then 1 else 0) = 1 := by rw [if_neg (by omega), if_pos (by omega)]
    rw [s1, sn]
    unfold mid
    by_cases h : a < 0
    · rw [if_pos h, if_pos h]
      refine ip (by decide) ?_
      rw [w64 (by omega) (by omega), Int.zero_sub]; rfl
    · rw [if_neg h, if_neg h]
      refine im ?_ rfl
      split <;> decide
  unfold rq at fin
  by_cases h : n - a.natAbs % n ≤ a.natAbs % n
  · refine ip (by rw [decide_eq_true_eq]; omega) ?_
    rw [if_pos h] at fin
    exact fin
  · refine im (by rw [decide_eq_true_eq]; omega) ?_
    rw [if_neg h] at fin
    exact fin
end Go.Den.EF
