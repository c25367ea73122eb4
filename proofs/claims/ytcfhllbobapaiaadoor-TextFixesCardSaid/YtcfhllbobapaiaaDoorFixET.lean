/- What is told is read again (the reference); the law. -/
import Derived.Test.YtcfhllbobapaiaaDoorFixDT
import Derived.Test.YtcfhllbobapaiaaDoorTyT
set_option linter.unusedVariables false
set_option linter.unusedSimpArgs false
set_option maxRecDepth 100000
namespace Go.Den.ET
open Go Go.Proofs
theorem alive14_ev : D 47 [] = some (.sc (.bool true)) := denI_of (k := 80) (by kernel_rfl)
theorem more_ev {n d : Nat} (h : (n * 10 + d : Nat) ≤ 9223372036854775807) : D 73 [.agg [.sc (.int .i64 (n : Int)), .sc (.bool true)], .sc (.int .i64 (d : Int))] = some (pvGa (((n * 10 + d : Nat) : Int), true)) := by
  have m1 : May (n : Int) := by unfold May; omega
  have m2 : May (d : Int) := by unfold May; omega
  have em : mulS (n : Int) 10 = ((n : Int) * 10, true) := mulS_yes ⟨m1, by decide, by unfold May; omega⟩
  have ea : addS ((n : Int) * 10) (d : Int) = ((n : Int) * 10 + (d : Int), true) := addS_yes ⟨by unfold May; omega, m2, by unfold May; omega⟩
  rw [f73_eq 0]
  refine im (by decide) (cb (rscl_ev m1 (by decide) (by decide)) rfl ?_)
  rw [em]
  refine im (by show ¬ (!true) = true; decide) (cb (radd_ev (a := (n : Int) * 10) (by unfold I64; omega) m2.i) rfl ?_)
  rw [ea]
  exact congrArg (fun z => some (pvGa (z, true))) (by omega)
theorem digit_ev {t : List UInt8} {i : Nat} (h : i < t.length) (hd : isD t[i] = true) : D 72 [.sc (.string (B t)), .sc (.int .i64 (i : Int))] = some (.sc (.bool true)) := by
  have hb : 48 ≤ t[i].toNat ∧ t[i].toNat ≤ 57 := by unfold isD at hd; simpa using hd
  rw [f72_eq 0]
  have c1 : decide ((i : Int) < ((B t).size : Int)) = true := by rw [decide_eq_true_eq, B_size]; omega
  have c2 : (0 : Int) ≤ (i : Int) := by omega
  have c3 : (i : Int) < ((B t).size : Int) := by rw [B_size]; omega
  have d1 : decide ((t[i].toNat : Int) ≥ 48) = true := by rw [decide_eq_true_eq]; omega
  have d2 : decide ((t[i].toNat : Int) ≤ 57) = true := by rw [decide_eq_true_eq]; omega
  rw [c1, B_bt h]
  simp only [if_pos c2, if_pos c3, d1, d2, bs, tb, if_true]
theorem dval {b : UInt8} (hd : isD b = true) : IntKind.i64.wrap (IntKind.i64.wrap (b.toNat : Int) - 48) = ((b.toNat - 48 : Nat) : Int) := by
  have hb : 48 ≤ b.toNat ∧ b.toNat ≤ 57 := by unfold isD at hd; simpa using hd
  rw [w64 (x := (b.toNat : Int)) (by omega) (by omega), w64 (by omega) (by omega)]; omega
theorem isD46 {b : UInt8} (hd : isD b = true) : (b == (46 : UInt8)) = false := beq_eq_false_iff_ne.mpr (isD_ne hd).1
/-- One digit more. -/
theorem one_digit (t : List UInt8) (hl : t.length ≤ 40) (m : Bool) (beh : Int) (i n : Nat) (hi : i < t.length) (hd : isD t[i] = true) (hb : beh < 100) (hb2 : -1 ≤ beh) (hn : n * 10 + (t[i].toNat - 48) ≤ 9223372036854775807) :
    f21.l1a 0 (B t) m beh (i : Int) 0 false (n : Int) true = f21.l1a 0 (B t) m (if beh ≥ 0 then beh + 1 else beh) ((i + 1 : Nat) : Int) 0 false ((n * 10 + (t[i].toNat - 48) : Nat) : Int) true := by
  conv => lhs; rw [f21.l1a_eq]
  have c2 : (0 : Int) ≤ (i : Int) := by omega
  have c3 : (i : Int) < ((B t).size : Int) := by rw [B_size]; omega
  refine ip (by rw [decide_eq_true_eq]; exact c3) (ip c2 (ip c3 ?_))
  rw [bA, bA]
  refine im (by rw [tb, tb, bt46 hi, isD46 hd]; simp) (cb (digit_ev hi hd) rfl (im (by decide) ?_))
  have j : ∀ b2 : Int, f21.j2a 0 (B t) m b2 (i : Int) 0 false (n : Int) true = f21.l1a 0 (B t) m b2 ((i + 1 : Nat) : Int) 0 false ((n * 10 + (t[i].toNat - 48) : Nat) : Int) true := by
    intro b2
    rw [f21.j2a_eq]
    refine ip c2 (ip c3 ?_)
    rw [B_bt hi, dval hd, nx (n := 41) (by omega) (by decide)]
    exact cb (more_ev hn) rfl rfl
  by_cases h : beh ≥ 0
  · rw [if_pos h]
    refine ip (decide_eq_true h) ?_
    rw [w64 (by omega) (by omega)]
    exact j _
  · rw [if_neg h]
    exact im (by rw [decide_eq_true_eq]; exact h) (j _)
theorem run_digits (t : List UInt8) (hl : t.length ≤ 40) (m : Bool) : ∀ (k i n : Nat) (beh : Int), i + k ≤ t.length → (∀ j (h : j < t.length), i ≤ j → j < i + k → isD t[j] = true) → -1 ≤ beh → beh ≤ i → valL ((t.drop i).take k) n ≤ 9223372036854775807 →
    f21.l1a 0 (B t) m beh (i : Int) 0 false (n : Int) true = f21.l1a 0 (B t) m (if beh ≥ 0 then beh + k else beh) ((i + k : Nat) : Int) 0 false ((valL ((t.drop i).take k) n : Nat) : Int) true
  | 0, i, n, beh, _, _, _, _, _ => by
    rw [List.take_zero, valL, Nat.add_zero]
    by_cases h : beh ≥ 0
    · rw [if_pos h]; simp
    · rw [if_neg h]
  | k + 1, i, n, beh, hk, hd, hb1, hb2, hv => by
    have hi : i < t.length := by omega
    have hdi := hd i hi (Nat.le_refl _) (by omega)
    rw [drop_at hi, List.take_succ_cons, valL] at hv ⊢
    have hge := valL_ge ((t.drop (i + 1)).take k) (n * 10 + (t[i].toNat - 48))
    rw [one_digit t hl m beh i n hi hdi (by omega) hb1 (by omega)]
    have := run_digits t hl m k (i + 1) (n * 10 + (t[i].toNat - 48)) (if beh ≥ 0 then beh + 1 else beh) (by omega) (fun j h h1 h2 => hd j h (by omega) (by omega)) (by split <;> omega) (by split <;> omega) hv
    rw [this, show i + 1 + k = i + (k + 1) by omega]
    congr 1
    by_cases h : beh ≥ 0
    · rw [if_pos h, if_pos (by omega), if_pos h]; omega
    · rw [if_neg h, if_neg h, if_neg h]
theorem pads (m : Bool) : ∀ (d k n : Nat), k + d = 4 → n * 10 ^ d ≤ 9223372036854775807 → f21.l3a 0 m (k : Int) 0 false (n : Int) true = some (pvGa (if m = true then -((n * 10 ^ d : Nat) : Int) else ((n * 10 ^ d : Nat) : Int), true))
  | 0, k, n, hk, hn => by
    rw [f21.l3a_eq]
    refine im (by rw [decide_eq_true_eq]; omega) ?_
    rw [Nat.pow_zero, Nat.mul_one] at hn ⊢
    cases m
    · exact im (by decide) rfl
    · refine ip rfl ?_
      rw [w64 (by omega) (by omega), Int.zero_sub]; rfl
  | d + 1, k, n, hk, hn => by
    rw [f21.l3a_eq]
    have e : n * 10 ^ (d + 1) = (n * 10 + 0) * 10 ^ d := by rw [Nat.pow_succ, Nat.add_zero, Nat.mul_assoc, Nat.mul_comm 10]
    have hle : n * 10 + 0 ≤ (n * 10 + 0) * 10 ^ d := Nat.le_mul_of_pos_right _ (Nat.pow_pos (by decide))
    refine ip (by rw [decide_eq_true_eq]; omega) (cb (more_ev (n := n) (d := 0) (by omega)) rfl ?_)
    rw [nx (i := k) (n := 4) (by omega) (by decide), e]
    exact pads m d (k + 1) (n * 10 + 0) (by omega) (by omega)
theorem read_core {w f : List UInt8} (hw : w.all isD = true) (hw0 : w ≠ []) (hf : f.all isD = true) (hf4 : f.length ≤ 4) (m : Bool) (hl : (strD w f).length ≤ 40) (hv : valL f (valL w 0) * 10 ^ (4 - f.length) ≤ 9223372036854775807) :
    f21.j0a 0 (B (strD w f)) m 0 false = some (pvGa (if m = true then -((valL f (valL w 0) * 10 ^ (4 - f.length) : Nat) : Int) else ((valL f (valL w 0) * 10 ^ (4 - f.length) : Nat) : Int), true)) := by
  have hp : 0 < w.length := List.length_pos_iff.2 hw0
  have hvf : valL f (valL w 0) ≤ valL f (valL w 0) * 10 ^ (4 - f.length) := Nat.le_mul_of_pos_right _ (Nat.pow_pos (by decide))
  have hge := valL_ge f (valL w 0)
  have hwt : ∀ j (h : j < (strD w f).length), j < w.length → isD (strD w f)[j] = true := by
    intro j h hj
    have : (strD w f)[j] = w[j] := by simp only [strD]; rw [List.getElem_append_left hj]
    rw [this]; exact List.all_eq_true.1 hw _ (List.getElem_mem hj)
  have htk : ((strD w f).drop 0).take w.length = w := by unfold strD; simp
  have hle : w.length ≤ (strD w f).length := by unfold strD; rw [List.length_append]; omega
  rw [f21.j0a_eq]
  have r1 := run_digits (strD w f) hl m w.length 0 0 (-1) (by omega) (fun j h _ h2 => hwt j h (by omega)) (by decide) (by decide) (by rw [htk]; omega)
  rw [htk, if_neg (by decide), Nat.zero_add] at r1
  refine r1.trans ?_
  by_cases h0 : f = []
  · subst h0
    have hs : strD w [] = w := by unfold strD; rw [if_pos rfl, List.append_nil]
    rw [hs, f21.l1a_eq]
    refine im (by rw [decide_eq_true_eq, B_size]; omega) ?_
    rw [bO, bO]
    refine im (by rw [tb, tb, B_size]; simp only [Bool.or_eq_true, beq_iff_eq, decide_eq_true_eq]; omega) ?_
    exact pads m 4 0 (valL w 0) rfl hv
  · have hfp : 0 < f.length := List.length_pos_iff.2 h0
    have hs : strD w f = w ++ 46 :: f := by unfold strD; rw [if_neg h0]
    have hlen : (strD w f).length = w.length + 1 + f.length := by rw [hs]; simp; omega
    have hi : w.length < (strD w f).length := by omega
    have hat : (strD w f)[w.length] = 46 := by simp [hs]
    rw [f21.l1a_eq]
    refine ip (by rw [decide_eq_true_eq, B_size]; omega) (ip (by omega) (ip (by rw [B_size]; omega) ?_))
    rw [bA, bA]
    refine ip (by rw [tb, tb, bt46 hi, hat]; simp; omega) ?_
    rw [nx hi (by omega)]
    have htk2 : ((strD w f).drop (w.length + 1)).take f.length = f := by rw [hs]; simp
    have hft : ∀ j (h : j < (strD w f).length), w.length + 1 ≤ j → isD (strD w f)[j] = true := by
      intro j h hj
      have : (strD w f)[j] = f[j - (w.length + 1)]'(by omega) := by
        simp only [hs]
        rw [List.getElem_append_right (by omega), List.getElem_cons, dif_neg (by omega)]
        congr 1
      rw [this]; exact List.all_eq_true.1 hf _ (List.getElem_mem _)
    have r2 := run_digits (strD w f) hl m f.length (w.length + 1) (valL w 0) 0 (by omega) (fun j h h1 _ => hft j h h1) (by decide) (by omega) (by rw [htk2]; omega)
    rw [htk2, if_pos (by decide), Int.zero_add] at r2
    refine r2.trans ?_
    rw [f21.l1a_eq]
    refine im (by rw [decide_eq_true_eq, B_size]; omega) ?_
    rw [bO, bO]
    refine im (by rw [tb, tb, B_size]; simp only [Bool.or_eq_true, beq_iff_eq, decide_eq_true_eq]; omega) ?_
    rw [if_neg (by omega)]
    exact pads m (4 - f.length) f.length (valL f (valL w 0)) (by omega) hv
theorem valL_zeros : ∀ (k n : Nat), valL (List.replicate k 48) n = n * 10 ^ k
  | 0, n => by rw [List.replicate_zero, valL]; simp
  | k + 1, n => by
    rw [List.replicate_succ, valL, show (48 : UInt8).toNat = 48 from rfl, Nat.sub_self, Nat.add_zero, valL_zeros k, Nat.mul_assoc, Nat.pow_succ, Nat.mul_comm (10 ^ k)]
theorem zeros_dig (k : Nat) : (List.replicate k (48 : UInt8)).all isD = true := by
  rw [List.all_eq_true]
  intro b hb
  rw [(List.mem_replicate.1 hb).2]; decide
theorem fix_str {y : Int} {p : Nat} (hf : (frL y).length ≤ p) : fixL y p = (if y < 0 then [45] else []) ++ strD (Lib.decDigits (y.natAbs / 10000)) (frL y ++ List.replicate (p - (frL y).length) 48) := by
  unfold fixL hdL strD
  rw [List.append_assoc]
  congr 2
  by_cases hp : p = 0
  · subst hp
    have : frL y = [] := List.eq_nil_of_length_eq_zero (by omega)
    rw [this]; rfl
  · rw [if_neg hp, if_neg]
    intro e
    have := congrArg List.length e
    rw [List.length_append, List.length_replicate, List.length_nil] at this
    omega
theorem rread_fix {y : Int} (hy : May y) (p : Nat) (hp : p ≤ 4) (hf : (frL y).length ≤ p) : D 21 [.sc (.string (B (fixL y p)))] = some (pvGa (y, true)) := by
  have hy2 := hy
  unfold May at hy2
  have hw := dd_all (y.natAbs / 10000)
  have hw0 := dd_ne (y.natAbs / 10000)
  have hwl := dd_len16 hy hy.i
  have hfl : (frL y ++ List.replicate (p - (frL y).length) 48).length = p := by rw [List.length_append, List.length_replicate]; omega
  have hfd : (frL y ++ List.replicate (p - (frL y).length) 48).all isD = true := by
    rw [List.all_append, Bool.and_eq_true]
    exact ⟨frac_all 4 _ (by omega), zeros_dig _⟩
  have hval : valL (frL y ++ List.replicate (p - (frL y).length) 48) (valL (Lib.decDigits (y.natAbs / 10000)) 0) * 10 ^ (4 - (frL y ++ List.replicate (p - (frL y).length) 48).length) = y.natAbs := by
    rw [hfl, valL_append, valL_zeros, dd_val, Nat.mul_assoc, ← Nat.pow_add, show p - (frL y).length + (4 - p) = 4 - (frL y).length by omega]
    have := frac_val 4 (y.natAbs % 10000) (y.natAbs / 10000) (by decide) (by omega) (by simp; omega)
    unfold frL
    rw [this]
    simp
    omega
  have hsl : (strD (Lib.decDigits (y.natAbs / 10000)) (frL y ++ List.replicate (p - (frL y).length) 48)).length ≤ 30 := by
    unfold strD
    rw [List.length_append]
    split
    · simp; omega
    · rw [List.length_cons, hfl]; omega
  have core := fun m hl => read_core hw hw0 hfd (by omega) m hl (by rw [hval]; omega)
  rw [hval] at core
  rw [fix_str hf, f21_eq 0]
  by_cases h0 : y < 0
  · rw [if_pos h0, List.singleton_append]
    refine im (by rw [B_size, List.length_cons, decide_eq_true_eq]; omega) ?_
    have e1 : bt (B (45 :: strD (Lib.decDigits (y.natAbs / 10000)) (frL y ++ List.replicate (p - (frL y).length) 48))) 0 = 45 := rfl
    have c1 : decide (((B (45 :: strD (Lib.decDigits (y.natAbs / 10000)) (frL y ++ List.replicate (p - (frL y).length) 48))).size : Int) > 0) = true := by rw [B_size, List.length_cons, decide_eq_true_eq]; omega
    have c2 : (0 : Int) < ((B (45 :: strD (Lib.decDigits (y.natAbs / 10000)) (frL y ++ List.replicate (p - (frL y).length) 48))).size : Int) := by rw [B_size, List.length_cons]; omega
    rw [c1, e1, if_pos c2]
    simp only [bs, tb, if_true]
    refine ip rfl (ip (by omega) (ip (Int.le_refl _) (ip (by rw [B_size, List.length_cons]; omega) ?_)))
    have e3 : (B (45 :: strD (Lib.decDigits (y.natAbs / 10000)) (frL y ++ List.replicate (p - (frL y).length) 48))).extract 1 (((B (45 :: strD (Lib.decDigits (y.natAbs / 10000)) (frL y ++ List.replicate (p - (frL y).length) 48))).size : Int).toNat) = B (strD (Lib.decDigits (y.natAbs / 10000)) (frL y ++ List.replicate (p - (frL y).length) 48)) := by
      rw [B_extract, Int.toNat_natCast, B_size]
      simp
    rw [e3]
    refine (core true (by omega)).trans ?_
    exact congrArg (fun z => some (pvGa (z, true))) (by simp; omega)
  · rw [if_neg h0, List.nil_append]
    obtain ⟨b, l, hbl⟩ := List.exists_cons_of_ne_nil hw0
    have hb45 : b ≠ 45 := by
      have := List.all_eq_true.1 hw b (by rw [hbl]; exact List.mem_cons_self)
      exact (isD_ne this).2
    have hst : ∃ l2, strD (Lib.decDigits (y.natAbs / 10000)) (frL y ++ List.replicate (p - (frL y).length) 48) = b :: l2 := by
      unfold strD; rw [hbl]; exact ⟨_, rfl⟩
    have co := core false (by omega)
    generalize strD (Lib.decDigits (y.natAbs / 10000)) (frL y ++ List.replicate (p - (frL y).length) 48) = T at *
    obtain ⟨l2, rfl⟩ := hst
    refine im (by rw [B_size, decide_eq_true_eq]; omega) ?_
    have c1 : decide (((B (b :: l2)).size : Int) > 0) = true := by rw [B_size, List.length_cons, decide_eq_true_eq]; omega
    have c2 : (0 : Int) < ((B (b :: l2)).size : Int) := by rw [B_size, List.length_cons]; omega
    have e1 : ((bt (B (b :: l2)) 0) == 45) = false := by
      have : bt (B (b :: l2)) 0 = (b.toNat : Int) := rfl
      rw [this, beq_eq_false_iff_ne]
      intro h
      apply hb45
      have h5 : b.toNat = (45 : UInt8).toNat := by have : (45 : UInt8).toNat = 45 := rfl; omega
      exact UInt8.toNat_inj.1 h5
    rw [c1, e1, if_pos c2]
    simp only [bs, tb, if_true]
    refine im (by decide) (co.trans ?_)
    exact congrArg (fun z => some (pvGa (z, true))) (by simp; omega)
theorem rnd_self {y st : Int} (h : y % st = 0) : rnd y st = (y, true) := by unfold rnd; rw [if_pos h]
theorem textFixes_D {x p : Int} (hx : I64 x) : D 12 [.sc (.int .i64 x), .sc (.int .i64 p)] = some (.sc (.bool true)) := by
  rw [f12_eq 0]
  refine cb (fixed_ev hx) rfl (cb (rfixed_ev hx) rfl ?_)
  have q0 : ∀ g, (cel 0 (pvF g).parts).toStr = g.1 := fun _ => rfl
  have q1 : ∀ g, (cel 1 (pvF g).parts).toBool = g.2 := fun _ => rfl
  have q2 : ∀ g, (cel 0 (pvE g).cells).toStr = g.1 := fun _ => rfl
  have q3 : ∀ g, (cel 1 (pvE g).cells).toBool = g.2 := fun _ => rfl
  have q4 : ∀ g, (cel 0 (pvGa g).cells).toInt = g.1 := fun _ => rfl
  have q5 : ∀ g, (cel 1 (pvGa g).cells).toBool = g.2 := fun _ => rfl
  rw [bO]
  simp only [q0, q1, q2, q3]
  refine im (by simp) ?_
  by_cases h : 0 ≤ p ∧ p ≤ 4 ∧ May x ∧ (rnd x (stp p)).2 = true
  · have e : fixG x p = (B (fixL (rnd x (stp p)).1 p.toNat), true) := if_pos h
    obtain ⟨h0, h1, hm, hr⟩ := h
    obtain ⟨hy, hyz⟩ := rnd_ok hm (stp_c h0 h1).1 hr
    have hf := fr_len h0 h1 hyz
    rw [e]
    refine im (show ¬ (!true) = true by decide) ?_
    generalize (rnd x (stp p)).1 = y at *
    refine cb (rread_fix hy p.toNat (by omega) hf) rfl ?_
    simp only [q4, q5]
    have e2 : fixG y p = (B (fixL y p.toNat), true) := by
      unfold fixG
      rw [rnd_self hyz]
      exact if_pos ⟨h0, h1, hy, rfl⟩
    refine cb (fixed_ev hy.i) rfl ?_
    simp only [q0, q1, e2, alive14_ev]
    simp
  · have e : fixG x p = (E, false) := if_neg h
    rw [e]
    exact ip (by decide) (cb alive14_ev rfl rfl)
theorem textFixes_law (W : World) (vs : List Value) (xs : List PV) (h : Handed Tryd.prog W [2, 3] vs xs) : D 12 xs = some (.sc (.bool true)) := by
  obtain ⟨a, _, _, rfl, ha, h⟩ := handed_cons h
  obtain ⟨b, _, _, rfl, hb, h⟩ := handed_cons h
  obtain rfl := handed_nil h
  obtain ⟨a, rfl, ha1, ha2⟩ := of2 ha
  obtain ⟨b, rfl, _⟩ := of3 hb
  rw [on2, on3]
  exact textFixes_D ⟨ha1, ha2⟩
end Go.Den.ET
