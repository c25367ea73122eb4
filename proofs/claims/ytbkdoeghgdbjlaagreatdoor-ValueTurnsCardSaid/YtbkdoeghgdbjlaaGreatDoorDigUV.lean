/- Decimals, as the reference reads, adds, multiplies and tells them. -/
import Derived.Test.YtbkdoeghgdbjlaaGreatDoorDigRV
import Derived.Test.YtbkdoeghgdbjlaaGreatDoorDigP
set_option linter.unusedVariables false
set_option linter.unusedSimpArgs false
set_option maxRecDepth 100000
namespace Go.Den.EV
open Go Go.Proofs
/-- A count, as the reference tells it. -/
theorem u8dig (n : Nat) : bytesOf [PV.sc (.int .u8 (IntKind.u8.wrap (IntKind.u64.wrap ((48 : Int) + ((n : Int).tmod 10)))))] = B [dc (n % 10)] := by
  have e : Int.tmod (n : Int) 10 = ((n % 10 : Nat) : Int) := by rw [Int.tmod_eq_emod_of_nonneg (by omega)]; omega
  have h : n % 10 < 10 := Nat.mod_lt _ (by decide)
  have e8 : IntKind.u8.wrap ((48 + n % 10 : Nat) : Int) = ((48 + n % 10 : Nat) : Int) := by
    simp [IntKind.wrap, IntKind.bits, IntKind.signed]; omega
  rw [e, u64i (by omega) (by omega), show ((48 : Int) + ((n % 10 : Nat) : Int)) = ((48 + n % 10 : Nat) : Int) by omega, e8]
  rfl
theorem utens (n : Nat) (h : (n : Int) ≤ 18446744073709551615) : IntKind.u64.wrap (Int.tdiv (n : Int) 10) = ((n / 10 : Nat) : Int) := by
  rw [Int.tdiv_eq_ediv_of_nonneg (by omega), u64i (by omega) (by omega)]
  omega
theorem whole_l (d : Nat) : ∀ (n : Nat) (l : List UInt8), n < 10 ^ d → (n : Int) ≤ 18446744073709551615 → l.length + d ≤ 100 → f133.l0a 0 (n : Int) (B l) = some (.sc (.string (B (dg n ++ l)))) := by
  induction d with
  | zero =>
    intro n l h _ hl
    obtain rfl : n = 0 := by simpa using h
    rw [f133.l0a_eq]
    exact im (by decide) rfl
  | succ d ih =>
    intro n l h hu hl
    rw [f133.l0a_eq]
    by_cases h0 : n = 0
    · subst h0
      exact im (by decide) rfl
    · refine ip (by rw [decide_eq_true_eq]; omega) (ip rfl ?_)
      rw [u8dig, B_append, B_size, B_size, utens n hu]
      refine ip (by simp; omega) ?_
      have := ih (n / 10) ([dc (n % 10)] ++ l) (by rw [Nat.pow_succ] at h; omega) (by omega) (by simp; omega)
      rw [← List.append_assoc, dg_step] at this
      rw [show dg n = Lib.decDigits n from if_neg h0]
      exact this
theorem whole_ev (n : Nat) (h : n ≤ 18446744073709551615) : D 133 [.sc (.int .u64 (n : Int))] = some (.sc (.string (B (Lib.decDigits n)))) := by
  rw [f133_eq 0]
  refine ip rfl ?_
  rw [u8dig, utens n (by omega)]
  have := whole_l 25 (n / 10) [dc (n % 10)] (by omega) (by omega) (by simp)
  rw [dg_step] at this
  exact this
theorem rmay8_ev {x : Int} (h : I64 x) : D 56 [.sc (.int .i64 x)] = some (.sc (.bool (decide (May x)))) := by
  rw [f56_eq 0]
  congr 3
  rw [Bool.eq_iff_iff, decide_eq_true_iff, decide_eq_true_iff]
  unfold I64 at h
  unfold May; omega
theorem abs_ev {x : Int} (h : May x) : D 132 [.sc (.int .i64 x)] = some (.sc (.int .u64 (x.natAbs : Int))) := by
  unfold May at h
  rw [f132_eq 0]
  by_cases h0 : x < 0
  · refine ip (by simpa using h0) ?_
    rw [w64 (by omega) (by omega), u64i (by omega) (by omega)]
    exact congrArg (fun z => some (PV.sc (.int .u64 z))) (by omega)
  · refine im (by simpa using h0) ?_
    rw [u64i (by omega) (by omega)]
    exact congrArg (fun z => some (PV.sc (.int .u64 z))) (by omega)
theorem rtext_l (d : Nat) : ∀ (r : Nat) (l : List UInt8), r < 10000 → d ≤ 4 → r % 10 ^ (4 - d) = 0 → l.length ≤ 40 - d → f92.l2a 0 (B l) (r : Int) = some (.sc (.string (B (l ++ fracL d r)))) := by
  induction d with
  | zero =>
    intro r l hr hd hm hl
    have h0 : r = 0 := by
      have : (10 : Nat) ^ (4 - 0) = 10000 := by decide
      rw [this] at hm
      omega
    subst h0
    rw [f92.l2a_eq]
    refine im (by decide) ?_
    rw [show fracL 0 0 = [] from rfl, List.append_nil]
  | succ d ih =>
    intro r l hr hd hm hl
    rw [f92.l2a_eq]
    by_cases h0 : r = 0
    · subst h0
      refine im (by decide) ?_
      rw [show fracL (d + 1) 0 = [] from by simp [fracL], List.append_nil]
    · refine ip (by rw [decide_eq_true_eq]; omega) ?_
      have e1 : IntKind.u64.wrap (Int.tdiv (r : Int) 1000) = ((r / 1000 : Nat) : Int) := by
        rw [Int.tdiv_eq_ediv_of_nonneg (by omega), u64i (by omega) (by omega)]; omega
      have e2 : IntKind.u64.wrap ((Int.tmod (r : Int) 1000) * 10) = ((r % 1000 * 10 : Nat) : Int) := by
        rw [Int.tmod_eq_emod_of_nonneg (by omega), u64i (by omega) (by omega)]; omega
      rw [e1, e2]
      refine cb (whole_ev _ (by omega)) rfl ?_
      rw [dd_small (by omega)]
      simp only [ts]
      refine ip (by simp [B_size]; omega) ?_
      rw [B_append]
      have hm2 : (r % 1000 * 10) % 10 ^ (4 - d) = 0 := by
        have : d = 0 ∨ d = 1 ∨ d = 2 ∨ d = 3 := by omega
        rcases this with rfl | rfl | rfl | rfl
        · have e : (10 : Nat) ^ (4 - (0 + 1)) = 1000 := by decide
          rw [e] at hm
          show _ % 10000 = 0
          omega
        · have e : (10 : Nat) ^ (4 - (1 + 1)) = 100 := by decide
          rw [e] at hm
          show _ % 1000 = 0
          omega
        · have e : (10 : Nat) ^ (4 - (2 + 1)) = 10 := by decide
          rw [e] at hm
          show _ % 100 = 0
          omega
        · show _ % 10 = 0
          omega
      rw [ih (r % 1000 * 10) (l ++ [dc (r / 1000)]) (by omega) (by omega) hm2 (by simp; omega)]
      rw [show fracL (d + 1) r = dc (r / 1000) :: fracL d (r % 1000 * 10) from by simp [fracL, h0], List.append_assoc]
      rfl
theorem rtext_ev {x : Int} (hx : I64 x) : D 92 [.sc (.int .i64 x)] = some (.sc (.string (B (texS x)))) := by
  rw [f92_eq 0]
  refine cb (rmay8_ev hx) rfl ?_
  simp only [tb]
  unfold texS
  by_cases h : May x
  · rw [if_pos h, decide_eq_true h]
    refine im (by decide) (cb (abs_ev h) rfl ?_)
    have hh := h
    unfold May at hh
    have e1 : IntKind.u64.wrap (Int.tdiv (x.natAbs : Int) 10000) = ((x.natAbs / 10000 : Nat) : Int) := by
      rw [Int.tdiv_eq_ediv_of_nonneg (by omega), u64i (by omega) (by omega)]; omega
    have e2 : Int.tmod (x.natAbs : Int) 10000 = ((x.natAbs % 10000 : Nat) : Int) := by
      rw [Int.tmod_eq_emod_of_nonneg (by omega)]; omega
    simp only [ti]
    rw [e1]
    refine cb (whole_ev _ (by omega)) rfl ?_
    have hl := head_len h
    have hr : x.natAbs % 10000 < 10000 := Nat.mod_lt _ (by decide)
    have fin : ∀ l : List UInt8, l.length ≤ 17 → f92.j0a 0 (x.natAbs : Int) (B l) = some (.sc (.string (B (l ++ fracS (x.natAbs % 10000))))) := by
      intro l hl
      rw [f92.j0a_eq, e2]
      unfold fracS
      generalize x.natAbs % 10000 = r at hr
      by_cases h0 : r = 0
      · subst h0
        refine im (by decide) ?_
        rw [f92.j1a_eq, if_pos rfl, List.append_nil, f92.l2a_eq]
        exact im (by decide) rfl
      · refine ip (by rw [decide_eq_true_eq]; omega) ?_
        rw [if_neg h0]
        refine ip (by rw [B_size]; omega) ?_
        rw [show (⟨#[46]⟩ : ByteArray) = B [46] from rfl, B_append, f92.j1a_eq]
        rw [rtext_l 4 r (l ++ [46]) hr (by decide) (by omega) (by simp; omega), List.append_assoc]
        rfl
    unfold texL
    by_cases h0 : x < 0
    · rw [if_pos h0] at hl ⊢
      refine ip (by simpa using h0) ?_
      simp only [ts]
      refine ip (by rw [B_size]; simp at hl ⊢; omega) ?_
      rw [show (⟨#[45]⟩ : ByteArray) = B [45] from rfl, B_append]
      exact fin _ hl
    · rw [if_neg h0] at hl ⊢
      refine im (by simpa using h0) ?_
      exact fin _ hl
  · rw [if_neg h, decide_eq_false h]
    exact ip (by decide) rfl
def pvO (q r : Int) (ok : Bool) : PV := .agg [.sc (.int .u64 q), .sc (.int .u64 r), .sc (.bool ok)]
def pvGa (g : Int × Bool) : PV := .agg [.sc (.int .i64 g.1), .sc (.bool g.2)]
theorem radd_ev {a b : Int} (ha : I64 a) (hb : I64 b) : D 147 [.sc (.int .i64 a), .sc (.int .i64 b)] = some (pvGa (addS a b)) := by
  have ma : decide (a ≥ -9223372036854775807) = decide (May a) := by congr 1; apply propext; unfold I64 at ha; unfold May; omega
  have mb : decide (b ≥ -9223372036854775807) = decide (May b) := by congr 1; apply propext; unfold I64 at hb; unfold May; omega
  rw [f147_eq 0]
  simp only [rmay8_ev ha, rmay8_ev hb, bs, shb, if_true, tb, bA, bO]
  unfold I64 at ha hb
  have d1 : (decide (b > 0) && decide (a > IntKind.i64.wrap ((9223372036854775807 : Int) - b))) = decide (b > 0 ∧ a + b > 9223372036854775807) := by
    by_cases h : b > 0
    · rw [w64 (by omega) (by omega), decide_eq_true h, Bool.true_and]; congr 1; apply propext; omega
    · rw [decide_eq_false h, Bool.false_and, decide_eq_false (by omega)]
  have d2 : (decide (b < 0) && decide (a < IntKind.i64.wrap ((-9223372036854775807 : Int) - b))) = decide (b < 0 ∧ a + b < -9223372036854775807) := by
    by_cases h : b < 0
    · rw [w64 (by omega) (by omega), decide_eq_true h, Bool.true_and]; congr 1; apply propext; omega
    · rw [decide_eq_false h, Bool.false_and, decide_eq_false (by omega)]
  simp only [d1, d2]
  unfold addS
  by_cases h : May a ∧ May b ∧ May (a + b)
  · rw [if_pos h]
    refine im ?_ ?_
    · simp only [Bool.or_eq_true, Bool.not_eq_true', decide_eq_true_eq, decide_eq_false_iff_not]
      unfold May at h ⊢; omega
    · unfold May at h
      rw [w64 (by omega) (by omega)]; rfl
  · rw [if_neg h]
    refine ip ?_ rfl
    simp only [Bool.or_eq_true, Bool.not_eq_true', decide_eq_true_eq, decide_eq_false_iff_not]
    unfold May at h ⊢; omega
theorem divide_l0 {b : Int} (hb : 0 < b) (hb' : b ≤ 9223372036854775808) (d : Nat) : ∀ (i H L Q R q0 X S : Int), i = 128 - (d : Int) → d ≤ 128 →
    0 ≤ H → H < 18446744073709551616 → 0 ≤ L → L < 18446744073709551616 → H * 18446744073709551616 + L = X * S → 0 ≤ X → X < 2 ^ d → 0 < S → 2 ^ d * S = 340282366920938463463374607431768211456 →
    0 ≤ q0 → 0 ≤ R → R < b → (q0 < 18446744073709551616 → Q = q0) → 0 ≤ Q → Q < 18446744073709551616 →
    ∃ Q', f177.l0a 0 b i H L 0 0 false Q R (decide (q0 < 18446744073709551616)) = some (pvO Q' (((b * q0 + R) * 2 ^ d + X) % b) (decide (((b * q0 + R) * 2 ^ d + X) / b < 18446744073709551616)))
      ∧ (((b * q0 + R) * 2 ^ d + X) / b < 18446744073709551616 → Q' = ((b * q0 + R) * 2 ^ d + X) / b) ∧ 0 ≤ Q' ∧ Q' < 18446744073709551616 := by
  induction d with
  | zero =>
    intro i H L Q R q0 X S hi hd hH0 hH hL0 hL hHL hX0 hX hS hMS hq0 hR0 hR hQ hQ0 hQ1
    obtain rfl : X = 0 := by have : X < 1 := hX; omega
    have e : (b * q0 + R) * 2 ^ 0 + 0 = R + b * q0 := by rw [Int.pow_zero, Int.mul_one, Int.add_zero, Int.add_comm]
    have hu : (R + b * q0) / b = q0 ∧ (R + b * q0) % b = R := (Int.ediv_emod_unique hb).2 ⟨rfl, hR0, hR⟩
    rw [e, hu.1, hu.2]
    refine ⟨Q, ?_, hQ, hQ0, hQ1⟩
    rw [f177.l0a_eq]
    exact im (by rw [decide_eq_true_eq]; omega) rfl
  | succ d ih =>
    intro i H L Q R q0 X S hi hd hH0 hH hL0 hL hHL hX0 hX hS hMS hq0 hR0 hR hQ hQ0 hQ1
    have hM2 : (2 : Int) ^ (d + 1) = 2 ^ d * 2 := Int.pow_succ ..
    have hMp : (0 : Int) < 2 ^ d := Int.pow_pos (by decide)
    rw [hM2] at hX hMS
    have hMS' : 2 ^ d * S = 170141183460469231731687303715884105728 := by
      rw [Int.mul_assoc, Int.mul_comm 2 S, ← Int.mul_assoc] at hMS
      omega
    -- the bit
    obtain ⟨bit, X', hbit, hbX, hX'0, hX', hH63, hXS⟩ : ∃ bit X' : Int, (bit = 0 ∨ bit = 1) ∧ X = bit * 2 ^ d + X' ∧ 0 ≤ X' ∧ X' < 2 ^ d ∧ H / 9223372036854775808 = bit ∧ X' * (2 * S) = 2 * (H * 18446744073709551616 + L) - bit * 340282366920938463463374607431768211456 := by
      by_cases hc : 2 ^ d ≤ X
      · refine ⟨1, X - 2 ^ d, .inr rfl, by omega, by omega, by omega, ?_, ?_⟩
        · have := Int.mul_le_mul_of_nonneg_right hc (Int.le_of_lt hS)
          omega
        · rw [hHL, Int.sub_mul, Int.mul_left_comm X 2 S, Int.mul_left_comm (2 ^ d) 2 S, hMS']; omega
      · refine ⟨0, X, .inl rfl, by omega, by omega, by omega, ?_, ?_⟩
        · have := Int.mul_lt_mul_of_pos_right (Int.lt_of_not_ge hc) hS
          omega
        · rw [hHL, Int.mul_left_comm X 2 S]; omega
    have hbit01 : 0 ≤ bit ∧ bit ≤ 1 := by omega
    have hN : ∀ c : Int, (b * q0 + R) * 2 ^ (d + 1) + X = (b * (2 * q0 + c) + (2 * R + bit - c * b)) * 2 ^ d + X' := by
      intro c
      rw [hM2, hbX]
      generalize (2 : Int) ^ d = M
      grind
    have eH : IntKind.u64.wrap (IntKind.u64.wrap (H * 2) + IntKind.u64.wrap (Int.tdiv L 9223372036854775808)) = 2 * H - bit * 18446744073709551616 + L / 9223372036854775808 := by
      rw [Int.tdiv_eq_ediv_of_nonneg hL0]; simp only [u64w]; omega
    have eL : IntKind.u64.wrap (L * 2) = 2 * L % 18446744073709551616 := by rw [u64w, Int.mul_comm]
    have eR : IntKind.u64.wrap (IntKind.u64.wrap (R * 2) + IntKind.u64.wrap (Int.tdiv H 9223372036854775808)) = 2 * R + bit := by
      rw [Int.tdiv_eq_ediv_of_nonneg hH0, hH63]; simp only [u64w]; omega
    have hi1 : IntKind.i64.wrap (i + 1) = i + 1 := w64 (by omega) (by omega)
    have go : ∀ (c Q1 : Int), (c = 0 ∨ c = 1) → (c = 1 ↔ b ≤ 2 * R + bit) → Q1 = (if c = 1 then IntKind.u64.wrap (IntKind.u64.wrap (Q * 2) + 1) else IntKind.u64.wrap (Q * 2)) →
        ∃ Q', f177.l0a 0 b (IntKind.i64.wrap (i + 1)) (2 * H - bit * 18446744073709551616 + L / 9223372036854775808) (2 * L % 18446744073709551616) 0 0 false Q1 (2 * R + bit - c * b) (decide (2 * q0 + c < 18446744073709551616)) =
          some (pvO Q' (((b * q0 + R) * 2 ^ (d + 1) + X) % b) (decide (((b * q0 + R) * 2 ^ (d + 1) + X) / b < 18446744073709551616))) ∧ (((b * q0 + R) * 2 ^ (d + 1) + X) / b < 18446744073709551616 → Q' = ((b * q0 + R) * 2 ^ (d + 1) + X) / b) ∧ 0 ≤ Q' ∧ Q' < 18446744073709551616 := by
      intro c Q1 hc hcb hQ1e
      rw [hN c, hi1]
      refine ih (i + 1) _ _ Q1 (2 * R + bit - c * b) (2 * q0 + c) X' (2 * S) (by omega) (by omega) ?_ ?_ (by omega) (by omega) ?_ hX'0 hX' (by omega) ?_ (by omega) ?_ ?_ ?_ ?_ ?_
      · omega
      · omega
      · rw [hXS]; omega
      · rw [Int.mul_left_comm, hMS']; decide
      · rcases hc with rfl | rfl <;> omega
      · rcases hc with rfl | rfl <;> omega
      · intro h
        have := hQ (by omega)
        subst this
        rcases hc with rfl | rfl
        · rw [hQ1e, if_neg (by decide), u64w]; omega
        · rw [hQ1e, if_pos rfl, u64w, u64w]; omega
      · rw [hQ1e]; split <;> rw [u64w] <;> omega
      · rw [hQ1e]; split <;> rw [u64w] <;> omega
    have fin : ∀ ok' : Bool, (∀ c : Int, (c = 0 ∨ c = 1) → ok' = decide (2 * q0 + c < 18446744073709551616)) → ∃ Q', (if decide (IntKind.u64.wrap (IntKind.u64.wrap (R * 2) + IntKind.u64.wrap (Int.tdiv H 9223372036854775808)) ≥ b) = true
          then f177.l0a 0 b (IntKind.i64.wrap (i + 1)) (IntKind.u64.wrap (IntKind.u64.wrap (H * 2) + IntKind.u64.wrap (Int.tdiv L 9223372036854775808))) (IntKind.u64.wrap (L * 2)) 0 0 false (IntKind.u64.wrap (IntKind.u64.wrap (Q * 2) + 1)) (IntKind.u64.wrap (IntKind.u64.wrap (IntKind.u64.wrap (R * 2) + IntKind.u64.wrap (Int.tdiv H 9223372036854775808)) - b)) ok'
          else f177.l0a 0 b (IntKind.i64.wrap (i + 1)) (IntKind.u64.wrap (IntKind.u64.wrap (H * 2) + IntKind.u64.wrap (Int.tdiv L 9223372036854775808))) (IntKind.u64.wrap (L * 2)) 0 0 false (IntKind.u64.wrap (Q * 2)) (IntKind.u64.wrap (IntKind.u64.wrap (R * 2) + IntKind.u64.wrap (Int.tdiv H 9223372036854775808))) ok')
          = some (pvO Q' (((b * q0 + R) * 2 ^ (d + 1) + X) % b) (decide (((b * q0 + R) * 2 ^ (d + 1) + X) / b < 18446744073709551616))) ∧ (((b * q0 + R) * 2 ^ (d + 1) + X) / b < 18446744073709551616 → Q' = ((b * q0 + R) * 2 ^ (d + 1) + X) / b) ∧ 0 ≤ Q' ∧ Q' < 18446744073709551616 := by
      intro ok' hok
      rw [eH, eL, eR]
      by_cases hcb : 2 * R + bit ≥ b
      · obtain ⟨Q', h1, h2⟩ := go 1 _ (.inr rfl) ⟨fun _ => hcb, fun _ => rfl⟩ (by rw [if_pos rfl])
        refine ⟨Q', ip (decide_eq_true hcb) ?_, h2⟩
        rw [u64i (x := 2 * R + bit - b) (by omega) (by omega), hok 1 (.inr rfl)]
        rw [Int.one_mul] at h1
        exact h1
      · obtain ⟨Q', h1, h2⟩ := go 0 _ (.inl rfl) ⟨fun h => by omega, fun h => absurd h hcb⟩ (by rw [if_neg (by decide)])
        refine ⟨Q', im (by rw [decide_eq_true_eq]; exact hcb) ?_, h2⟩
        rw [hok 0 (.inl rfl)]
        rw [Int.zero_mul, Int.sub_zero] at h1
        exact h1
    by_cases hok : q0 < 18446744073709551616
    · have hQe := hQ hok
      obtain ⟨Q', h1, h2⟩ := fin (decide (Q < 9223372036854775808)) (fun c hc => by rw [hQe]; congr 1; apply propext; omega)
      refine ⟨Q', ?_, h2⟩
      rw [f177.l0a_eq]
      refine ip (by rw [decide_eq_true_eq]; omega) ?_
      rw [bA, tb, decide_eq_true hok, Bool.true_and]
      exact h1
    · obtain ⟨Q', h1, h2⟩ := fin false (fun c hc => by rw [decide_eq_false (by omega)])
      refine ⟨Q', ?_, h2⟩
      rw [f177.l0a_eq]
      refine ip (by rw [decide_eq_true_eq]; omega) ?_
      rw [bA, tb, decide_eq_false hok, Bool.false_and]
      exact h1

theorem divide_ev {H L b : Int} (hb : 0 < b) (hb' : b ≤ 9223372036854775808) (hH0 : 0 ≤ H) (hH : H < 18446744073709551616) (hL0 : 0 ≤ L) (hL : L < 18446744073709551616) :
    ∃ Q', D 177 [.agg [.sc (.int .u64 H), .sc (.int .u64 L)], .sc (.int .u64 b)] = some (pvO Q' ((H * 18446744073709551616 + L) % b) (decide ((H * 18446744073709551616 + L) / b < 18446744073709551616)))
      ∧ ((H * 18446744073709551616 + L) / b < 18446744073709551616 → Q' = (H * 18446744073709551616 + L) / b) ∧ 0 ≤ Q' ∧ Q' < 18446744073709551616 := by
  have := divide_l0 hb hb' 128 0 H L 0 0 0 (H * 18446744073709551616 + L) 1 (by decide) (by decide) hH0 hH hL0 hL (by rw [Int.mul_one]) (by omega) (by show _ < (340282366920938463463374607431768211456 : Int); omega) (by decide) (by decide) (by decide) (by decide) hb (fun _ => rfl) (by decide) (by decide)
  rw [show (b * 0 + 0) * 2 ^ 128 + (H * 18446744073709551616 + L) = H * 18446744073709551616 + L by omega] at this
  rw [f177_eq 0]
  exact this
theorem small_mul {a b : Int} (h0 : 0 ≤ a) (h1 : a ≤ 4294967295) (b0 : 0 ≤ b) (b1 : b ≤ 10000) : 0 ≤ a * b ∧ a * b ≤ 42949672950000 := by
  refine ⟨Int.mul_nonneg h0 b0, ?_⟩
  have := Int.mul_le_mul h1 b1 b0 (by decide : (0 : Int) ≤ 4294967295)
  exact this
theorem timesS_ev {a b : Int} (h0 : 0 ≤ a) (h1 : a < 18446744073709551616) (b0 : 0 ≤ b) (b1 : b ≤ 10000) : D 178 [.sc (.int .u64 a), .sc (.int .u64 b)] = some (.agg [.sc (.int .u64 (a * b / 18446744073709551616)), .sc (.int .u64 (a * b % 18446744073709551616))]) := by
  rw [f178_eq 0]
  have e1 : b.tdiv 4294967296 = 0 := by rw [Int.tdiv_eq_ediv_of_nonneg b0]; omega
  have e2 : b.tmod 4294967296 = b := by rw [Int.tmod_eq_emod_of_nonneg b0]; omega
  have e3 : a.tdiv 4294967296 = a / 4294967296 := Int.tdiv_eq_ediv_of_nonneg h0
  have e4 : a.tmod 4294967296 = a % 4294967296 := Int.tmod_eq_emod_of_nonneg h0
  have k0 : IntKind.u64.wrap 0 = 0 := rfl
  have m1 := small_mul (a := a / 4294967296) (by omega) (by omega) b0 b1
  have m2 := small_mul (a := a % 4294967296) (by omega) (by omega) b0 b1
  have hp : a * b = a / 4294967296 * b * 4294967296 + a % 4294967296 * b := by
    have : a = a / 4294967296 * 4294967296 + a % 4294967296 := by omega
    conv => lhs; rw [this, Int.add_mul, Int.mul_right_comm]
  rw [hp]
  rw [e1, e2, e3, e4, k0, Int.mul_zero, Int.mul_zero, k0, Int.zero_add, Int.zero_add]
  rw [u64i (x := a / 4294967296) (by omega) (by omega)]
  generalize hx : a / 4294967296 * b = X at *
  generalize hy : a % 4294967296 * b = Y at *
  rw [u64i (x := X) (by omega) (by omega), u64i (x := Y) (by omega) (by omega)]
  have d1 : Y.tdiv 4294967296 = Y / 4294967296 := Int.tdiv_eq_ediv_of_nonneg m2.1
  have d2 : Y.tmod 4294967296 = Y % 4294967296 := Int.tmod_eq_emod_of_nonneg m2.1
  rw [d1, d2, u64i (x := Y / 4294967296) (by omega) (by omega), u64i (x := X + Y / 4294967296) (by omega) (by omega)]
  have d3 : (X + Y / 4294967296).tdiv 4294967296 = (X + Y / 4294967296) / 4294967296 := Int.tdiv_eq_ediv_of_nonneg (by omega)
  have d4 : (X + Y / 4294967296).tmod 4294967296 = (X + Y / 4294967296) % 4294967296 := Int.tmod_eq_emod_of_nonneg (by omega)
  rw [d3, d4]
  generalize hC : X + Y / 4294967296 = C at *
  rw [u64i (x := C % 4294967296) (by omega) (by omega)]
  have d5 : (C % 4294967296).tdiv 4294967296 = 0 := by rw [Int.tdiv_eq_ediv_of_nonneg (by omega)]; omega
  have d6 : (C % 4294967296).tmod 4294967296 = C % 4294967296 := by rw [Int.tmod_eq_emod_of_nonneg (by omega)]; omega
  rw [d5, d6, k0, Int.add_zero]
  simp only [u64w]
  have r1 : C / 4294967296 % 18446744073709551616 % 18446744073709551616 % 18446744073709551616 = (X * 4294967296 + Y) / 18446744073709551616 := by omega
  have r2 : (C % 4294967296 * 4294967296 % 18446744073709551616 + Y % 4294967296) % 18446744073709551616 = (X * 4294967296 + Y) % 18446744073709551616 := by omega
  rw [r1, r2]
/-- Times a small number, if it has room. -/
theorem rscl_ev {a b : Int} (ha : May a) (hb0 : 0 < b) (hb : b ≤ 10000) : D 146 [.sc (.int .i64 a), .sc (.int .i64 b), .sc (.int .i64 1)] = some (pvGa (mulS a b)) := by
  have mb : May b := by unfold May; omega
  have m1 : May 1 := by decide
  have hA := natAbs_lt ha
  rw [f146_eq 0]
  simp only [rmay8_ev ha.i, rmay8_ev mb.i, rmay8_ev m1.i, decide_eq_true ha, decide_eq_true mb, decide_eq_true m1, bs, shb, if_true, tb, bA, bO]
  refine im (by decide) (cb (abs_ev m1) rfl (cb (abs_ev ha) rfl (cb (abs_ev mb) rfl ?_)))
  have eb : (b.natAbs : Int) = b := by omega
  simp only [ti]
  rw [eb]
  refine cb (timesS_ev hA.1 (by omega) (by omega) hb) rfl ?_
  rw [show (((1 : Int).natAbs : Nat) : Int) = 1 from rfl]
  have hp : 0 ≤ (a.natAbs : Int) * b := Int.mul_nonneg hA.1 (by omega)
  have hp2 : (a.natAbs : Int) * b ≤ 9223372036854775807 * 10000 := Int.mul_le_mul hA.2 hb (by omega) (by decide)
  have hab : (a.natAbs : Int) * b = if a < 0 then -(a * b) else a * b := by
    split
    · rw [← Int.neg_mul]; congr 1; omega
    · congr 1; omega
  obtain ⟨Q, h1, h2, h3, h4⟩ := divide_ev (H := (a.natAbs : Int) * b / 18446744073709551616) (L := (a.natAbs : Int) * b % 18446744073709551616) (b := 1) (by decide) (by decide) (by omega) (by omega) (by omega) (by omega)
  have e5 : (a.natAbs : Int) * b / 18446744073709551616 * 18446744073709551616 + (a.natAbs : Int) * b % 18446744073709551616 = (a.natAbs : Int) * b := by omega
  rw [e5, Int.ediv_one, Int.emod_one] at h1
  rw [e5, Int.ediv_one] at h2
  refine cb h1 rfl ?_
  generalize hP : (a.natAbs : Int) * b = p at *
  show (if (!(decide (p < 18446744073709551616)) || decide (Q > 9223372036854775807)) = true then _ else _) = _
  by_cases hm : p ≤ 9223372036854775807
  · have hQ := h2 (by omega)
    subst hQ
    rw [mulS_yes ⟨ha, mb, by unfold May; split at hab <;> omega⟩]
    refine im (by simp; omega) (im (show ¬ decide (IntKind.u64.wrap (1 - 0) ≤ (0 : Int)) = true by decide) ?_)
    show f146.j0a 0 a b 1 Q 0 false = _
    rw [f146.j0a_eq]
    refine im (by rw [decide_eq_true_eq]; omega) ?_
    have db : decide (b < 0) = false := decide_eq_false (by omega)
    rw [w64 (x := Q) (by omega) (by omega)]
    by_cases ha0 : a < 0
    · rw [if_pos ha0] at hab
      refine ip (by rw [decide_eq_true ha0, db]; rfl) (im (by decide) ?_)
      rw [w64 (by omega) (by omega)]
      exact congrArg (fun z => some (pvGa (z, true))) (by omega)
    · rw [if_neg ha0] at hab
      refine im (by rw [decide_eq_false ha0, db]; decide) (im (by decide) ?_)
      exact congrArg (fun z => some (pvGa (z, true))) (by omega)
  · rw [mulS_no (by unfold May; split at hab <;> omega)]
    refine ip ?_ rfl
    rw [Bool.or_eq_true]
    by_cases h5 : p < 18446744073709551616
    · have hQ := h2 h5
      exact .inr (by rw [decide_eq_true_eq]; omega)
    · exact .inl (by rw [decide_eq_false h5]; rfl)
theorem bt46 {l : List UInt8} {i : Nat} (h : i < l.length) : ((bt (B l) (i : Int)) == 46) = (l[i] == 46) := by
  rw [B_bt h, Bool.eq_iff_iff, beq_iff_eq, beq_iff_eq]
  constructor
  · intro h2
    have : l[i].toNat = (46 : UInt8).toNat := by have : (46 : UInt8).toNat = 46 := rfl; omega
    exact UInt8.toNat_inj.1 this
  · intro h2; rw [h2]; rfl
end Go.Den.EV
