/- Lists of values: as texts, as truths. -/
import Derived.Test.YtcfhllbobapaiaaDoorFoldAT
set_option linter.unusedVariables false
set_option linter.unusedSimpArgs false
set_option maxRecDepth 100000
namespace Go.Den.ET
open Go Go.Proofs
/-- A count, as the reference tells it. -/
theorem u8dig (n : Nat) : bytesOf [PV.sc (.int .u8 (IntKind.u8.wrap (IntKind.u64.wrap ((48 : Int) + ((n : Int).tmod 10)))))] = B [dc (n % 10)] := by
  have e : Int.tmod (n : Int) 10 = ((n % 10 : Nat) : Int) := by rw [Int.tmod_eq_emod_of_nonneg (by omega)]; omega
  have h : n % 10 < 10 := Nat.mod_lt _ (by decide)
  have e8 : IntKind.u8.wrap ((48 + n % 10 : Nat) : Int) = ((48 + n % 10 : Nat) : Int) := by
    simp [IntKind.wrap, IntKind.bits, IntKind.signed]; omega
  rw [e, u64i (by omega) (by omega), show ((48 : Int) + ((n % 10 : Nat) : Int)) = ((48 + n % 10 : Nat) : Int) by omega, e8]
  rfl
theorem utens (n : Nat) (h : (n : Int) ≤ 18446744073709551615) : IntKind.u64.wrap (Int.tdiv (n : Int) 10) = ((n / 10 : Nat) : Int) := by
  rw [Int.tdiv_eq_ediv_of_nonneg (by omega), u64i (by omega) (by omega)]
  omega
theorem whole_l (d : Nat) : ∀ (n : Nat) (l : List UInt8), n < 10 ^ d → (n : Int) ≤ 18446744073709551615 → l.length + d ≤ 100 → f71.l0a 0 (n : Int) (B l) = some (.sc (.string (B (dg n ++ l)))) := by
  induction d with
  | zero =>
    intro n l h _ hl
    obtain rfl : n = 0 := by simpa using h
    rw [f71.l0a_eq]
    exact im (by decide) rfl
  | succ d ih =>
    intro n l h hu hl
    rw [f71.l0a_eq]
    by_cases h0 : n = 0
    · subst h0
      exact im (by decide) rfl
    · refine ip (by rw [decide_eq_true_eq]; omega) (ip rfl ?_)
      rw [u8dig, B_append, B_size, B_size, utens n hu]
      refine ip (by simp; omega) ?_
      have := ih (n / 10) ([dc (n % 10)] ++ l) (by rw [Nat.pow_succ] at h; omega) (by omega) (by simp; omega)
      rw [← List.append_assoc, dg_step] at this
      rw [show dg n = Lib.decDigits n from if_neg h0]
      exact this
theorem whole_ev (n : Nat) (h : n ≤ 18446744073709551615) : D 71 [.sc (.int .u64 (n : Int))] = some (.sc (.string (B (Lib.decDigits n)))) := by
  rw [f71_eq 0]
  refine ip rfl ?_
  rw [u8dig, utens n (by omega)]
  have := whole_l 25 (n / 10) [dc (n % 10)] (by omega) (by omega) (by simp)
  rw [dg_step] at this
  exact this
theorem rmay8_ev {x : Int} (h : I64 x) : D 19 [.sc (.int .i64 x)] = some (.sc (.bool (decide (May x)))) := by
  rw [f19_eq 0]
  congr 3
  rw [Bool.eq_iff_iff, decide_eq_true_iff, decide_eq_true_iff]
  unfold I64 at h
  unfold May; omega
theorem abs_ev {x : Int} (h : May x) : D 70 [.sc (.int .i64 x)] = some (.sc (.int .u64 (x.natAbs : Int))) := by
  unfold May at h
  rw [f70_eq 0]
  by_cases h0 : x < 0
  · refine ip (by simpa using h0) ?_
    rw [w64 (by omega) (by omega), u64i (by omega) (by omega)]
    exact congrArg (fun z => some (PV.sc (.int .u64 z))) (by omega)
  · refine im (by simpa using h0) ?_
    rw [u64i (by omega) (by omega)]
    exact congrArg (fun z => some (PV.sc (.int .u64 z))) (by omega)
theorem rtext_l (d : Nat) : ∀ (r : Nat) (l : List UInt8), r < 10000 → d ≤ 4 → r % 10 ^ (4 - d) = 0 → l.length ≤ 40 - d → f18.l2a 0 (B l) (r : Int) = some (.sc (.string (B (l ++ fracL d r)))) := by
  induction d with
  | zero =>
    intro r l hr hd hm hl
    have h0 : r = 0 := by
      have : (10 : Nat) ^ (4 - 0) = 10000 := by decide
      rw [this] at hm
      omega
    subst h0
    rw [f18.l2a_eq]
    refine im (by decide) ?_
    rw [show fracL 0 0 = [] from rfl, List.append_nil]
  | succ d ih =>
    intro r l hr hd hm hl
    rw [f18.l2a_eq]
    by_cases h0 : r = 0
    · subst h0
      refine im (by decide) ?_
      rw [show fracL (d + 1) 0 = [] from by simp [fracL], List.append_nil]
    · refine ip (by rw [decide_eq_true_eq]; omega) ?_
      have e1 : IntKind.u64.wrap (Int.tdiv (r : Int) 1000) = ((r / 1000 : Nat) : Int) := by
        rw [Int.tdiv_eq_ediv_of_nonneg (by omega), u64i (by omega) (by omega)]; omega
      have e2 : IntKind.u64.wrap ((Int.tmod (r : Int) 1000) * 10) = ((r % 1000 * 10 : Nat) : Int) := by
        rw [Int.tmod_eq_emod_of_nonneg (by omega), u64i (by omega) (by omega)]; omega
      rw [e1, e2]
      refine cb (whole_ev _ (by omega)) rfl ?_
      rw [dd_small (by omega)]
      simp only [ts]
      refine ip (by simp [B_size]; omega) ?_
      rw [B_append]
      have hm2 : (r % 1000 * 10) % 10 ^ (4 - d) = 0 := by
        have : d = 0 ∨ d = 1 ∨ d = 2 ∨ d = 3 := by omega
        rcases this with rfl | rfl | rfl | rfl
        · have e : (10 : Nat) ^ (4 - (0 + 1)) = 1000 := by decide
          rw [e] at hm
          show _ % 10000 = 0
          omega
        · have e : (10 : Nat) ^ (4 - (1 + 1)) = 100 := by decide
          rw [e] at hm
          show _ % 1000 = 0
          omega
        · have e : (10 : Nat) ^ (4 - (2 + 1)) = 10 := by decide
          rw [e] at hm
          show _ % 100 = 0
          omega
        · show _ % 10 = 0
          omega
      rw [ih (r % 1000 * 10) (l ++ [dc (r / 1000)]) (by omega) (by omega) hm2 (by simp; omega)]
      rw [show fracL (d + 1) r = dc (r / 1000) :: fracL d (r % 1000 * 10) from by simp [fracL, h0], List.append_assoc]
      rfl
theorem rtext_ev {x : Int} (hx : I64 x) : D 18 [.sc (.int .i64 x)] = some (.sc (.string (B (texS x)))) := by
  rw [f18_eq 0]
  refine cb (rmay8_ev hx) rfl ?_
  simp only [tb]
  unfold texS
  by_cases h : May x
  · rw [if_pos h, decide_eq_true h]
    refine im (by decide) (cb (abs_ev h) rfl ?_)
    have hh := h
    unfold May at hh
    have e1 : IntKind.u64.wrap (Int.tdiv (x.natAbs : Int) 10000) = ((x.natAbs / 10000 : Nat) : Int) := by
      rw [Int.tdiv_eq_ediv_of_nonneg (by omega), u64i (by omega) (by omega)]; omega
    have e2 : Int.tmod (x.natAbs : Int) 10000 = ((x.natAbs % 10000 : Nat) : Int) := by
      rw [Int.tmod_eq_emod_of_nonneg (by omega)]; omega
    simp only [ti]
    rw [e1]
    refine cb (whole_ev _ (by omega)) rfl ?_
    have hl := head_len h
    have hr : x.natAbs % 10000 < 10000 := Nat.mod_lt _ (by decide)
    have fin : ∀ l : List UInt8, l.length ≤ 17 → f18.j0a 0 (x.natAbs : Int) (B l) = some (.sc (.string (B (l ++ fracS (x.natAbs % 10000))))) := by
      intro l hl
      rw [f18.j0a_eq, e2]
      unfold fracS
      generalize x.natAbs % 10000 = r at hr
      by_cases h0 : r = 0
      · subst h0
        refine im (by decide) ?_
        rw [f18.j1a_eq, if_pos rfl, List.append_nil, f18.l2a_eq]
        exact im (by decide) rfl
      · refine ip (by rw [decide_eq_true_eq]; omega) ?_
        rw [if_neg h0]
        refine ip (by rw [B_size]; omega) ?_
        rw [show (⟨#[46]⟩ : ByteArray) = B [46] from rfl, B_append, f18.j1a_eq]
        rw [rtext_l 4 r (l ++ [46]) hr (by decide) (by omega) (by simp; omega), List.append_assoc]
        rfl
    unfold texL
    by_cases h0 : x < 0
    · rw [if_pos h0] at hl ⊢
      refine ip (by simpa using h0) ?_
      simp only [ts]
      refine ip (by rw [B_size]; simp at hl ⊢; omega) ?_
      rw [show (⟨#[45]⟩ : ByteArray) = B [45] from rfl, B_append]
      exact fin _ hl
    · rw [if_neg h0] at hl ⊢
      refine im (by simpa using h0) ?_
      exact fin _ hl
  · rw [if_neg h, decide_eq_false h]
    exact ip (by decide) rfl
end Go.Den.ET
