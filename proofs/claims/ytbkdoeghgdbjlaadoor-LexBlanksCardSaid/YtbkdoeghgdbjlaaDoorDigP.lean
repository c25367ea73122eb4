/- What decimal a text means, and with which one it begins: the plain part. -/
import Derived.Test.YtbkdoeghgdbjlaaDoorDigL
set_option linter.unusedVariables false
set_option linter.unusedSimpArgs false
namespace Go.Den
open Go Go.Proofs
/-- How many digits come, at the most m. -/
def runD : Nat → List UInt8 → Nat
  | 0, _ => 0
  | _ + 1, [] => 0
  | m + 1, c :: t => if isD c = true then 1 + runD m t else 0
def isDp (l : List UInt8) (i : Nat) : Bool := match l.drop i with | [] => false | c :: _ => isD c
def leadn (l : List UInt8) : Nat := let n := runD 30 l; if 0 < n ∧ (l.drop n).head? = some 46 ∧ isDp l (n + 1) = true then n + 1 + runD 4 (l.drop (n + 1)) else n
def leadL (l : List UInt8) : Int × Int × Bool := if (readL (l.take (leadn l))).2 = true then ((readL (l.take (leadn l))).1, (leadn l : Int), true) else (0, 0, false)
theorem runD_le : ∀ (m : Nat) (l : List UInt8), runD m l ≤ m ∧ runD m l ≤ l.length
  | 0, l => by simp [runD]
  | m + 1, [] => by simp [runD]
  | m + 1, c :: t => by
    have := runD_le m t
    rw [runD]
    split <;> simp <;> omega
theorem isDp_eq (l : List UInt8) (i : Nat) : isDp l i = if h : i < l.length then isD l[i] else false := by
  unfold isDp
  by_cases h : i < l.length
  · rw [dif_pos h, List.drop_eq_getElem_cons h]
  · rw [dif_neg h, List.drop_eq_nil_of_le (by omega)]
theorem runD_step (m : Nat) (l : List UInt8) (i : Nat) : runD (m + 1) (l.drop i) = if isDp l i = true then 1 + runD m (l.drop (i + 1)) else 0 := by
  rw [isDp_eq]
  by_cases h : i < l.length
  · rw [dif_pos h, List.drop_eq_getElem_cons h, runD]
  · rw [dif_neg h, List.drop_eq_nil_of_le (by omega), runD]; rfl
theorem leadn_le (l : List UInt8) : leadn l ≤ l.length := by
  unfold leadn
  have h := runD_le 30 l
  have h2 := runD_le 4 (l.drop (runD 30 l + 1))
  rw [List.length_drop] at h2
  dsimp only
  split
  · rename_i hh
    have hd : isDp l (runD 30 l + 1) = true := hh.2.2
    rw [isDp_eq] at hd
    by_cases h3 : runD 30 l + 1 < l.length
    · omega
    · rw [dif_neg h3] at hd; cases hd
  · exact h.2
def gotN (v : Nat) : Int × Bool := if (v : Int) ≤ 9223372036854775807 then ((v : Int), true) else (0, false)
theorem gotN_yes {v : Nat} (h : (v : Int) ≤ 9223372036854775807) : gotN v = ((v : Int), true) := if_pos h
theorem gotN_no {v : Nat} (h : ¬ (v : Int) ≤ 9223372036854775807) : gotN v = (0, false) := if_neg h
def finN (m : Bool) (v : Nat) : Int × Bool := if (v : Int) ≤ 9223372036854775807 then (if m = true then -(v : Int) else (v : Int), true) else (0, false)
/-- The digits, and how many stand behind the point; none: a byte is wrong. -/
def scanL : List UInt8 → Bool → Option Nat → Nat → Option (Option Nat × Nat)
  | [], _, b, v => some (b, v)
  | c :: t, st, b, v => if c = 46 ∧ b = none ∧ st = true then scanL t true (some 0) v else if isD c = true then scanL t true (b.map (· + 1)) (v * 10 + (c.toNat - 48)) else none
def bI : Option Nat → Int
  | none => -1
  | some b => b
def finL (e m : Bool) : Option (Option Nat × Nat) → Int × Bool
  | none => (0, false)
  | some (b, v) => if e = true ∨ b = some 0 ∨ 4 < b.getD 0 then (0, false) else finN m (v * 10 ^ (4 - b.getD 0))
theorem finL_some (e m : Bool) (b : Option Nat) (v : Nat) : finL e m (some (b, v)) = if e = true ∨ b = some 0 ∨ 4 < b.getD 0 then (0, false) else finN m (v * 10 ^ (4 - b.getD 0)) := rfl
theorem scan_two : ∀ (t : List UInt8) (st : Bool) (b v : Nat), scanL t st (some b) v = if t.all isD = true then some (some (b + t.length), valL t v) else none
  | [], st, b, v => rfl
  | c :: t, st, b, v => by
    rw [scanL, if_neg (fun hh => by cases hh.2.1)]
    by_cases h : isD c = true
    · rw [if_pos h]
      show scanL t true (some (b + 1)) _ = _
      rw [scan_two t true (b + 1), List.all_cons, h, Bool.true_and, valL, List.length_cons, show b + 1 + t.length = b + (t.length + 1) by omega]
    · rw [if_neg h, List.all_cons, if_neg (by rw [Bool.and_eq_true]; exact fun hh => h hh.1)]
theorem isD46 : isD 46 = false := by decide
theorem scan_one : ∀ (t : List UInt8) (st : Bool) (v : Nat), scanL t st none v =
    if (cutL t).1.all isD = true then (if (cutL t).2.2 = true then (if st = true ∨ (cutL t).1 ≠ [] then (if (cutL t).2.1.all isD = true then some (some (cutL t).2.1.length, valL (cutL t).2.1 (valL (cutL t).1 v)) else none) else none) else some (none, valL (cutL t).1 v)) else none
  | [], st, v => rfl
  | c :: t, st, v => by
    rw [scanL]
    by_cases hc : c = 46
    · subst hc
      have e : cutL (46 :: t) = ([], t, true) := by rw [cutL, if_pos rfl]
      rw [e]
      by_cases hs : st = true
      · rw [if_pos ⟨rfl, rfl, hs⟩, scan_two, Nat.zero_add]
        simp only [List.all_nil, if_true, hs, true_or]
        rfl
      · rw [if_neg (fun hh => hs hh.2.2), isD46]
        simp [hs]
    · have e : cutL (c :: t) = (c :: (cutL t).1, (cutL t).2.1, (cutL t).2.2) := by rw [cutL, if_neg hc]
      rw [if_neg (fun hh => hc hh.1), e]
      dsimp only
      rw [List.all_cons]
      by_cases h : isD c = true
      · rw [if_pos h, h, Bool.true_and]
        show scanL t true none _ = _
        rw [scan_one t true]
        simp only [valL, true_or, if_true, ne_eq, reduceCtorEq, not_false_eq_true, or_true]
      · rw [if_neg h, show isD c = false by simpa using h]
        rfl
theorem tot_eq (a z : List UInt8) (h : z.length ≤ 4) : valL z (valL a 0) * 10 ^ (4 - z.length) = valL a 0 * 10000 + valL z 0 * 10 ^ (4 - z.length) := by
  have key : ∀ (z : List UInt8) (n : Nat), valL z n = n * 10 ^ z.length + valL z 0 := by
    intro z
    induction z with
    | nil => intro n; simp [valL]
    | cons b z ih =>
      intro n
      rw [valL, valL, ih (n * 10 + (b.toNat - 48)), ih (0 * 10 + (b.toNat - 48)), List.length_cons, Nat.pow_succ]
      generalize b.toNat - 48 = c
      generalize 10 ^ z.length = p
      rw [Nat.zero_mul, Nat.zero_add, Nat.add_mul, Nat.add_assoc, Nat.mul_assoc, Nat.mul_comm 10 p]
  rw [key z (valL a 0), Nat.add_mul, Nat.mul_assoc, ← Nat.pow_add, show z.length + (4 - z.length) = 4 by omega]
/-- The reference's answer is the program's. -/
theorem fin_read {l : List UInt8} (hl : l.length ≤ 40) : finL (bodyL l == []) (minusL l) (scanL (bodyL l) false none 0) = readL l := by
  rw [scan_one]
  have hcl := cut_len (bodyL l)
  have hce : bodyL l = [] → (cutL (bodyL l)).1 = [] := by intro h; rw [h]; rfl
  have hne : (cutL (bodyL l)).1 = [] → (cutL (bodyL l)).2.2 = false → bodyL l = [] := by
    intro h1 h2
    rcases hb : bodyL l with _ | ⟨c, t⟩
    · rfl
    · rw [hb, cutL] at h1 h2
      by_cases hc : c = 46
      · rw [if_pos hc] at h2; cases h2
      · rw [if_neg hc] at h1; cases h1
  unfold readL rightL
  generalize hC : cutL (bodyL l) = C at *
  obtain ⟨a, z, p⟩ := C
  dsimp only at *
  by_cases ha : a.all isD = true
  · rw [if_pos ha]
    cases p with
    | true =>
      rw [if_pos rfl]
      by_cases h0 : a = []
      · rw [if_neg (by simp [h0]), if_neg (fun hh => hh.2.1 h0)]; rfl
      · rw [if_pos (Or.inr h0)]
        have hb0 : (bodyL l == []) = false := by
          have : bodyL l ≠ [] := fun h => h0 (hce h)
          simpa using this
        by_cases hz : z.all isD = true
        · rw [if_pos hz]
          rw [finL_some]
          by_cases hz0 : z = []
          · rw [if_pos (Or.inr (Or.inl (by rw [hz0]; rfl))), if_neg (fun hh => (hh.2.2.2.1 rfl).1 hz0)]
          · by_cases h4 : z.length ≤ 4
            · rw [if_neg (by
                rw [hb0]
                rintro (h | h | h)
                · cases h
                · exact hz0 (List.length_eq_zero_iff.1 (Option.some.inj h))
                · have : 4 < z.length := h
                  omega)]
              show finN (minusL l) (valL z (valL a 0) * 10 ^ (4 - z.length)) = _
              rw [tot_eq a z h4]
              unfold finN totL
              dsimp only
              by_cases hm : ((valL a 0 * 10000 + valL z 0 * 10 ^ (4 - z.length) : Nat) : Int) ≤ 9223372036854775807
              · exact (if_pos hm).trans (if_pos ⟨hl, h0, ha, fun _ => ⟨hz0, hz, h4⟩, hm⟩).symm
              · rw [if_neg hm, if_neg (fun hh => hm hh.2.2.2.2)]
            · rw [if_pos (Or.inr (Or.inr (by show 4 < z.length; omega))), if_neg (fun hh => h4 (hh.2.2.2.1 rfl).2.2)]
        · rw [if_neg hz, if_neg (fun hh => hz (hh.2.2.2.1 rfl).2.1)]; rfl
    | false =>
      rw [if_neg (by decide)]
      obtain rfl := hcl.2.2 rfl
      rw [finL_some]
      by_cases h0 : a = []
      · rw [if_pos (Or.inl (by rw [hne h0 rfl]; rfl)), if_neg (fun hh => hh.2.1 h0)]
      · have hb0 : (bodyL l == []) = false := by
          have : bodyL l ≠ [] := fun h => h0 (hce h)
          simpa using this
        rw [if_neg (by rw [hb0]; rintro (h | h | h) <;> first | cases h | exact absurd h (by decide))]
        show finN (minusL l) (valL a 0 * 10 ^ 4) = _
        have e : totL (a, ([] : List UInt8), false) = valL a 0 * 10 ^ 4 := by unfold totL; simp [valL]
        unfold finN
        rw [← e]
        by_cases hm : ((totL (a, ([] : List UInt8), false) : Nat) : Int) ≤ 9223372036854775807
        · exact (if_pos hm).trans (if_pos ⟨hl, h0, ha, (fun h => absurd h (by decide)), hm⟩).symm
        · rw [if_neg hm, if_neg (fun hh => hm hh.2.2.2.2)]
  · rw [if_neg ha, if_neg (fun hh => ha hh.2.2.1)]; rfl
theorem minus_eq (b : UInt8) (l : List UInt8) : minusL (b :: l) = ((b.toNat : Int) == 45) ∧ bodyL (b :: l) = if ((b.toNat : Int) == 45) = true then l else b :: l := by
  by_cases h : b = 45
  · subst h
    exact body_minus l
  · have hm : minusL (b :: l) = false := by
      unfold minusL
      simp [Lib.hasPrefix, List.isPrefixOf, Ne.symm h]
    have he : ((b.toNat : Int) == 45) = false := beq_eq_false_iff_ne.mpr (fun e => h (UInt8.toNat_inj.1 (by show b.toNat = 45; omega)))
    rw [hm, he]
    refine ⟨rfl, ?_⟩
    unfold bodyL Lib.trimPrefix
    rw [show Lib.hasPrefix (b :: l) [45] = false from hm]; rfl
theorem take_ext (l : List UInt8) (n : Nat) : (B l).extract 0 ((n : Int)).toNat = B (l.take n) := by
  rw [B_extract, Int.toNat_natCast, List.drop_zero, Nat.sub_zero]
def leadR (l : List UInt8) (n : Nat) : Int × Int × Bool := if (readL (l.take n)).2 = true then ((readL (l.take n)).1, (n : Int), true) else (0, 0, false)
theorem take_len (l : List UInt8) (n : Nat) : (l.take n).length ≤ l.length := by rw [List.length_take]; omega
theorem head_46 (l : List UInt8) (n : Nat) : ((l.drop n).head? = some 46) ↔ ∃ h : n < l.length, (l[n].toNat : Int) = 46 := by
  by_cases h : n < l.length
  · rw [List.drop_eq_getElem_cons h]
    constructor
    · intro e
      have e2 : l[n] = 46 := Option.some.inj e
      exact ⟨h, by rw [e2]; rfl⟩
    · rintro ⟨_, e⟩
      have : l[n] = 46 := UInt8.toNat_inj.1 (by show l[n].toNat = 46; omega)
      rw [this]; rfl
  · rw [List.drop_eq_nil_of_le (by omega)]
    constructor
    · intro e; cases e
    · rintro ⟨h2, _⟩; exact absurd h2 h
def leadN (l : List UInt8) (n : Nat) : Nat := if 0 < n ∧ (l.drop n).head? = some 46 ∧ isDp l (n + 1) = true then n + 1 + runD 4 (l.drop (n + 1)) else n
theorem dp_lt {l : List UInt8} {i : Nat} (h : isDp l i = true) : i < l.length := by
  rw [isDp_eq] at h
  by_cases h3 : i < l.length
  · exact h3
  · rw [dif_neg h3] at h; cases h
end Go.Den
