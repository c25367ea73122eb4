/- Texts that CanonTells rests on. -/
import Derived.Test.YtkhbkbkambflbaaGreatDoorMCanonTells1
import Derived.Test.YtkhbkbkambflbaaGreatDoorMCanonTells0
/- Labels and categories as text: the plain part. -/
set_option linter.unusedVariables false
set_option linter.unusedSimpArgs false
namespace Go.Den
open Go Go.Proofs
def bitB (s c : Nat) : Bool := s / 2 ^ c % 2 == 1
def listS (s : Nat) : List Nat := (List.range 64).filter (bitB s)
def txtC : List Nat → List UInt8
 | [] => []
 | [c] => Lib.decDigits c
 | c :: d :: cs => Lib.decDigits c ++ 44 :: txtC (d :: cs)
def joinC : List (List UInt8) → List UInt8
 | [] => []
 | [w] => w
 | w :: x :: ws => w ++ 44 :: joinC (x :: ws)
def finS (s : Nat) : Option Nat → Nat
 | none => s
 | some n => if n < 64 then s ||| 2 ^ n else s
def runsR : List UInt8 → Nat → Option Nat → Nat
 | [], s, n => finS s n
 | b :: t, s, n => if isD b = true ∧ n.getD 0 < 100 then runsR t s (some (n.getD 0 * 10 + (b.toNat - 48))) else runsR t (finS s n) none
theorem lt_pow {s c : Nat} (h : s / 2 ^ c = 0) : s < 2 ^ c := by
 apply Classical.byContradiction; intro hn
 have : 1 ≤ s / 2 ^ c := (Nat.le_div_iff_mul_le (Nat.pow_pos (by decide))).2 (by omega)
 omega
theorem bit_hi {s c j : Nat} (h : s < 2 ^ c) (hj : c ≤ j) : bitB s j = false := by
 unfold bitB
 have : 2 ^ c ≤ 2 ^ j := Nat.pow_le_pow_right (by decide) hj
 rw [Nat.div_eq_of_lt (by omega)]; rfl
theorem bit_add_lo {s c j : Nat} (hj : j < c) : bitB (s + 2 ^ c) j = bitB s j := by
 unfold bitB
 have e : 2 ^ c = 2 ^ j * (2 * 2 ^ (c - j - 1)) := by
  rw [← Nat.mul_assoc, ← Nat.pow_succ, ← Nat.pow_add]; congr 1; omega
 rw [e, Nat.add_mul_div_left _ _ (Nat.pow_pos (by decide)), Nat.add_mul_mod_self_left]
theorem bit_add_c {s c : Nat} (h : s < 2 ^ c) : bitB (s + 2 ^ c) c = true := by
 unfold bitB
 rw [Nat.add_div_right _ (Nat.pow_pos (by decide)), Nat.div_eq_of_lt h]; rfl
theorem range_split {c : Nat} (h : c < 64) : List.range 64 = List.range c ++ c :: (List.range (63 - c)).map (fun i => c + 1 + i) := by
 have e : List.range 64 = List.range (c + 1 + (63 - c)) := by congr 1; omega
 rw [e, List.range_add, List.range_succ, List.append_assoc]; rfl
theorem listS_add {s c : Nat} (h : s < 2 ^ c) (hc : c < 64) : listS (s + 2 ^ c) = listS s ++ [c] := by
 unfold listS
 rw [range_split hc, List.filter_append, List.filter_append, List.filter_cons, List.filter_cons, bit_add_c h, bit_hi h (Nat.le_refl c)]
 have h1 : (List.range c).filter (bitB (s + 2 ^ c)) = (List.range c).filter (bitB s) := by
  apply List.filter_congr
  intro x hx
  exact bit_add_lo (List.mem_range.1 hx)
 have hlt : s + 2 ^ c < 2 ^ (c + 1) := by rw [Nat.pow_succ]; omega
 have no : ∀ m : Nat, m < 2 ^ (c + 1) → ((List.range (63 - c)).map (fun i => c + 1 + i)).filter (bitB m) = [] := by
  intro m hm
  rw [List.filter_eq_nil_iff]
  intro x hx
  obtain ⟨i, _, rfl⟩ := List.mem_map.1 hx
  rw [bit_hi hm (by omega)]; exact Bool.false_ne_true
 rw [h1, no _ hlt, no s (by rw [Nat.pow_succ]; omega)]
 simp
theorem listS_0 : listS 0 = [] := by decide
theorem numC_dd {w : List UInt8} {c : Nat} (h : numC w = some c) : w = Lib.decDigits c ∧ c < 64 := by
 unfold numC at h
 split at h
 ·rename_i hh
  cases h
  obtain ⟨⟨h1, h2⟩, h3, h4⟩ := hh
  refine ⟨?_, h4⟩
  rcases w with _ | ⟨a, _ | ⟨b, _ | ⟨c, w⟩⟩⟩
  ·simp at h1
  ·have ha : isD a = true := by simpa using h3
   have hr : 48 ≤ a.toNat ∧ a.toNat ≤ 57 := by unfold isD at ha; simpa using ha
   have e : rowN [a] = a.toNat - 48 := by show 0 * 10 + (a.toNat - 48) = _; omega
   rw [e, dd_small (by omega)]
   congr 1
   apply UInt8.toNat_inj.1
   rw [dc_nat (by omega)]; omega
  ·simp only [List.all_cons, List.all_nil, Bool.and_true, Bool.and_eq_true] at h3
   have hr : 48 ≤ a.toNat ∧ a.toNat ≤ 57 := by have := h3.1; unfold isD at this; simpa using this
   have hr2 : 48 ≤ b.toNat ∧ b.toNat ≤ 57 := by have := h3.2; unfold isD at this; simpa using this
   have ha : a.toNat ≠ 48 := fun e => h2 ⟨rfl, by
    have : a = 48 := UInt8.toNat_inj.1 e
    rw [this]; rfl⟩
   have e : rowN [a, b] = (a.toNat - 48) * 10 + (b.toNat - 48) := by show (0 * 10 + (a.toNat - 48)) * 10 + (b.toNat - 48) = _; omega
   rw [e, dd_big (by omega), show ((a.toNat - 48) * 10 + (b.toNat - 48)) / 10 = a.toNat - 48 by omega, show ((a.toNat - 48) * 10 + (b.toNat - 48)) % 10 = b.toNat - 48 by omega, dd_small (by omega)]
   have e1 : dc (a.toNat - 48) = a := by apply UInt8.toNat_inj.1; rw [dc_nat (by omega)]; omega
   have e2 : dc (b.toNat - 48) = b := by apply UInt8.toNat_inj.1; rw [dc_nat (by omega)]; omega
   rw [e1, e2]; rfl
  ·simp at h1
 ·cases h
theorem dd_lt100 {c : Nat} (h : c < 100) : 1 ≤ (Lib.decDigits c).length ∧ (Lib.decDigits c).length ≤ 2 := by
 have h1 := dd_len 1 c (by omega)
 have h2 := dd_ne c
 rcases hd : Lib.decDigits c with _ | ⟨b, l⟩
 ·exact absurd hd h2
 ·rw [hd] at h1; simp at h1 ⊢; omega
theorem numC_of {c : Nat} (h : c < 64) : numC (Lib.decDigits c) = some c := by
 have hr : rowN (Lib.decDigits c) = c := by
  have : rowN (Lib.decDigits c) = valL (Lib.decDigits c) 0 := by
   have : ∀ (l : List UInt8) (n : Nat), l.foldl (fun n b => n * 10 + (b.toNat - 48)) n = valL l n := by
    intro l
    induction l with
    | nil => intro n; rfl
    | cons b l ih => intro n; rw [List.foldl_cons, ih, valL]
   exact this _ 0
  rw [this, dd_val]
 unfold numC
 rw [hr, if_pos]
 refine ⟨⟨dd_lt100 (by omega), ?_⟩, dd_all c, h⟩
 rintro ⟨h1, h2⟩
 by_cases h10 : c < 10
 ·rw [dd_small h10] at h1; simp at h1
 ·rw [dd_big h10, dd_small (by omega)] at h2
  have := congrArg UInt8.toNat (Option.some.inj h2)
  rw [dc_nat (by omega)] at this
  have : 48 + c / 10 = 48 := this
  omega
/-- What is read is a text of a set. -/
theorem catsG_text : ∀ (ws : List (List UInt8)) (s r : Nat), catsG s ws = some r → ∃ cs, ws = cs.map Lib.decDigits ∧ listS r = listS s ++ cs ∧ (s < 2 ^ 64 → r < 2 ^ 64)
 | [], s, r, h => by rw [catsG] at h; cases h; exact ⟨[], rfl, by simp, fun h => h⟩
 | w :: ws, s, r, h => by
  rw [catsG] at h
  split at h
  ·cases h
  ·rename_i c hc
   obtain ⟨hw, h64⟩ := numC_dd hc
   split at h
   ·rename_i hz
    obtain ⟨cs, e1, e2, e3⟩ := catsG_text ws _ r h
    have hl := lt_pow hz
    refine ⟨c :: cs, by rw [List.map_cons, ← e1, ← hw], by rw [e2, listS_add hl h64, List.append_assoc]; rfl, fun _ => e3 ?_⟩
    have : 2 ^ (c + 1) ≤ 2 ^ 64 := Nat.pow_le_pow_right (by decide) h64
    rw [Nat.pow_succ] at this
    omega
   ·cases h
theorem join_spc : ∀ l : List UInt8, joinC (spc l) = l
 | [] => rfl
 | b :: l => by
  have ih := join_spc l
  obtain ⟨h, t, e⟩ := spc_ne l
  by_cases hb : b = 44
  ·rw [hb, spc_blank]
   rw [e] at ih ⊢
   show [] ++ 44 :: joinC (h :: t) = _
   rw [ih]; rfl
  ·rw [spc_cons hb e]
   rw [e] at ih
   cases t with
   | nil => exact congrArg (b :: ·) ih
   | cons x t => exact congrArg (b :: ·) ih
theorem txt_join : ∀ cs : List Nat, txtC cs = joinC (cs.map Lib.decDigits)
 | [] => rfl
 | [c] => rfl
 | c :: d :: cs => by
  have := txt_join (d :: cs)
  show Lib.decDigits c ++ 44 :: txtC (d :: cs) = Lib.decDigits c ++ 44 :: joinC ((d :: cs).map Lib.decDigits)
  rw [this]
theorem catsP_text {t : List UInt8} {s : Nat} (h : catsP t = some s) : t = txtC (listS s) ∧ s < 2 ^ 64 := by
 unfold catsP at h
 split at h
 ·rename_i ht
  cases h
  rw [listS_0]
  exact ⟨ht, by decide⟩
 ·obtain ⟨cs, e1, e2, e3⟩ := catsG_text _ _ _ h
  rw [listS_0, List.nil_append] at e2
  rw [e2, txt_join, ← e1, join_spc]
  exact ⟨rfl, e3 (by decide)⟩
def sumL : List Nat → Nat
 | [] => 0
 | c :: cs => 2 ^ c + sumL cs
theorem sum_app : ∀ (a b : List Nat), sumL (a ++ b) = sumL a + sumL b
 | [], b => by show sumL b = 0 + sumL b; omega
 | c :: a, b => by show 2 ^ c + sumL (a ++ b) = 2 ^ c + sumL a + sumL b; rw [sum_app a b]; omega
theorem sum_low (s : Nat) : ∀ k, sumL ((List.range k).filter (bitB s)) = s % 2 ^ k
 | 0 => by show 0 = s % 1; omega
 | k + 1 => by
  rw [List.range_succ, List.filter_append, sum_app, sum_low s k, Nat.mod_pow_succ]
  unfold bitB
  have h2 : s / 2 ^ k % 2 = 0 ∨ s / 2 ^ k % 2 = 1 := by omega
  rcases h2 with h | h
  ·rw [h]
   have : List.filter (fun c => s / 2 ^ c % 2 == 1) [k] = [] := by simp [h]
   rw [this]; rfl
  ·rw [h]
   have : List.filter (fun c => s / 2 ^ c % 2 == 1) [k] = [k] := by simp [h]
   rw [this, Nat.mul_one]; rfl
theorem sum_list {s : Nat} (h : s < 2 ^ 64) : sumL (listS s) = s := by
 unfold listS; rw [sum_low, Nat.mod_eq_of_lt h]
theorem list_sorted (s : Nat) : (listS s).Pairwise (· < ·) ∧ ∀ c ∈ listS s, c < 64 := by
 unfold listS
 refine ⟨(List.pairwise_lt_range).filter _, fun c hc => ?_⟩
 exact List.mem_range.1 (List.mem_filter.1 hc).1
theorem catsG_of : ∀ (cs : List Nat) (s : Nat), cs.Pairwise (· < ·) → (∀ c ∈ cs, c < 64) → (∀ c ∈ cs, s < 2 ^ c) → catsG s (cs.map Lib.decDigits) = some (s + sumL cs)
 | [], s, _, _, _ => rfl
 | c :: cs, s, hp, h64, hs => by
  rw [List.pairwise_cons] at hp
  have hc := hs c (List.mem_cons_self ..)
  rw [List.map_cons, catsG, numC_of (h64 c (List.mem_cons_self ..))]
  dsimp only
  rw [if_pos (Nat.div_eq_of_lt hc), catsG_of cs (s + 2 ^ c) hp.2 (fun d hd => h64 d (List.mem_cons_of_mem _ hd)) (fun d hd => by
   have := hp.1 d hd
   have h2 : 2 ^ (c + 1) ≤ 2 ^ d := Nat.pow_le_pow_right (by decide) this
   rw [Nat.pow_succ] at h2
   omega)]
  show some (s + 2 ^ c + sumL cs) = some (s + (2 ^ c + sumL cs))
  rw [Nat.add_assoc]
theorem dd_no44 (n : Nat) : (44 : UInt8) ∉ Lib.decDigits n := by
 intro h
 have := List.all_eq_true.1 (dd_all n) _ h
 cases this
theorem dd_no58 (n : Nat) : (58 : UInt8) ∉ Lib.decDigits n := by
 intro h
 have := List.all_eq_true.1 (dd_all n) _ h
 cases this
theorem spc_join : ∀ cs : List Nat, cs ≠ [] → spc (txtC cs) = cs.map Lib.decDigits
 | [], h => absurd rfl h
 | [c], _ => spc_last _ (dd_no44 c)
 | c :: d :: cs, _ => by
  show spc (Lib.decDigits c ++ 44 :: txtC (d :: cs)) = _
  rw [spc_word _ _ (dd_no44 c), spc_join (d :: cs) (by simp)]; rfl
theorem txt_ne {cs : List Nat} (h : cs ≠ []) : txtC cs ≠ [] := by
 rcases cs with _ | ⟨c, _ | ⟨d, cs⟩⟩
 ·exact absurd rfl h
 ·exact dd_ne c
 ·intro e
  exact absurd e (by show Lib.decDigits c ++ 44 :: _ ≠ []; simp)
theorem catsP_of {s : Nat} (h : s < 2 ^ 64) : catsP (txtC (listS s)) = some s := by
 unfold catsP
 by_cases h0 : listS s = []
 ·have := sum_list h
  rw [h0] at this ⊢
  rw [← this]; rfl
 ·rw [if_neg (txt_ne h0), spc_join _ h0]
  have hs := list_sorted s
  have := catsG_of (listS s) 0 hs.1 hs.2 (fun c _ => Nat.pow_pos (by decide))
  rw [this, sum_list h, Nat.zero_add]
/-- What the reference reads of such a text. -/
theorem runs_dd {c : Nat} (h : c < 64) (q : List UInt8) (s : Nat) : runsR (Lib.decDigits c ++ q) s none = runsR q s (some c) := by
 by_cases h10 : c < 10
 ·rw [dd_small h10]
  show runsR (dc c :: q) s none = _
  rw [runsR, if_pos ⟨dc_isD h10, by decide⟩, dc_nat h10]
  congr 2
  show 0 * 10 + (48 + c - 48) = c
  omega
 ·rw [dd_big h10, dd_small (by omega)]
  show runsR (dc (c / 10) :: dc (c % 10) :: q) s none = _
  rw [runsR, if_pos ⟨dc_isD (by omega), by decide⟩, dc_nat (by omega), runsR, if_pos ⟨dc_isD (by omega), by show 0 * 10 + (48 + c / 10 - 48) < 100; omega⟩, dc_nat (by omega)]
  congr 2
  show (0 * 10 + (48 + c / 10 - 48)) * 10 + (48 + c % 10 - 48) = c
  omega
theorem or_add {s c : Nat} (h : s < 2 ^ c) : s ||| 2 ^ c = s + 2 ^ c := by
 have := Nat.two_pow_add_eq_or_of_lt h 1
 rw [Nat.mul_one] at this
 rw [Nat.or_comm, ← this, Nat.add_comm]
theorem fin_add {s c : Nat} (h : s < 2 ^ c) (hc : c < 64) : finS s (some c) = s + 2 ^ c := by
 show (if c < 64 then s ||| 2 ^ c else s) = _
 rw [if_pos hc, or_add h]
theorem runs_of : ∀ (cs : List Nat) (s : Nat), cs.Pairwise (· < ·) → (∀ c ∈ cs, c < 64) → (∀ c ∈ cs, s < 2 ^ c) → runsR (txtC cs) s none = s + sumL cs
 | [], s, _, _, _ => rfl
 | [c], s, hp, h64, hs => by
  have := runs_dd (h64 c (List.mem_cons_self ..)) [] s
  rw [List.append_nil] at this
  show runsR (Lib.decDigits c) s none = _
  rw [this]
  show finS s (some c) = s + (2 ^ c + 0)
  rw [fin_add (hs c (List.mem_cons_self ..)) (h64 c (List.mem_cons_self ..))]; rfl
 | c :: d :: cs, s, hp, h64, hs => by
  rw [List.pairwise_cons] at hp
  have hc := hs c (List.mem_cons_self ..)
  have h6 := h64 c (List.mem_cons_self ..)
  show runsR (Lib.decDigits c ++ 44 :: txtC (d :: cs)) s none = _
  rw [runs_dd h6, runsR, if_neg (fun hh => absurd hh.1 (by decide)), fin_add hc h6, runs_of (d :: cs) (s + 2 ^ c) hp.2 (fun x hx => h64 x (List.mem_cons_of_mem _ hx)) (fun x hx => by
   have := hp.1 x hx
   have h2 : 2 ^ (c + 1) ≤ 2 ^ x := Nat.pow_le_pow_right (by decide) this
   rw [Nat.pow_succ] at h2
   omega)]
  show s + 2 ^ c + sumL (d :: cs) = s + (2 ^ c + sumL (d :: cs))
  omega
theorem runs_lt : ∀ (t : List UInt8) (s : Nat) (n : Option Nat), s < 2 ^ 64 → runsR t s n < 2 ^ 64
 | [], s, n, h => by
  rw [runsR]
  cases n with
  | none => exact h
  | some n =>
   show (if n < 64 then s ||| 2 ^ n else s) < _
   split
   ·rename_i hn
    exact Nat.or_lt_two_pow h (Nat.pow_lt_pow_right (by decide) hn)
   ·exact h
 | b :: t, s, n, h => by
  rw [runsR]
  split
  ·exact runs_lt t s _ h
  ·refine runs_lt t _ _ ?_
   cases n with
   | none => exact h
   | some n =>
    show (if n < 64 then s ||| 2 ^ n else s) < _
    split
    ·rename_i hn
     exact Nat.or_lt_two_pow h (Nat.pow_lt_pow_right (by decide) hn)
    ·exact h
/-- The reference's set of a text: the set, and whether it is one. -/
def setR (t : List UInt8) : Option Nat := if txtC (listS (runsR t 0 none)) = t then some (runsR t 0 none) else none
theorem setR_eq (t : List UInt8) : setR t = catsP t := by
 unfold setR
 split
 ·rename_i h
  have := catsP_of (runs_lt t 0 none (by decide))
  rw [h] at this
  exact this.symm
 ·rename_i h
  cases hc : catsP t with
  | none => rfl
  | some s =>
   obtain ⟨h1, h2⟩ := catsP_text hc
   have hs := list_sorted s
   have := runs_of (listS s) 0 hs.1 hs.2 (fun c _ => Nat.pow_pos (by decide))
   rw [sum_list h2, Nat.zero_add, ← h1] at this
   rw [this] at h
   exact absurd h1.symm h
/-- A label as text. -/
def texLb (n s : Nat) : List UInt8 := if n = 15 ∧ s = 18446744073709551615 then topT else if s ≠ 0 then Lib.decDigits n ++ 58 :: txtC (listS s) else Lib.decDigits n
/-- The reference's search for a label's level. -/
def labR (t : List UInt8) : Nat → Nat → Bool
 | 0, _ => false
 | d + 1, n => if t = Lib.decDigits n then true else if t.length ≤ (Lib.decDigits n).length ∨ t.take ((Lib.decDigits n).length + 1) ≠ Lib.decDigits n ++ [58] then labR t d (n + 1)
  else match setR (t.drop ((Lib.decDigits n).length + 1)) with
   | some s => if texLb n s = t then true else labR t d (n + 1)
   | none => labR t d (n + 1)
def labQ (t : List UInt8) : Bool := t == topT || labR t 16 0
theorem labR_iff (t : List UInt8) : ∀ (d n : Nat), labR t d n = true ↔ ∃ m, n ≤ m ∧ m < n + d ∧ (t = Lib.decDigits m ∨ ∃ r s, t = Lib.decDigits m ++ 58 :: r ∧ catsP r = some s ∧ texLb m s = t)
 | 0, n => by
  constructor
  ·intro h; cases h
  ·rintro ⟨m, h1, h2, _⟩; omega
 | d + 1, n => by
  have ih := labR_iff t d (n + 1)
  have step : (∃ m, n ≤ m ∧ m < n + (d + 1) ∧ (t = Lib.decDigits m ∨ ∃ r s, t = Lib.decDigits m ++ 58 :: r ∧ catsP r = some s ∧ texLb m s = t)) ↔ (t = Lib.decDigits n ∨ ∃ r s, t = Lib.decDigits n ++ 58 :: r ∧ catsP r = some s ∧ texLb n s = t) ∨ labR t d (n + 1) = true := by
   rw [ih]
   constructor
   ·rintro ⟨m, h1, h2, h3⟩
    by_cases hm : m = n
    ·subst hm; exact .inl h3
    ·exact .inr ⟨m, by omega, by omega, h3⟩
   ·rintro (h | ⟨m, h1, h2, h3⟩)
    ·exact ⟨n, Nat.le_refl _, by omega, h⟩
    ·exact ⟨m, by omega, by omega, h3⟩
  rw [step, labR]
  by_cases h1 : t = Lib.decDigits n
  ·rw [if_pos h1]; exact ⟨fun _ => .inl (.inl h1), fun _ => rfl⟩
  rw [if_neg h1]
  by_cases h2 : t.length ≤ (Lib.decDigits n).length ∨ t.take ((Lib.decDigits n).length + 1) ≠ Lib.decDigits n ++ [58]
  ·rw [if_pos h2]
   constructor
   ·exact fun h => .inr h
   ·rintro ((h | ⟨r, s, e, _⟩) | h)
    ·exact absurd h h1
    ·exfalso
     rcases h2 with h2 | h2
     ·rw [e, List.length_append, List.length_cons] at h2; omega
     ·apply h2
      rw [e, show Lib.decDigits n ++ 58 :: r = (Lib.decDigits n ++ [58]) ++ r by simp]
      rw [List.take_left' (by simp)]
    ·exact h
  ·rw [if_neg h2]
   rw [not_or] at h2
   obtain ⟨h2, h3⟩ := h2
   have h3 : t.take ((Lib.decDigits n).length + 1) = Lib.decDigits n ++ [58] := Classical.byContradiction h3
   have et : t = Lib.decDigits n ++ 58 :: t.drop ((Lib.decDigits n).length + 1) := by
    conv => lhs; rw [← List.take_append_drop ((Lib.decDigits n).length + 1) t, h3]
    simp
   generalize t.drop ((Lib.decDigits n).length + 1) = r0 at et
   rw [setR_eq]
   have uniq : ∀ r, t = Lib.decDigits n ++ 58 :: r → r = r0 := by
    intro r e
    rw [et] at e
    have := List.append_cancel_left e
    cases this; rfl
   cases hc : catsP r0 with
   | none =>
    dsimp only
    constructor
    ·exact fun h => .inr h
    ·rintro ((h | ⟨r, s, e, hs, _⟩) | h)
     ·exact absurd h h1
     ·rw [uniq r e, hc] at hs; cases hs
     ·exact h
   | some s0 =>
    dsimp only
    by_cases h4 : texLb n s0 = t
    ·rw [if_pos h4]
     exact ⟨fun _ => .inl (.inr ⟨r0, s0, et, hc, h4⟩), fun _ => rfl⟩
    ·rw [if_neg h4]
     constructor
     ·exact fun h => .inr h
     ·rintro ((h | ⟨r, s, e, hs, h5⟩) | h)
      ·exact absurd h h1
      ·rw [uniq r e, hc] at hs; cases hs; exact absurd h5 h4
      ·exact h
theorem cutC_no : ∀ w : List UInt8, (58 : UInt8) ∉ w → cutC w = (w, none)
 | [], _ => rfl
 | b :: w, h => by
  rw [cutC, if_neg (fun e => h (by rw [e]; exact List.mem_cons_self ..)), cutC_no w (fun hh => h (List.mem_cons_of_mem _ hh))]
theorem cutC_app : ∀ (w r : List UInt8), (58 : UInt8) ∉ w → cutC (w ++ 58 :: r) = (w, some r)
 | [], r, _ => by rw [List.nil_append, cutC, if_pos rfl]
 | b :: w, r, h => by
  rw [List.cons_append, cutC, if_neg (fun e => h (by rw [e]; exact List.mem_cons_self ..)), cutC_app w r (fun hh => h (List.mem_cons_of_mem _ hh))]
theorem cutC_back : ∀ t : List UInt8, t = match cutC t with
  | (h, none) => h
  | (h, some r) => h ++ 58 :: r
 | [] => rfl
 | b :: t => by
  have ih := cutC_back t
  rw [cutC]
  by_cases hb : b = 58
  ·rw [if_pos hb, hb]; rfl
  ·rw [if_neg hb]
   generalize hc : cutC t = c at ih
   obtain ⟨h, o⟩ := c
   cases o with
   | none => exact congrArg (b :: ·) ih
   | some r => exact congrArg (b :: ·) ih
theorem levP_some {h : List UInt8} {n : Nat} (e : levP h = some n) : h = Lib.decDigits n ∧ n < 16 := by
 unfold levP at e
 have h1 := List.find?_some e
 have h2 := List.mem_range.1 (List.mem_of_find?_eq_some e)
 exact ⟨(beq_iff_eq.1 h1).symm, h2⟩
theorem dd_inj' {m n : Nat} (h : Lib.decDigits m = Lib.decDigits n) : m = n := by rw [← dd_val m, h, dd_val]
theorem levP_of {n : Nat} (h : n < 16) : levP (Lib.decDigits n) = some n := by
 cases hl : levP (Lib.decDigits n) with
 | none =>
  unfold levP at hl
  exact absurd (beq_self_eq_true _) (List.find?_eq_none.1 hl n (List.mem_range.2 h))
 | some m => rw [dd_inj' (levP_some hl).1]
theorem lab_same (t : List UInt8) : labP t = labQ t := by
 unfold labP labQ
 by_cases ht : t = topT
 ·rw [ht, beq_self_eq_true, Bool.true_or, Bool.true_or]
 rw [show (t == topT) = false from beq_eq_false_iff_ne.2 ht, Bool.false_or, Bool.false_or, Bool.eq_iff_iff, labR_iff]
 constructor
 ·intro h
  cases hl : levP (cutC t).1 with
  | none => rw [hl] at h; cases h
  | some n =>
   cases hc : catsP ((cutC t).2.getD []) with
   | none => rw [hl, hc] at h; cases h
   | some s =>
    rw [hl, hc] at h
    simp only [Bool.and_eq_true, beq_iff_eq, Bool.not_eq_true'] at h
    obtain ⟨h1, h2⟩ := h
    obtain ⟨e1, e2⟩ := levP_some hl
    have hb := cutC_back t
    refine ⟨n, Nat.zero_le _, by omega, ?_⟩
    generalize cutC t = c at *
    obtain ⟨hd, o⟩ := c
    dsimp only at *
    cases o with
    | none => left; rw [hb, e1]
    | some r =>
     right
     refine ⟨r, s, by rw [hb, e1], hc, ?_⟩
     have hs : s ≠ 0 := by
      intro e0
      rw [e0] at h1; cases h1
     unfold texLb
     rw [if_neg (by
      rintro ⟨a, b⟩
      rw [a, b] at h2; cases h2), if_pos hs, ← (catsP_text hc).1, hb, e1]
     rfl
 ·rintro ⟨n, _, hn, h⟩
  have hn : n < 16 := by omega
  rcases h with h | ⟨r, s, e, hs, hx⟩
  ·rw [h, cutC_no _ (dd_no58 n)]
   dsimp only
   rw [levP_of hn]
   have : catsP (Option.getD none []) = some 0 := rfl
   rw [this]
   simp
  ·rw [e, cutC_app _ _ (dd_no58 n)]
   dsimp only
   rw [levP_of hn, show (some r).getD [] = r from rfl, hs]
   dsimp only
   unfold texLb at hx
   by_cases h15 : n = 15 ∧ s = 18446744073709551615
   ·rw [if_pos h15] at hx
    exact absurd hx.symm ht
   ·rw [if_neg h15] at hx
    by_cases h0 : s = 0
    ·rw [if_neg (by simpa using h0), e] at hx
     exfalso
     have := congrArg List.length hx
     simp at this
    ·have e1 : (s != 0) = true := by rw [bne_iff_ne]; exact h0
     rw [e1]
     have e2 : (n == 15 && s == 18446744073709551615) = false := by
      rw [Bool.and_eq_false_iff, beq_eq_false_iff_ne, beq_eq_false_iff_ne]
      by_cases h : n = 15
      ·exact .inr fun h' => h15 ⟨h, h'⟩
      ·exact .inl h
     rw [e2]; rfl
end Go.Den
/- Labels read of texts, by the reference. -/
set_option linter.unusedVariables false
set_option linter.unusedSimpArgs false
set_option maxRecDepth 100000
namespace Go.Den.ET
open Go Go.Proofs
theorem ob3 {u : Option PV} {b : Bool} {F : PV → Option PV} {r : Option PV} (h : u = some (.sc (.bool b))) (h2 : F (.sc (.bool b)) = r) : Option.bind u F = r := by subst h; exact h2
theorem P64 : (2 : Nat) ^ 64 = 18446744073709551616 := by decide
theorem bit_l {s c : Nat} (hs : s < 2 ^ 64) (hc : c < 64) : ∀ (d i : Nat), i + d = c → f249.l0a 0 ((s / 2 ^ i : Nat) : Int) (c : Int) (i : Int) = some (.sc (.bool (bitB s c))) := by
 intro d
 induction d with
 | zero =>
  intro i h
  rw [f249.l0a_eq]
  have : i = c := by omega
  subst this
  refine im (by rw [decide_eq_true_eq]; omega) ?_
  unfold bitB
  generalize s / 2 ^ i = q
  congr 3
  rw [Int.tmod_eq_emod_of_nonneg (by omega), Bool.eq_iff_iff, beq_iff_eq, beq_iff_eq]
  omega
 | succ d ih =>
  intro i h
  rw [f249.l0a_eq]
  refine ip (by rw [decide_eq_true_eq]; omega) ?_
  have hle : s / 2 ^ i ≤ s := Nat.div_le_self _ _
  have e : IntKind.u64.wrap (((s / 2 ^ i : Nat) : Int).tdiv 2) = ((s / 2 ^ (i + 1) : Nat) : Int) := by
   rw [Nat.pow_succ, ← Nat.div_div_eq_div_mul]
   rw [P64] at hs
   generalize s / 2 ^ i = q at hle
   rw [Int.tdiv_eq_ediv_of_nonneg (by omega), u64i (by omega) (by omega)]; omega
  rw [e, nx (n := 64) (show i < 64 by omega) (by decide)]
  exact ih (i + 1) (by omega)
theorem bit_ev {s c : Nat} (hs : s < 2 ^ 64) (hc : c < 64) : D 249 [.sc (.int .u64 (s : Int)), .sc (.int .i64 (c : Int))] = some (.sc (.bool (bitB s c))) := by
 rw [f249_eq 0, bO]
 have hcond : (decide ((c : Int) < 0) || decide ((c : Int) > 63)) = false := by
  rw [Bool.or_eq_false_iff, decide_eq_false_iff_not, decide_eq_false_iff_not]; omega
 rw [hcond]
 have := bit_l hs hc c 0 (Nat.zero_add _)
 rw [Nat.pow_zero, Nat.div_one] at this
 exact im Bool.false_ne_true this
theorem one_l1 {c : Nat} (hc : c < 64) : ∀ (d i : Nat), i + d = c → f224.l0a 0 (c : Int) ((2 ^ i : Nat) : Int) (i : Int) = some (.sc (.int .u64 ((2 ^ c : Nat) : Int))) := by
 intro d
 induction d with
 | zero =>
  intro i h
  rw [f224.l0a_eq]
  have : i = c := by omega
  subst this
  exact im (by rw [decide_eq_true_eq]; omega) rfl
 | succ d ih =>
  intro i h
  rw [f224.l0a_eq]
  refine ip (by rw [decide_eq_true_eq]; omega) ?_
  have hp : 2 ^ (i + 1) ≤ 2 ^ 63 := Nat.pow_le_pow_right (by decide) (by omega)
  have e : IntKind.u64.wrap (((2 ^ i : Nat) : Int) * 2) = ((2 ^ (i + 1) : Nat) : Int) := by
   rw [Nat.pow_succ] at hp ⊢
   rw [u64i (by omega) (by omega)]; omega
  rw [e, nx (n := 64) (show i < 64 by omega) (by decide)]
  exact ih (i + 1) (by omega)
theorem onec_ev {c : Nat} (hc : c < 64) : D 224 [.sc (.int .i64 (c : Int))] = some (.sc (.int .u64 ((2 ^ c : Nat) : Int))) := by
 rw [f224_eq 0]
 exact one_l1 hc c 0 (Nat.zero_add _)
theorem bit_or (a b c : Nat) : bitB (a ||| b) c = (bitB a c || bitB b c) := by
 have e : ∀ x : Nat, bitB x c = x.testBit c := by
  intro x
  unfold bitB
  rw [Nat.testBit_eq_decide_div_mod_eq, Bool.eq_iff_iff, beq_iff_eq, decide_eq_true_iff]
 rw [e, e, e, Nat.testBit_or]
theorem join_l {a b : Nat} (ha : a < 2 ^ 64) (hb0 : b < 2 ^ 64) : ∀ (d c : Nat), c + d = 64 → f223.l0a 0 (a : Int) (b : Int) (((a ||| b) % 2 ^ c : Nat) : Int) (c : Int) = some (.sc (.int .u64 ((a ||| b : Nat) : Int))) := by
 intro d
 induction d with
 | zero =>
  intro c h
  rw [f223.l0a_eq]
  have : c = 64 := by omega
  subst this
  rw [Nat.mod_eq_of_lt (Nat.or_lt_two_pow ha hb0)]
  exact im (by decide) rfl
 | succ d ih =>
  intro c h
  rw [f223.l0a_eq]
  refine ip (by rw [decide_eq_true_eq]; omega) (cb (bit_ev ha (show c < 64 by omega)) rfl ?_)
  simp only [bit_ev hb0 (show c < 64 by omega), bs, shb, if_true, tb]
  rw [bO]
  have hor := bit_or a b c
  have hms := Nat.mod_pow_succ (x := a ||| b) (b := 2) (k := c)
  have hlt : (a ||| b) % 2 ^ c < 2 ^ c := Nat.mod_lt _ (Nat.pow_pos (by decide))
  have hp : 2 ^ (c + 1) ≤ 2 ^ 64 := Nat.pow_le_pow_right (by decide) (by omega)
  rw [P64, Nat.pow_succ] at hp
  have h2 : (a ||| b) / 2 ^ c % 2 = 0 ∨ (a ||| b) / 2 ^ c % 2 = 1 := by omega
  rcases h2 with h2 | h2
  ·have hz : (bitB a c || bitB b c) = false := by rw [← hor]; unfold bitB; rw [h2]; rfl
   rw [hz]
   refine im Bool.false_ne_true ?_
   rw [nx (n := 64) (show c < 64 by omega) (by decide)]
   have := ih (c + 1) (by omega)
   rw [hms, h2, Nat.mul_zero, Nat.add_zero] at this
   exact this
  ·have hz : (bitB a c || bitB b c) = true := by rw [← hor]; unfold bitB; rw [h2]; rfl
   rw [hz]
   refine ip rfl (cb (onec_ev (show c < 64 by omega)) rfl ?_)
   have ew : IntKind.u64.wrap ((((a ||| b) % 2 ^ c : Nat) : Int) + ((2 ^ c : Nat) : Int)) = (((a ||| b) % 2 ^ (c + 1) : Nat) : Int) := by
    rw [hms, h2, Nat.mul_one, u64i (by omega) (by omega)]; omega
   show f223.l0a 0 (a : Int) (b : Int) (IntKind.u64.wrap ((((a ||| b) % 2 ^ c : Nat) : Int) + ((2 ^ c : Nat) : Int))) (IntKind.i64.wrap ((c : Int) + 1)) = _
   rw [ew, nx (n := 64) (show c < 64 by omega) (by decide)]
   exact ih (c + 1) (by omega)
theorem join_ev {a b : Nat} (ha : a < 2 ^ 64) (hb0 : b < 2 ^ 64) : D 223 [.sc (.int .u64 (a : Int)), .sc (.int .u64 (b : Int))] = some (.sc (.int .u64 ((a ||| b : Nat) : Int))) := by
 rw [f223_eq 0]
 have := join_l ha hb0 64 0 rfl
 rw [Nat.pow_zero, Nat.mod_one] at this
 exact this
def ip1 (l : List Nat) : List PV := l.map fun (c : Nat) => .sc (.int .i64 (c : Int))
theorem ip1_len (l : List Nat) : (ip1 l).length = l.length := by simp [ip1]
theorem ip1_get {l : List Nat} {i : Nat} (h : i < l.length) : (ip1 l).getD i .top = .sc (.int .i64 (l[i] : Int)) := by simp [ip1, h]
def restS (s c : Nat) : List Nat := ((List.range (64 - c)).map (fun i => c + i)).filter (bitB s)
theorem restS_step {s c : Nat} (h : c < 64) : restS s c = if bitB s c = true then c :: restS s (c + 1) else restS s (c + 1) := by
 unfold restS
 rw [show 64 - c = (64 - (c + 1)) + 1 by omega, List.range_succ_eq_map, List.map_cons, List.filter_cons, List.map_map]
 have e : (fun i => c + i) ∘ Nat.succ = fun i => c + 1 + i := by funext i; show c + (i + 1) = c + 1 + i; omega
 rw [e]; rfl
theorem list_b {s : Nat} (hs : s < 2 ^ 64) : ∀ (d c : Nat) (out : List Nat), c + d = 64 → out.length ≤ c → f250.l0b 0 (s : Int) (c : Int) (ip1 out) = some (frozen 1 (ip1 (out ++ restS s c))) := by
 intro d
 induction d with
 | zero =>
  intro c out h ho
  rw [f250.l0b_eq]
  have : c = 64 := by omega
  subst this
  refine im (by decide) ?_
  show _ = some (frozen 1 (ip1 (out ++ [])))
  rw [List.append_nil]
 | succ d ih =>
  intro c out h ho
  rw [f250.l0b_eq]
  refine ip (by rw [decide_eq_true_eq]; omega) (cb (bit_ev hs (show c < 64 by omega)) rfl ?_)
  rw [restS_step (show c < 64 by omega), nx (n := 64) (show c < 64 by omega) (by decide)]
  by_cases hbt : bitB s c = true
  ·rw [if_pos hbt]
   refine ip hbt (ip (by rw [ip1_len]; simp only [List.length_cons, List.length_nil]; omega) ?_)
   have := ih (c + 1) (out ++ [c]) (by omega) (by simp; omega)
   rw [List.append_assoc] at this
   unfold ip1 at this ⊢
   rw [List.map_append] at this
   exact this
  ·rw [if_neg hbt]
   exact im hbt (ih (c + 1) out (by omega) (by omega))
theorem list_a {s : Nat} (hs : s < 2 ^ 64) : ∀ (d c : Nat), c + d = 64 → f250.l0a 0 (s : Int) (c : Int) = some (frozen 1 (ip1 (restS s c))) := by
 intro d
 induction d with
 | zero =>
  intro c h
  rw [f250.l0a_eq]
  have : c = 64 := by omega
  subst this
  exact im (by decide) rfl
 | succ d ih =>
  intro c h
  rw [f250.l0a_eq]
  refine ip (by rw [decide_eq_true_eq]; omega) (cb (bit_ev hs (show c < 64 by omega)) rfl ?_)
  rw [restS_step (show c < 64 by omega), nx (n := 64) (show c < 64 by omega) (by decide)]
  by_cases hbt : bitB s c = true
  ·rw [if_pos hbt]
   by_cases hc0 : 1 ≤ c + 1
   ·refine ip hbt (ip (show 1 * 8 ≤ 140737488355328 ∧ 1 ≤ 140737488355328 by decide) ?_)
    exact list_b hs d (c + 1) [c] (by omega) (by simp)
   ·omega
  ·rw [if_neg hbt]
   exact im hbt (ih (c + 1) (by omega))
theorem blist_ev {s : Nat} (hs : s < 2 ^ 64) : D 250 [.sc (.int .u64 (s : Int))] = some (frozen 1 (ip1 (listS s))) := by
 rw [f250_eq 0]
 have := list_a hs 64 0 rfl
 unfold restS at this
 rw [show (List.range (64 - 0)).map (fun i => 0 + i) = List.range 64 by
  rw [show (fun i => 0 + i) = (id : Nat → Nat) by funext i; exact Nat.zero_add i, List.map_id]] at this
 exact this
def txtT : Bool → List Nat → List UInt8
 | _, [] => []
 | true, c :: cs => Lib.decDigits c ++ txtT false cs
 | false, c :: cs => 44 :: (Lib.decDigits c ++ txtT false cs)
theorem txtT_eq : ∀ cs : List Nat, txtC cs = txtT true cs ∧ (cs ≠ [] → 44 :: txtC cs = txtT false cs)
 | [] => ⟨rfl, fun h => absurd rfl h⟩
 | [c] => ⟨(List.append_nil _).symm, fun _ => by show 44 :: Lib.decDigits c = 44 :: (Lib.decDigits c ++ []); rw [List.append_nil]⟩
 | c :: d :: cs => by
  have ih := (txtT_eq (d :: cs)).2 (by simp)
  have e : txtC (c :: d :: cs) = Lib.decDigits c ++ 44 :: txtC (d :: cs) := rfl
  refine ⟨by rw [e, ih]; rfl, fun _ => by rw [e, ih]; rfl⟩
theorem txtT_len : ∀ (cs : List Nat) (b : Bool), (∀ c ∈ cs, c < 64) → (txtT b cs).length ≤ 3 * cs.length
 | [], b, _ => by cases b <;> exact Nat.le_refl _
 | c :: cs, b, h => by
  have h1 := dd_len 1 c (by have := h c (List.mem_cons_self ..); omega)
  have h2 := txtT_len cs false fun x hx => h x (List.mem_cons_of_mem _ hx)
  cases b
  ·show (44 :: (Lib.decDigits c ++ txtT false cs)).length ≤ _
   rw [List.length_cons, List.length_append, List.length_cons]; omega
  ·show (Lib.decDigits c ++ txtT false cs).length ≤ _
   rw [List.length_append, List.length_cons]; omega
theorem ctxt_l (cs : List Nat) (h64 : ∀ c ∈ cs, c < 64) (hl : cs.length ≤ 64) : ∀ (d i : Nat) (out : List UInt8), i + d = cs.length → out.length ≤ 3 * i → f225.l0a 0 (B out) (ip1 cs).length (fun i => (ip1 cs).getD i .top) (i : Int) = some (.sc (.string (B (out ++ txtT (i == 0) (cs.drop i))))) := by
 intro d
 induction d with
 | zero =>
  intro i out h ho
  rw [f225.l0a_eq]
  refine im (by rw [decide_eq_true_eq, ip1_len]; omega) ?_
  rw [List.drop_eq_nil_of_le (by omega)]
  have : txtT (i == 0) [] = [] := by cases (i == 0) <;> rfl
  rw [this, List.append_nil]
 | succ d ih =>
  intro i out h ho
  have hi : i < cs.length := by omega
  have hc := h64 _ (List.getElem_mem hi)
  have hdl := dd_len 1 cs[i] (by omega)
  rw [f225.l0a_eq]
  refine ip (by rw [decide_eq_true_eq, ip1_len]; omega) ?_
  have join : ∀ out' : List UInt8, out'.length ≤ 3 * i + 1 → f225.j1a 0 (B out') (ip1 cs).length (fun i => (ip1 cs).getD i .top) (i : Int) = some (.sc (.string (B (out' ++ (Lib.decDigits cs[i] ++ txtT false (cs.drop (i + 1))))))) := by
   intro out' ho'
   refine (f225.j1a_eq 0 _ _ _ _).trans ?_
   rw [Int.toNat_natCast, ip1_get hi]
   have hd := digits_ev (n := (cs[i] : Int)) (by omega) (by omega)
   rw [Int.toNat_natCast] at hd
   refine ip (by omega) (ip (by rw [ip1_len]; omega) (ip rfl (cb hd rfl (ip ?_ ?_))))
   ·show (B out').size + (B (Lib.decDigits cs[i])).size ≤ _
    rw [B_size, B_size]; omega
   ·show f225.l0a 0 (B out' ++ B (Lib.decDigits cs[i])) (ip1 cs).length (fun i => (ip1 cs).getD i .top) (IntKind.i64.wrap ((i : Int) + 1)) = _
    rw [B_append, nx hi (by omega), ih (i + 1) (out' ++ Lib.decDigits cs[i]) (by omega) (by rw [List.length_append]; omega), List.append_assoc]; rfl
  rw [List.drop_eq_getElem_cons hi]
  by_cases h0 : i = 0
  ·subst h0
   exact im (by decide) (join out (by omega))
  ·have e : (i == 0) = false := by rw [beq_eq_false_iff_ne]; exact h0
   rw [e]
   refine ip (by rw [decide_eq_true_eq]; omega) (ip (by rw [B_size]; omega) ?_)
   rw [show (⟨#[44]⟩ : ByteArray) = B [44] from rfl, B_append, join (out ++ [44]) (by rw [List.length_append]; simp only [List.length_cons, List.length_nil]; omega)]
   rw [List.append_assoc]; rfl
theorem ctxtr_ev {s : Nat} (hs : s < 2 ^ 64) : D 225 [.sc (.int .u64 (s : Int))] = some (.sc (.string (B (txtC (listS s))))) := by
 rw [f225_eq 0]
 refine cb (blist_ev hs) (by simp [hasSh, frozen, PV.isLst]) ?_
 have hl : (listS s).length ≤ 64 := by
  unfold listS
  exact Nat.le_trans (List.length_filter_le _ _) (by rw [List.length_range]; exact Nat.le_refl _)
 have := ctxt_l (listS s) (list_sorted s).2 hl (listS s).length 0 [] (Nat.zero_add _) (Nat.zero_le _)
 rw [List.drop_zero] at this
 rw [(txtT_eq _).1]
 exact this
def nI : Option Nat → Int
 | none => -1
 | some n => n
theorem runs_l (t : List UInt8) (hl : (t.length : Int) ≤ 9223372036854775000) : ∀ (d i s : Nat) (n : Option Nat), i + d = t.length → s < 2 ^ 64 → (∀ m, n = some m → m < 1000) → f197.l0a 0 (B t) (s : Int) (nI n) (i : Int) 0 false = f197.l0a 0 (B t) ((runsR (t.drop i) s n : Nat) : Int) (-1) ((t.length : Int) + 1) 0 false := by
 have fin : ∀ (i s : Nat) (n : Option Nat), i ≤ t.length → s < 2 ^ 64 → ∀ c : Bool, c = false → (if c = true then (if 0 ≤ (i : Int) then if (i : Int) < ((B t).size : Int) then f197.l0a 0 (B t) (s : Int) (IntKind.i64.wrap ((IntKind.i64.wrap ((IntKind.i64.wrap ((if 0 > nI n then 0 else nI n) * 10)) + (IntKind.i64.wrap (bt (B t) (i : Int))))) - 48)) (IntKind.i64.wrap ((i : Int) + 1)) 0 false else none else none) else
   Option.bind (α := PV) (β := PV) (if decide (nI n ≥ 0) = true then some (.sc (.bool (decide (nI n < 64)))) else some (.sc (.bool false))) fun r8 =>
   if r8.toBool = true then
    (D 224 [.sc (.int .i64 (nI n))]).bind fun r9 => if hasSh (.int .u64) r9 = true then
    (D 223 [.sc (.int .u64 (s : Int)), .sc (.int .u64 r9.toInt)]).bind fun r10 => if hasSh (.int .u64) r10 = true then
    f197.l0a 0 (B t) r10.toInt (-1) (IntKind.i64.wrap ((i : Int) + 1)) 0 false else none else none
   else f197.l0a 0 (B t) (s : Int) (-1) (IntKind.i64.wrap ((i : Int) + 1)) 0 false) = f197.l0a 0 (B t) ((finS s n : Nat) : Int) (nI none) ((i + 1 : Nat) : Int) 0 false := by
  intro i s n hi hs c hc
  subst hc
  refine im Bool.false_ne_true ?_
  have ew : IntKind.i64.wrap ((i : Int) + 1) = ((i + 1 : Nat) : Int) := by rw [w64 (by omega) (by omega)]; omega
  rw [bA, ew]
  cases n with
  | none => exact im (show ¬ (decide ((-1 : Int) ≥ 0) && decide ((-1 : Int) < 64)) = true by decide) rfl
  | some m =>
   by_cases h64 : m < 64
   ·refine ip ?_ (cb (onec_ev h64) rfl (cb (join_ev hs (Nat.pow_lt_pow_right (by decide) h64)) rfl ?_))
    ·show (decide (((m : Nat) : Int) ≥ 0) && decide (((m : Nat) : Int) < 64)) = true
     rw [decide_eq_true (by omega), decide_eq_true (by omega)]; rfl
    ·show _ = f197.l0a 0 (B t) (((if m < 64 then s ||| 2 ^ m else s : Nat)) : Int) (nI none) ((i + 1 : Nat) : Int) 0 false
     rw [if_pos h64]; rfl
   ·refine im ?_ ?_
    ·show ¬ (decide (((m : Nat) : Int) ≥ 0) && decide (((m : Nat) : Int) < 64)) = true
     rw [decide_eq_false (show ¬ ((m : Nat) : Int) < 64 by omega), Bool.and_false]; decide
    ·show _ = f197.l0a 0 (B t) (((if m < 64 then s ||| 2 ^ m else s : Nat)) : Int) (nI none) ((i + 1 : Nat) : Int) 0 false
     rw [if_neg h64]; rfl
 have finlt : ∀ (s : Nat) (n : Option Nat), s < 2 ^ 64 → finS s n < 2 ^ 64 := fun s n hs => runs_lt [] s n hs
 intro d
 induction d with
 | zero =>
  intro i s n h hs hn
  have hi : i = t.length := by omega
  rw [f197.l0a_eq]
  have c : decide ((i : Int) < ((B t).size : Int)) = false := by rw [decide_eq_false_iff_not, B_size]; omega
  refine ip (by rw [decide_eq_true_eq, B_size]; omega) ?_
  rw [c]
  rw [List.drop_eq_nil_of_le (by omega), runsR]
  have := fin i s n (by omega) hs false rfl
  rw [show ((i + 1 : Nat) : Int) = (t.length : Int) + 1 by omega] at this
  exact this
 | succ d ih =>
  intro i s n h hs hn
  have hi : i < t.length := by omega
  rw [f197.l0a_eq]
  have c1 : (0 : Int) ≤ (i : Int) := by omega
  have c2 : (i : Int) < ((B t).size : Int) := by rw [B_size]; omega
  have c : decide ((i : Int) < ((B t).size : Int)) = true := decide_eq_true c2
  refine ip (by rw [decide_eq_true_eq]; omega) ?_
  rw [c, B_bt hi, List.drop_eq_getElem_cons hi, runsR]
  simp only [if_pos c1, if_pos c2, bs, tb, if_true]
  have cond : ∀ {F : PV → Option PV} {r : Option PV}, F (.sc (.bool (isD t[i] && decide (nI n < 100)))) = r → Option.bind (α := PV) (β := PV) (if decide ((t[i].toNat : Int) ≥ 48) = true then some (.sc (.bool (decide ((t[i].toNat : Int) ≤ 57)))) else some (.sc (.bool false))) (fun r6 => Option.bind (α := PV) (β := PV) (if r6.toBool = true then some (.sc (.bool (decide (nI n < 100)))) else some (.sc (.bool false))) F) = r := by
   intro F r hF
   rw [bA, bA]
   have : (decide ((t[i].toNat : Int) ≥ 48) && decide ((t[i].toNat : Int) ≤ 57)) = isD t[i] := by
    unfold isD; rw [Bool.eq_iff_iff, Bool.and_eq_true, Bool.and_eq_true]; simp only [decide_eq_true_eq]; omega
   show F (.sc (.bool ((decide ((t[i].toNat : Int) ≥ 48) && decide ((t[i].toNat : Int) ≤ 57)) && decide (nI n < 100)))) = r
   rw [this]; exact hF
  have hn100 : (nI n < 100) ↔ n.getD 0 < 100 := by
   cases n with
   | none => simp [nI]
   | some m => simp [nI]; omega
  refine cond ?_
  by_cases hd : isD t[i] = true ∧ n.getD 0 < 100
  ·rw [if_pos hd]
   have hr := isD_rng hd.1
   refine ip (by show (isD t[i] && decide (nI n < 100)) = true; rw [hd.1, decide_eq_true (hn100.2 hd.2)]; rfl) ?_
   have e0 : (if 0 > nI n then 0 else nI n) = ((n.getD 0 : Nat) : Int) := by
    cases n with
    | none => rfl
    | some m => exact if_neg (by show ¬ (0 : Int) > ((m : Nat) : Int); omega)
   have hg := hd.2
   have e1 : IntKind.i64.wrap ((IntKind.i64.wrap ((IntKind.i64.wrap ((if 0 > nI n then 0 else nI n) * 10)) + (IntKind.i64.wrap (t[i].toNat : Int)))) - 48) = ((n.getD 0 * 10 + (t[i].toNat - 48) : Nat) : Int) := by
    rw [e0]
    generalize n.getD 0 = g at *
    rw [w64 (x := (g : Int) * 10) (by omega) (by omega), w64 (x := (t[i].toNat : Int)) (by omega) (by omega), w64 (x := (g : Int) * 10 + (t[i].toNat : Int)) (by omega) (by omega), w64 (by omega) (by omega)]; omega
   rw [e1, nx hi (by omega)]
   exact ih (i + 1) s (some (n.getD 0 * 10 + (t[i].toNat - 48))) (by omega) hs (by intro m hm; cases hm; omega)
  ·rw [if_neg hd]
   have hz : (isD t[i] && decide (nI n < 100)) = false := by
    rw [Bool.and_eq_false_iff]
    by_cases h1 : isD t[i] = true
    ·right; rw [decide_eq_false_iff_not]; exact fun h => hd ⟨h1, hn100.1 h⟩
    ·left; simpa using h1
   have := fin i s n (by omega) hs _ hz
   rw [B_bt hi] at this
   simp only [if_pos c1, if_pos c2] at this
   refine Eq.trans this ?_
   exact ih (i + 1) (finS s n) none (by omega) (finlt s n hs) (by intro m hm; cases hm)
def setPV : Option Nat → PV
 | none => .agg [.sc (.int .u64 0), .sc (.bool false)]
 | some s => .agg [.sc (.int .u64 (s : Int)), .sc (.bool true)]
theorem rcats_ev (t : List UInt8) (hl : (t.length : Int) ≤ 9223372036854775000) : D 197 [.sc (.string (B t))] = some (setPV (setR t)) := by
 rw [f197_eq 0]
 have h := runs_l t hl t.length 0 0 none (Nat.zero_add _) (by decide) (by intro m hm; cases hm)
 rw [List.drop_zero] at h
 refine Eq.trans h ?_
 rw [f197.l0a_eq]
 have hs := runs_lt t 0 none (by decide)
 refine im (by rw [decide_eq_true_eq, B_size]; omega) (cb (ctxtr_ev hs) rfl ?_)
 unfold setR
 have e : ((B (txtC (listS (runsR t 0 none)))).toList == (B t).toList) = decide (txtC (listS (runsR t 0 none)) = t) := by
  rw [B_toList, B_toList, Bool.eq_iff_iff, beq_iff_eq, decide_eq_true_iff]
 show (if (!((B (txtC (listS (runsR t 0 none)))).toList == (B t).toList)) = true then _ else _) = _
 rw [e]
 by_cases hx : txtC (listS (runsR t 0 none)) = t
 ·rw [if_pos hx, decide_eq_true hx]
  exact im (by decide) rfl
 ·rw [if_neg hx, decide_eq_false hx]
  exact ip rfl rfl
theorem every_ev : D 222 [] = some (.sc (.int .u64 18446744073709551615)) := denI_of (k := 100) (by kernel_rfl)
theorem rtop_ev : D 196 [] = some (.agg [.sc (.int .i64 15), .sc (.int .u64 18446744073709551615)]) := by
 rw [f196_eq 0]
 exact cb every_ev rfl rfl
theorem rltext_ev {n s : Nat} (hn : n < 16) (hs : s < 2 ^ 64) : D 198 [.agg [.sc (.int .i64 (n : Int)), .sc (.int .u64 (s : Int))]] = some (.sc (.string (B (texLb n s)))) := by
 rw [f198_eq 0, bO]
 have hc : (decide ((n : Int) < 0) || decide ((n : Int) > 15)) = false := by
  rw [Bool.or_eq_false_iff, decide_eq_false_iff_not, decide_eq_false_iff_not]; omega
 rw [hc]
 refine im Bool.false_ne_true (cb rtop_ev rfl ?_)
 unfold texLb
 have e : (((n : Int) == 15) && (((s : Int) == 18446744073709551615) && true)) = decide (n = 15 ∧ s = 18446744073709551615) := by
  rw [Bool.and_true, Bool.eq_iff_iff, Bool.and_eq_true, beq_iff_eq, beq_iff_eq, decide_eq_true_iff]; omega
 show (if (((n : Int) == 15) && (((s : Int) == 18446744073709551615) && true)) = true then _ else _) = _
 rw [e]
 by_cases h : n = 15 ∧ s = 18446744073709551615
 ·rw [if_pos h]
  exact ip (decide_eq_true h) rfl
 rw [if_neg h]
 have hd := digits_ev (n := (n : Int)) (by omega) (by omega)
 rw [Int.toNat_natCast] at hd
 refine im (by rw [decide_eq_true_eq]; exact h) (cb hd rfl ?_)
 have e2 : (((s : Nat) : Int) != 0) = (s != 0) := by rw [Bool.eq_iff_iff, bne_iff_ne, bne_iff_ne]; omega
 rw [e2]
 have hdl := dd_len 1 n (by omega)
 by_cases h0 : s = 0
 ·rw [if_neg (show ¬ s ≠ 0 by simpa using h0)]
  exact im (by simpa using h0) rfl
 ·rw [if_pos h0]
  have hl : (listS s).length ≤ 64 := by
   unfold listS
   exact Nat.le_trans (List.length_filter_le _ _) (by rw [List.length_range]; exact Nat.le_refl _)
  have htl := txtT_len (listS s) true (list_sorted s).2
  rw [← (txtT_eq _).1] at htl
  refine ip (by simpa using h0) (ip ?_ (cb (ctxtr_ev hs) rfl (ip ?_ ?_)))
  ·show (B (Lib.decDigits n)).size + 1 ≤ _; rw [B_size]; omega
  ·show (B (Lib.decDigits n) ++ (⟨#[58]⟩ : ByteArray)).size + (B (txtC (listS s))).size ≤ _
   rw [show (⟨#[58]⟩ : ByteArray) = B [58] from rfl, B_append, B_size, B_size, List.length_append]; simp only [List.length_cons, List.length_nil]; omega
  ·show some (PV.sc (.string ((B (Lib.decDigits n) ++ (⟨#[58]⟩ : ByteArray)) ++ B (txtC (listS s))))) = _
   rw [show (⟨#[58]⟩ : ByteArray) = B [58] from rfl, B_append, B_append]; simp
theorem setR_lt {t : List UInt8} {s : Nat} (h : setR t = some s) : s < 2 ^ 64 := by rw [setR_eq] at h; exact (catsP_text h).2
theorem rlab_l (t : List UInt8) (hl : (t.length : Int) ≤ 9223372036854775000) : ∀ (d n : Nat), n + d = 16 → ∃ x y, f164.l0a 0 (B t) (n : Int) 0 0 false = some (.agg [.sc (.int .i64 x), .sc (.int .u64 y), .sc (.bool (labR t d n))]) := by
 intro d
 induction d with
 | zero =>
  intro n h
  refine ⟨0, 0, ?_⟩
  rw [f164.l0a_eq]
  exact im (by rw [decide_eq_true_eq]; omega) rfl
 | succ d ih =>
  intro n h
  obtain ⟨x, y, e⟩ := ih (n + 1) (by omega)
  have hd := digits_ev (n := (n : Int)) (by omega) (by omega)
  rw [Int.toNat_natCast] at hd
  have hdl := dd_len 1 n (by omega)
  have nxn : IntKind.i64.wrap ((n : Int) + 1) = ((n + 1 : Nat) : Int) := nx (n := 16) (by omega) (by decide)
  rw [labR]
  have eq1 : ((B t).toList == (B (Lib.decDigits n)).toList) = decide (t = Lib.decDigits n) := by
   rw [B_toList, B_toList, Bool.eq_iff_iff, beq_iff_eq, decide_eq_true_iff]
  by_cases h1 : t = Lib.decDigits n
  ·rw [if_pos h1]
   refine ⟨n, 0, ?_⟩
   rw [f164.l0a_eq]
   refine ip (by rw [decide_eq_true_eq]; omega) (cb hd rfl (ip ?_ rfl))
   show ((B t).toList == (B (Lib.decDigits n)).toList) = true
   rw [eq1, decide_eq_true_eq]; exact h1
  rw [if_neg h1]
  have start : ∀ {r : Option PV}, (Option.bind (α := PV) (β := PV) (if decide (((B t).size : Int) ≤ ((B (Lib.decDigits n)).size : Int)) = true then some (.sc (.bool true)) else Option.bind (α := PV) (β := PV) (Option.bind (α := PV) (β := PV) (Option.bind (α := PV) (β := PV) (Option.bind (α := PV) (β := PV) (if 0 ≤ IntKind.i64.wrap (((B (Lib.decDigits n)).size : Int) + 1) then (if IntKind.i64.wrap (((B (Lib.decDigits n)).size : Int) + 1) ≤ ((B t).size : Int) then (if 0 ≤ IntKind.i64.wrap (((B (Lib.decDigits n)).size : Int) + 1) then Option.bind (α := PV) (β := PV) (Option.bind (α := PV) (β := PV) (if (B (Lib.decDigits n)).size + 1 ≤ 9223372036854775807 then some (.sc (.bool (!(((B t).extract 0 (IntKind.i64.wrap (((B (Lib.decDigits n)).size : Int) + 1)).toNat).toList == ((B (Lib.decDigits n)) ++ (⟨#[58]⟩ : ByteArray)).toList)))) else none) fun r3 => some (.sc (.bool r3.toBool))) (fun r4 => some (.sc (.bool r4.toBool))) else none) else none) else none) fun r5 => some (.sc (.bool r5.toBool))) fun r6 => some (.sc (.bool r6.toBool))) fun r7 => some (.sc (.bool r7.toBool))) (fun r8 => some (.sc (.bool r8.toBool)))) (fun r9 => if r9.toBool = true then f164.l0a 0 (B t) (IntKind.i64.wrap ((n : Int) + 1)) 0 0 false else
    if 0 ≤ ((B t).size : Int) then (if ((B t).size : Int) ≤ ((B t).size : Int) then (if 0 ≤ IntKind.i64.wrap (((B (Lib.decDigits n)).size : Int) + 1) then (if IntKind.i64.wrap (((B (Lib.decDigits n)).size : Int) + 1) ≤ ((B t).size : Int) then
     (D 197 [.sc (.string ((B t).extract (IntKind.i64.wrap (((B (Lib.decDigits n)).size : Int) + 1)).toNat ((B t).size : Int).toNat))]).bind fun r10 => if hasSh (.agg [(.int .u64), .bool]) r10 = true then
      Option.bind (α := PV) (β := PV) (if (cel 1 r10.cells).toBool = true then Option.bind (α := PV) (β := PV) ((D 198 [.agg [.sc (.int .i64 (n : Int)), .sc (.int .u64 ((cel 0 r10.cells).toInt))]]).bind fun r11 => if hasSh .str r11 = true then some (.sc (.bool (r11.toStr.toList == (B t).toList))) else none) (fun r12 => some (.sc (.bool r12.toBool))) else some (.sc (.bool false))) fun r13 =>
      if r13.toBool = true then some (.agg [.sc (.int .i64 (n : Int)), .sc (.int .u64 ((cel 0 r10.cells).toInt)), .sc (.bool true)]) else f164.l0a 0 (B t) (IntKind.i64.wrap ((n : Int) + 1)) 0 0 false else none
     else none) else none) else none) else none)) = r → f164.l0a 0 (B t) (n : Int) 0 0 false = r := by
   intro r hr
   rw [f164.l0a_eq]
   refine ip (by rw [decide_eq_true_eq]; omega) (cb hd rfl (im ?_ hr))
   show ¬ ((B t).toList == (B (Lib.decDigits n)).toList) = true
   rw [eq1, decide_eq_true_eq]; exact h1
  rw [nxn] at start
  have ew : IntKind.i64.wrap (((B (Lib.decDigits n)).size : Int) + 1) = (((Lib.decDigits n).length + 1 : Nat) : Int) := by
   rw [B_size, w64 (by omega) (by omega)]; omega
  rw [ew, ext_drop', Int.toNat_natCast] at start
  by_cases h2 : t.length ≤ (Lib.decDigits n).length
  ·rw [if_pos (.inl h2)]
   refine ⟨x, y, start (ob3 (b := true) (ip ?_ rfl) (ip rfl e))⟩
   rw [decide_eq_true_eq, B_size, B_size]; omega
  have c1 : ¬ decide (((B t).size : Int) ≤ ((B (Lib.decDigits n)).size : Int)) = true := by rw [decide_eq_true_eq, B_size, B_size]; omega
  have c2 : (((Lib.decDigits n).length + 1 : Nat) : Int) ≤ ((B t).size : Int) := by rw [B_size]; omega
  have c3 : (B (Lib.decDigits n)).size + 1 ≤ 9223372036854775807 := by rw [B_size]; omega
  have ex : ((B t).extract 0 ((Lib.decDigits n).length + 1)) = B (t.take ((Lib.decDigits n).length + 1)) := by
   rw [B_extract, List.drop_zero, Nat.sub_zero]
  have eq2 : ((B (t.take ((Lib.decDigits n).length + 1))).toList == ((B (Lib.decDigits n)) ++ (⟨#[58]⟩ : ByteArray)).toList) = decide (t.take ((Lib.decDigits n).length + 1) = Lib.decDigits n ++ [58]) := by
   rw [show (⟨#[58]⟩ : ByteArray) = B [58] from rfl, B_append, B_toList, B_toList, Bool.eq_iff_iff, beq_iff_eq, decide_eq_true_iff]
  rw [ex, eq2] at start
  have mid : ∀ {b : Bool} {F : PV → Option PV} {r : Option PV}, decide (t.take ((Lib.decDigits n).length + 1) = Lib.decDigits n ++ [58]) = !b → F (.sc (.bool b)) = r → Option.bind (α := PV) (β := PV) (if decide (((B t).size : Int) ≤ ((B (Lib.decDigits n)).size : Int)) = true then some (.sc (.bool true)) else Option.bind (α := PV) (β := PV) (Option.bind (α := PV) (β := PV) (Option.bind (α := PV) (β := PV) (Option.bind (α := PV) (β := PV) (if 0 ≤ (((Lib.decDigits n).length + 1 : Nat) : Int) then (if (((Lib.decDigits n).length + 1 : Nat) : Int) ≤ ((B t).size : Int) then (if 0 ≤ (((Lib.decDigits n).length + 1 : Nat) : Int) then Option.bind (α := PV) (β := PV) (Option.bind (α := PV) (β := PV) (if (B (Lib.decDigits n)).size + 1 ≤ 9223372036854775807 then some (.sc (.bool (!decide (t.take ((Lib.decDigits n).length + 1) = Lib.decDigits n ++ [58])))) else none) fun r3 => some (.sc (.bool r3.toBool))) (fun r4 => some (.sc (.bool r4.toBool))) else none) else none) else none) fun r5 => some (.sc (.bool r5.toBool))) fun r6 => some (.sc (.bool r6.toBool))) fun r7 => some (.sc (.bool r7.toBool))) (fun r8 => some (.sc (.bool r8.toBool)))) F = r := by
   intro b F r hb0 hF
   rw [hb0, Bool.not_not]
   exact ob3 (b := b) (im c1 (ob3 (b := b) (ob3 (b := b) (ob3 (b := b) (ob3 (b := b) (ip (by omega) (ip c2 (ip (by omega) (ob3 (b := b) (ob3 (b := b) (ip c3 rfl) rfl) rfl)))) rfl) rfl) rfl) rfl)) hF
  by_cases h3 : t.take ((Lib.decDigits n).length + 1) = Lib.decDigits n ++ [58]
  ·rw [if_neg (by rintro (h | h); exact h2 h; exact h h3)]
   have hr := rcats_ev (t.drop ((Lib.decDigits n).length + 1)) (by rw [List.length_drop]; omega)
   cases hS : setR (t.drop ((Lib.decDigits n).length + 1)) with
   | none =>
    rw [hS] at hr
    exact ⟨x, y, start (mid (b := false) (by rw [decide_eq_true h3]; rfl) (im Bool.false_ne_true (ip (by omega) (ip (Int.le_refl _) (ip (by omega) (ip c2 (cb hr rfl (ob3 (b := false) (im Bool.false_ne_true rfl) (im Bool.false_ne_true e)))))))))⟩
   | some s =>
    rw [hS] at hr
    have ht := rltext_ev (show n < 16 by omega) (setR_lt hS)
    have eq3 : ((B (texLb n s)).toList == (B t).toList) = decide (texLb n s = t) := by
     rw [B_toList, B_toList, Bool.eq_iff_iff, beq_iff_eq, decide_eq_true_iff]
    have hin : ∀ b : Bool, decide (texLb n s = t) = b → Option.bind (α := PV) (β := PV) (if true = true then Option.bind (α := PV) (β := PV) ((D 198 [.agg [.sc (.int .i64 (n : Int)), .sc (.int .u64 (s : Int))]]).bind fun r11 => if hasSh .str r11 = true then some (.sc (.bool (r11.toStr.toList == (B t).toList))) else none) (fun r12 => some (.sc (.bool r12.toBool))) else some (.sc (.bool false))) some = some (.sc (.bool b)) := by
     intro b hb0
     refine ob3 (b := b) (ip rfl (ob3 (b := b) (cb ht rfl ?_) rfl)) rfl
     show some (PV.sc (.bool ((B (texLb n s)).toList == (B t).toList))) = _
     rw [eq3, hb0]
    dsimp only
    by_cases h4 : texLb n s = t
    ·rw [if_pos h4]
     refine ⟨n, s, start (mid (b := false) (by rw [decide_eq_true h3]; rfl) (im Bool.false_ne_true (ip (by omega) (ip (Int.le_refl _) (ip (by omega) (ip c2 (cb hr rfl (ob3 (b := true) (ip rfl (ob3 (b := true) (cb ht rfl ?_) rfl)) (ip rfl rfl)))))))))⟩
     show some (PV.sc (.bool ((B (texLb n s)).toList == (B t).toList))) = _
     rw [eq3, decide_eq_true h4]
    ·rw [if_neg h4]
     refine ⟨x, y, start (mid (b := false) (by rw [decide_eq_true h3]; rfl) (im Bool.false_ne_true (ip (by omega) (ip (Int.le_refl _) (ip (by omega) (ip c2 (cb hr rfl (ob3 (b := false) (ip rfl (ob3 (b := false) (cb ht rfl ?_) rfl)) (im Bool.false_ne_true e)))))))))⟩
     show some (PV.sc (.bool ((B (texLb n s)).toList == (B t).toList))) = _
     rw [eq3, decide_eq_false h4]
  ·rw [if_pos (.inr h3)]
   exact ⟨x, y, start (mid (b := true) (by rw [decide_eq_false h3]; rfl) (ip rfl e))⟩
theorem rlab_ev (t : List UInt8) (hl : (t.length : Int) ≤ 9223372036854775000) : ∃ x y, D 164 [.sc (.string (B t))] = some (.agg [.sc (.int .i64 x), .sc (.int .u64 y), .sc (.bool (labP t))]) := by
 rw [f164_eq 0, lab_same]
 have he : ((B t).toList == (⟨#[116, 111, 112]⟩ : ByteArray).toList) = decide (t = topT) := by
  rw [show (⟨#[116, 111, 112]⟩ : ByteArray) = B topT from rfl, B_toList, B_toList, Bool.eq_iff_iff, beq_iff_eq, decide_eq_true_iff]
 rw [he]
 unfold labQ
 by_cases ht : t = topT
 ·refine ⟨15, 18446744073709551615, ip (decide_eq_true ht) (cb rtop_ev rfl ?_)⟩
  rw [ht, beq_self_eq_true, Bool.true_or]; rfl
 ·obtain ⟨x, y, e⟩ := rlab_l t hl 16 0 rfl
  refine ⟨x, y, im (by rw [decide_eq_true_eq]; exact ht) (Eq.trans e ?_)⟩
  rw [show (t == topT) = false by rw [beq_eq_false_iff_ne]; exact ht, Bool.false_or]
end Go.Den.ET
/- Trees: how the reference counts, lists and compares them. -/
set_option linter.unusedVariables false
set_option linter.unusedSimpArgs false
set_option maxRecDepth 100000
namespace Go.Den.ET
open Go Go.Proofs
theorem frozen_len (k : Nat) (xs : List PV) : (frozen k xs).len = xs.length := rfl
theorem frozen_at (k : Nat) (xs : List PV) : (frozen k xs).at = fun i => xs.getD i .top := rfl
theorem frozen_sh (k : Nat) (xs : List PV) : hasSh (.lst k) (frozen k xs) = true := by simp [hasSh, frozen, PV.isLst]
theorem range_at (xs : List PV) : (List.range xs.length).map (fun i => xs.getD i .top) = xs := by
 apply List.ext_getElem
 ·simp
 ·intro i h1 h2; simp [h2]
theorem at_i {l : List Nod} {i : Nat} (h : i < l.length) : (pvs l).getD ((i : Int).toNat) .top = l[i].pv := by
 rw [Int.toNat_natCast]
 exact pvs_get h
theorem next_i {i : Nat} (h : i < 4611686018427387904) : IntKind.i64.wrap ((i : Int) + 1) = ((i + 1 : Nat) : Int) := by
 rw [w64 (by omega) (by omega)]; omega
/-- Left: how many may still come. -/
theorem left_ev : ∀ (c : Nat) (n : Nod), n.count ≤ c → ∀ m : Int, 0 ≤ m → m ≤ 1000000000 → D 61 [n.pv, .sc (.int .i64 m)] = some (.sc (.int .i64 (max (-1) (m - n.count))))
 | 0, .mk _ _ _ _ _ l, h, m, h0, h1 => by rw [Nod.count] at h; omega
 | c + 1, .mk kind op v a b l, h, m, h0, h1 => by
  rw [Nod.count] at h
  simp only [Nod.pv, frozen]
  rw [f61_eq 0, w64 (by omega) (by omega)]
  have loop : ∀ (j i : Nat) (m' : Int), l.length - i = j → i ≤ l.length → i ≤ 1000000001 - m' → -1 ≤ m' → m' ≤ 1000000000 → f61.l0a 0 m' (i : Int) kind op v.kind v.num v.text a.row a.col a.hr a.hc b.row b.col b.hr b.hc (pvs l).length (fun i => (pvs l).getD i .top) = some (.sc (.int .i64 (max (-1) (m' - counts (l.drop i))))) := by
   intro j
   induction j with
   | zero =>
    intro i m' hj hi hw h2 h3
    have hpl := pvs_len l
    rw [f61.l0a_eq]
    have : i = l.length := by omega
    subst this
    refine gb (im (fun hh => ?_) ?_)
    ·have : (if decide ((l.length : Int) < ((pvs l).length : Int)) = true then decide (m' ≥ 0) else false) = true := hh
     simp [hpl] at this
    ·rw [List.drop_length, counts]
     congr 3
     omega
   | succ j ih =>
    intro i m' hj hi hw h2 h3
    have hi' : i < l.length := by omega
    have hpl := pvs_len l
    rw [f61.l0a_eq, drop_cons hi', counts]
    by_cases hm : m' ≥ 0
    ·refine gb (ip ?_ (ip (by omega) (ip (by omega) (ip (by rw [at_i hi']; exact sh_pv _) ?_))))
     ·show (if decide ((i : Int) < ((pvs l).length : Int)) = true then decide (m' ≥ 0) else false) = true
      rw [if_pos (decide_eq_true (by omega))]
      exact decide_eq_true hm
     rw [at_i hi']
     have IH := left_ev c l[i] (by have := count_mem (List.getElem_mem hi'); omega) m' hm h3
     refine Go.Den.sb (by rw [← rb_pv] at IH; exact IH) (ip rfl ?_)
     rw [next_i (by omega)]
     have h1c : 1 ≤ l[i].count := by cases l[i]; rw [Nod.count]; omega
     have h5 := ih (i + 1) (max (-1) (m' - l[i].count)) (by omega) (by omega) (by omega) (by omega) (by omega)
     refine h5.trans ?_
     congr 3
     omega
    ·refine gb (im (fun hh => ?_) ?_)
     ·have : (if decide ((i : Int) < ((pvs l).length : Int)) = true then decide (m' ≥ 0) else false) = true := hh
      rw [if_pos (decide_eq_true (by omega))] at this
      exact hm (of_decide_eq_true this)
     ·congr 3
      omega
  have := loop l.length 0 (m - 1) (by omega) (Nat.zero_le _) (by omega) (by omega) (by omega)
  refine this.trans ?_
  rw [Nod.count, List.drop_zero]
  congr 3
  omega
/-- Are there at most 200 nodes? -/
theorem few_ev (n : Nod) : D 27 [n.pv, .sc (.int .i64 200)] = some (.sc (.bool (decide (n.count ≤ 200)))) := by
 have h := left_ev n.count n (Nat.le_refl _) 200 (by omega) (by omega)
 cases n
 simp only [Nod.pv, frozen] at h ⊢
 rw [f27_eq 0]
 refine Go.Den.sb h (ip rfl ?_)
 show some (PV.sc (.bool (decide (max (-1) (200 - (_ : Int)) ≥ 0)))) = _
 congr 3
 exact decide_eq_decide.2 (by omega)
/-- All nodes, in order. -/
theorem list_ev : ∀ (c : Nat) (n : Nod), n.count ≤ c → n.count ≤ 1000000 → D 51 [n.pv] = some (frozen 14 (pvs n.list))
 | 0, .mk _ _ _ _ _ l, h, _ => by rw [Nod.count] at h; omega
 | c + 1, .mk kind op v a b l, h, hc => by
  rw [Nod.count] at h hc
  simp only [Nod.pv, frozen]
  rw [f51_eq 0]
  refine ip (by simp) ?_
  have loop : ∀ (j i : Nat) (out : List PV), l.length - i = j → i ≤ l.length → out.length + counts (l.drop i) ≤ 1000001 → f51.l0a 0 (i : Int) kind op v.kind v.num v.text a.row a.col a.hr a.hc b.row b.col b.hr b.hc (pvs l).length (fun i => (pvs l).getD i .top) out = some (frozen 14 (out ++ pvs (lists (l.drop i)))) := by
   intro j
   induction j with
   | zero =>
    intro i out hj hi ho
    have hpl := pvs_len l
    rw [f51.l0a_eq]
    have : i = l.length := by omega
    subst this
    refine im (fun hh => by have := of_decide_eq_true hh; omega) ?_
    rw [List.drop_length, lists, pvs, List.append_nil]
   | succ j ih =>
    intro i out hj hi ho
    have hi' : i < l.length := by omega
    have hlen := len_counts l
    rw [drop_cons hi', counts] at ho
    have hpl := pvs_len l
    rw [f51.l0a_eq]
    refine ip (decide_eq_true (by omega)) (ip (by omega) (ip (by omega) (ip (by rw [at_i hi']; exact sh_pv _) ?_)))
    rw [at_i hi']
    have hle := count_mem (List.getElem_mem hi')
    have IH := list_ev c l[i] (by omega) (by omega)
    refine Go.Den.sb (by rw [← rb_pv] at IH; exact IH) (ip (frozen_sh _ _) ?_)
    rw [frozen_len, frozen_at, range_at]
    have hl : (pvs l[i].list).length = l[i].count := by rw [pvs_len, list_len]
    refine ip (by rw [hl]; constructor <;> omega) ?_
    rw [next_i (by omega)]
    have h5 := ih (i + 1) (out ++ pvs l[i].list) (by omega) (by omega) (by rw [List.length_append, hl]; omega)
    refine h5.trans ?_
    rw [drop_cons hi', lists, pvs_app, List.append_assoc]
  have := loop l.length 0 [Nod.pv (.mk kind op v a b l)] (by omega) (Nat.zero_le _) (by rw [List.drop_zero]; simp; omega)
  simp only [Nod.pv, frozen] at this
  refine this.trans ?_
  rw [Nod.list, pvs, List.drop_zero]
  rfl
end Go.Den.ET
/- Which trees the reference calls right. -/
set_option linter.unusedVariables false
set_option linter.unusedSimpArgs false
set_option maxRecDepth 100000
namespace Go.Den.ET
open Go Go.Proofs
theorem rplain_ev (b : UInt8) : D 113 [.sc (.int .u8 (b.toNat : Int))] = some (.sc (.bool (plainB b))) := by
 rw [f113_eq 0, bA]
 show some (PV.sc (.bool (decide ((b.toNat : Int) ≥ 32) && ((b.toNat : Int) != 127)))) = _
 congr 3
 unfold plainB
 rw [Bool.eq_iff_iff, Bool.and_eq_true, Bool.and_eq_true, decide_eq_true_iff, decide_eq_true_iff, bne_iff_ne, bne_iff_ne]
 omega
theorem rmay08_ev (x : Int) (h : I64 x) : D 156 [.sc (.int .i64 x)] = some (.sc (.bool (decide (May x)))) := by
 rw [f156_eq 0]
 congr 3
 unfold I64 at h
 rw [Bool.eq_iff_iff, decide_eq_true_iff, decide_eq_true_iff]
 unfold May; omega
theorem rvmay_ev (v : Vl) (hn : I64 v.num) : D 114 [Vl.pv v] = some (.sc (.bool (mayV v))) := by
 refine (f114_eq 0 _ _ _).trans ?_
 have h8 := rmay08_ev v.num hn
 obtain ⟨kind, num, text⟩ := v
 dsimp only at h8
 have es : decide ((text.size : Int) ≤ 256) = decide (text.size ≤ 256) := decide_eq_decide.2 (by omega)
 unfold mayV
 dsimp only
 rw [em_eq, es]
 generalize (text.size == 0) = z
 generalize decide (text.size ≤ 256) = y
 simp only [h8, bs, shb, if_true, tb, bA, bO]
 have q : ∀ m : Int, (kind == m) = decide (kind = m) := fun m => by rw [Bool.eq_iff_iff, beq_iff_eq, decide_eq_true_iff]
 rw [q 0, q 1, q 2, q 3, q 4]
 by_cases h0 : kind = 0
 ·subst h0
  rw [if_pos rfl]
  simp only [Int.reduceEq, decide_false, decide_true, Bool.false_and, Bool.true_and, Bool.or_false]
  congr 3; exact Bool.and_comm _ _
 rw [if_neg h0, decide_eq_false h0]
 by_cases h1 : kind = 1
 ·subst h1
  rw [if_pos rfl]
  simp only [Int.reduceEq, decide_false, decide_true, Bool.false_and, Bool.true_and, Bool.or_false, Bool.false_or]
  congr 3; exact Bool.and_comm _ _
 rw [if_neg h1, decide_eq_false h1]
 by_cases h2 : kind = 2
 ·subst h2
  rw [if_pos rfl]
  simp only [Int.reduceEq, decide_false, decide_true, Bool.false_and, Bool.true_and, Bool.or_false, Bool.false_or]
 rw [if_neg h2, decide_eq_false h2]
 by_cases h3 : kind = 3
 ·subst h3
  rw [if_pos rfl]
  simp only [Int.reduceEq, decide_false, decide_true, Bool.false_and, Bool.true_and, Bool.or_false, Bool.false_or]
  congr 3; exact Bool.and_comm _ _
 rw [if_neg h3, decide_eq_false h3]
 by_cases h4 : kind = 4
 ·subst h4
  rw [if_pos rfl]
  simp only [decide_true, Bool.false_and, Bool.true_and, Bool.or_false, Bool.false_or]
  congr 3
  cases z <;> cases decide (num ≥ 1) <;> cases decide (num ≤ 7) <;> rfl
 ·rw [if_neg h4, decide_eq_false h4]
  simp only [Bool.false_and, Bool.or_false, Bool.false_or]
theorem rref_ev (r : Rf) : D 115 [r.pv] = some (.sc (.bool (refM r))) := by
 have hm : D 57 [.agg [.sc (.int .i64 r.row), .sc (.int .i64 r.col)]] = some (.sc (.bool (refM r))) := by
  refine (f57_eq 0 _ _).trans ?_
  rw [bA, bA, bA]
  show some (PV.sc (.bool (((decide (r.row ≥ 0) && decide (r.row ≤ 998)) && decide (r.col ≥ 0)) && decide (r.col ≤ 701)))) = _
  congr 3
  unfold refM
  rw [Bool.eq_iff_iff]
  simp only [Bool.and_eq_true, decide_eq_true_eq]
  omega
 exact (f115_eq 0 _ _ _ _).trans (cb hm rfl rfl)
/-- An argument, to the reference. -/
def argR (k : UInt8) (n : Nod) : Bool := if k = 118 ∨ k = 101 then n.kind != 4 else if k = 114 ∨ k = 110 then decide (n.kind ≥ 2) && decide (n.kind ≤ 4) else if k = 116 then (n.kind == 1 && n.val.kind == 2) && labP (tb8 n.val.text) else k == 108
theorem argR_eq {k : UInt8} (h : k = 108 ∨ k = 114 ∨ k = 110 ∨ k = 116 ∨ k = 118 ∨ k = 101) (n : Nod) : argR k n = fitsA k n := by
 unfold argR fitsA
 have e : (decide (n.kind ≥ 2) && decide (n.kind ≤ 4)) = (n.kind == 3 || n.kind == 4 || n.kind == 2) := by
  rw [Bool.eq_iff_iff]
  simp only [Bool.and_eq_true, Bool.or_eq_true, decide_eq_true_eq, beq_iff_eq]
  omega
 rcases h with rfl | rfl | rfl | rfl | rfl | rfl
 ·rfl
 ·rw [if_neg (by decide), if_pos (by decide), if_neg (by decide), if_pos (by decide), e]
 ·rw [if_neg (by decide), if_pos (by decide), if_neg (by decide), if_pos (by decide), e]
 ·rfl
 ·rfl
 ·rfl
theorem rarg_ev (c : UInt8) (n : Nod) (hs : n.val.text.size ≤ 1000000000000000) : D 116 [.sc (.int .u8 (c.toNat : Int)), n.pv] = some (.sc (.bool (argR c n))) := by
 obtain ⟨kind, op, v, a, b, l⟩ := n
 refine (f116_eq 0 _ _ _ _ _ _ _ _ _ _ _ _ _ _ _ _).trans ?_
 have hq : ∀ m : UInt8, (((c.toNat : Nat) : Int) == (m.toNat : Int)) = decide (c = m) := by
  intro m
  rw [Bool.eq_iff_iff, beq_iff_eq, decide_eq_true_iff]
  constructor
  ·intro h; exact UInt8.toNat_inj.1 (by omega)
  ·intro h; rw [h]
 have q1 : (((c.toNat : Nat) : Int) == 108) = decide (c = 108) := hq 108
 have q2 : (((c.toNat : Nat) : Int) == 114) = decide (c = 114) := hq 114
 have q3 : (((c.toNat : Nat) : Int) == 110) = decide (c = 110) := hq 110
 have q4 : (((c.toNat : Nat) : Int) == 116) = decide (c = 116) := hq 116
 have q5 : (((c.toNat : Nat) : Int) == 118) = decide (c = 118) := hq 118
 have q6 : (((c.toNat : Nat) : Int) == 101) = decide (c = 101) := hq 101
 rw [bO, q1, q2, q3, q4, q5, q6]
 unfold argR
 by_cases h1 : c = 118 ∨ c = 101
 ·rw [if_pos h1]
  refine ip ?_ rfl
  rcases h1 with h | h
  ·rw [decide_eq_true h]; rfl
  ·rw [decide_eq_true h, Bool.or_true]; rfl
 rw [if_neg h1]
 refine im (by show ¬ (decide (c = 118) || decide (c = 101)) = true; rw [decide_eq_false (fun h => h1 (.inl h)), decide_eq_false (fun h => h1 (.inr h))]; decide) ?_
 rw [bO]
 by_cases h2 : c = 114 ∨ c = 110
 ·rw [if_pos h2]
  refine ip ?_ ?_
  ·rcases h2 with h | h
   ·rw [decide_eq_true h]; rfl
   ·rw [decide_eq_true h, Bool.or_true]; rfl
  ·rw [bA]; rfl
 rw [if_neg h2]
 refine im (by show ¬ (decide (c = 114) || decide (c = 110)) = true; rw [decide_eq_false (fun h => h2 (.inl h)), decide_eq_false (fun h => h2 (.inr h))]; decide) ?_
 by_cases h3 : c = 116
 ·rw [if_pos h3]
  refine ip (decide_eq_true h3) ?_
  obtain ⟨x, y, e⟩ := rlab_ev (tb8 v.text) (by
   have : v.text.size ≤ 1000000000000000 := hs
   rw [tb8_len]; omega)
  rw [tb8_B] at e
  rw [bA]
  show Option.bind (α := PV) (β := PV) (if (kind == 1 && v.kind == 2) = true then _ else _) _ = some (PV.sc (.bool ((kind == 1 && v.kind == 2) && labP (tb8 v.text))))
  by_cases hc : (kind == 1 && v.kind == 2) = true
  ·refine ob3 (b := labP (tb8 v.text)) (ip hc (ob3 (b := labP (tb8 v.text)) (ob3 (b := labP (tb8 v.text)) (ob3 (b := labP (tb8 v.text)) (cb e rfl rfl) rfl) rfl) rfl)) ?_
   rw [hc]; rfl
  ·refine ob3 (b := false) (im hc rfl) ?_
   have : (kind == 1 && v.kind == 2) = false := by simpa using hc
   rw [this]; rfl
 ·rw [if_neg h3]
  refine im (by rw [decide_eq_true_eq]; exact h3) ?_
  congr 3
/-- The table of functions, to the reference. -/
def rkP : List PV := fnRows.map fun r => .sc (.string (B r.2))
theorem rrows_ev : D 165 [] = some (frozen 1 rkP) := (f165_eq 0).trans (by kernel_rfl)
theorem rkP_len : rkP.length = 78 := by unfold rkP; rw [List.length_map, rows_78]
theorem rkP_get {i : Nat} (h : i < fnRows.length) : rkP.getD i .top = .sc (.string (B fnRows[i].2)) := by simp [rkP, h]
theorem i64d {a : UInt8} (h : isD a = true) : IntKind.i64.wrap (IntKind.i64.wrap (a.toNat : Int) - 48) = ((a.toNat - 48 : Nat) : Int) := by
 have := isD_rng h
 rw [w64 (x := (a.toNat : Int)) (by omega) (by omega), w64 (by omega) (by omega)]; omega
theorem rfits_ev (fn : Int) {n : Nat} (hn : (n : Int) ≤ 9223372036854775807) : D 117 [.sc (.int .i64 fn), .sc (.int .i64 (n : Int))] = some (.sc (.bool (fitsF fn n))) := by
 rw [f117_eq 0, bO]
 dsimp +instances only [tb]
 by_cases h : 1 ≤ fn ∧ fn ≤ 78
 ·have c : (decide (fn < 1) || decide (fn > 78)) = false := by
   rw [Bool.or_eq_false_iff, decide_eq_false_iff_not, decide_eq_false_iff_not]; omega
  rw [c]
  obtain ⟨i, rfl⟩ : ∃ i : Nat, fn = ((i + 1 : Nat) : Int) := ⟨fn.toNat - 1, by omega⟩
  have hi : i < fnRows.length := by rw [rows_78]; omega
  have ew : IntKind.i64.wrap (((i + 1 : Nat) : Int) - 1) = (i : Int) := by rw [w64 (by omega) (by omega)]; omega
  refine im Bool.false_ne_true (cb rrows_ev (by simp [hasSh, frozen, PV.isLst]) ?_)
  rw [ew]
  obtain ⟨a, b, k, e, ha, hb0⟩ := row_kinds (row_ok hi)
  have hg : (frozen 1 rkP).at (i : Int).toNat = .sc (.string (B (a :: b :: k))) := by
   rw [Int.toNat_natCast, ← e]; exact rkP_get hi
  rw [hg]
  unfold fitsF
  rw [rowP_get hi, e]
  have hl : ((frozen 1 rkP).len : Int) = 78 := by show ((rkP.length : Nat) : Int) = 78; rw [rkP_len]; rfl
  have c0 : (0 : Int) < ((B (a :: b :: k)).size : Int) := by rw [B_size]; simp; omega
  have c1 : (1 : Int) < ((B (a :: b :: k)).size : Int) := by rw [B_size]; simp; omega
  have b0 : bt (B (a :: b :: k)) 0 = (a.toNat : Int) := B_bt (l := a :: b :: k) (i := 0) (by simp)
  have b1 : bt (B (a :: b :: k)) 1 = (b.toNat : Int) := B_bt (l := a :: b :: k) (i := 1) (by simp)
  refine ip (by omega) (ip (by rw [hl]; omega) (ip rfl (ip c0 ?_)))
  dsimp +instances only [ts]
  rw [b0, b1, i64d ha, i64d hb0]
  simp only [if_pos c1, bs, tb]
  rw [bA]
  dsimp only [tb]
  congr 3
  rw [Bool.eq_iff_iff, Bool.and_eq_true, Bool.and_eq_true, decide_eq_true_iff, decide_eq_true_iff, decide_eq_true_iff, decide_eq_true_iff]
  omega
 ·have c : (decide (fn < 1) || decide (fn > 78)) = true := by
   rw [Bool.or_eq_true, decide_eq_true_eq, decide_eq_true_eq]; omega
  rw [c]
  unfold fitsF rowP
  rw [if_neg h]
  exact ip rfl rfl
theorem rkind_ev {fn : Int} (h : 1 ≤ fn ∧ fn ≤ 78) {j : Nat} (hn : (j : Int) ≤ 1000000000) : D 118 [.sc (.int .i64 fn), .sc (.int .i64 (j : Int))] = some (.sc (.int .u8 ((kindF fn j).toNat : Int))) := by
 rw [f118_eq 0, bO, bO]
 dsimp +instances only [tb]
 have c : ((decide (fn < 1) || decide (fn > 78)) || decide ((j : Int) < 0)) = false := by
  rw [Bool.or_eq_false_iff, Bool.or_eq_false_iff, decide_eq_false_iff_not, decide_eq_false_iff_not, decide_eq_false_iff_not]; omega
 rw [c]
 obtain ⟨i, rfl⟩ : ∃ i : Nat, fn = ((i + 1 : Nat) : Int) := ⟨fn.toNat - 1, by omega⟩
 have hi : i < fnRows.length := by rw [rows_78]; omega
 have ew : IntKind.i64.wrap (((i + 1 : Nat) : Int) - 1) = (i : Int) := by rw [w64 (by omega) (by omega)]; omega
 refine im Bool.false_ne_true (cb rrows_ev (by simp [hasSh, frozen, PV.isLst]) ?_)
 rw [ew]
 obtain ⟨a, b, k, e, ha, hb0⟩ := row_kinds (row_ok hi)
 have h20 := row_20 (row_ok hi)
 rw [List.length_append, e] at h20
 have hg : (frozen 1 rkP).at (i : Int).toNat = .sc (.string (B (a :: b :: k))) := by
  rw [Int.toNat_natCast, ← e]; exact rkP_get hi
 rw [hg]
 unfold kindF
 rw [rowP_get hi, e]
 have hl : ((frozen 1 rkP).len : Int) = 78 := by show ((rkP.length : Nat) : Int) = 78; rw [rkP_len]; rfl
 have c1 : (1 : Int) < ((B (a :: b :: k)).size : Int) := by rw [B_size]; simp; omega
 have b1 : bt (B (a :: b :: k)) 1 = (b.toNat : Int) := B_bt (l := a :: b :: k) (i := 1) (by simp)
 refine ip (by omega) (ip (by rw [hl]; omega) (ip rfl (ip c1 ?_)))
 dsimp +instances only [ts]
 rw [b1, i64d hb0]
 have hkl : k.length ≤ 20 := by simp at h20; omega
 by_cases hg2 : b.toNat - 48 ≤ j
 ·rw [if_pos hg2]
  exact ip (by rw [decide_eq_true_eq]; omega) rfl
 rw [if_neg hg2]
 have hsz : ((B (a :: b :: k)).size : Int) = (k.length : Int) + 2 := by rw [B_size]; simp; omega
 have e2 : IntKind.i64.wrap ((2 : Int) + (j : Int)) = ((2 + j : Nat) : Int) := by rw [w64 (by omega) (by omega)]; omega
 have e3 : IntKind.i64.wrap (((B (a :: b :: k)).size : Int) - 1) = ((k.length + 1 : Nat) : Int) := by rw [hsz, w64 (by omega) (by omega)]; omega
 refine im (by rw [decide_eq_true_eq]; omega) ?_
 rw [e2, e3]
 by_cases hj : 2 + j < k.length + 2
 ·refine ip (by rw [decide_eq_true_eq, hsz]; omega) (ip (by omega) (ip (by rw [hsz]; omega) ?_))
  have hlt : 2 + j < (a :: b :: k).length := by simp only [List.length_cons]; omega
  rw [B_bt hlt, show min (2 + j) (k.length + 1) = 2 + j by omega, List.getD_eq_getElem?_getD, List.getElem?_eq_getElem hlt]; rfl
 ·refine im (by rw [decide_eq_true_eq, hsz]; omega) (ip (by omega) (ip (by rw [hsz]; omega) ?_))
  have hlt : k.length + 1 < (a :: b :: k).length := by simp only [List.length_cons]; omega
  rw [B_bt hlt, show min (2 + j) (k.length + 1) = k.length + 1 by omega, List.getD_eq_getElem?_getD, List.getElem?_eq_getElem hlt]; rfl
def okKinds (r : List UInt8 × List UInt8) : Bool := match r.2 with
 | _ :: b :: k => (decide (b.toNat ≤ 48) || !k.isEmpty) && k.all (fun c => c == 108 || c == 114 || c == 110 || c == 116 || c == 118 || c == 101)
 | _ => false
theorem kinds_ok : fnRows.all okKinds = true := by decide
theorem kind_in {f : Int} {n i : Nat} (h : fitsF f n = true) (hi : i < n) : kindF f i = 108 ∨ kindF f i = 114 ∨ kindF f i = 110 ∨ kindF f i = 116 ∨ kindF f i = 118 ∨ kindF f i = 101 := by
 have hr := fits_rng h
 have hj : f.toNat - 1 < fnRows.length := by rw [rows_78]; omega
 have e := rowP_get hj
 rw [show ((f.toNat - 1 + 1 : Nat) : Int) = f by omega] at e
 have hk := List.all_eq_true.1 kinds_ok _ (List.getElem_mem hj)
 obtain ⟨a, b, k, e2, ha, hb0⟩ := row_kinds (row_ok hj)
 unfold okKinds at hk
 unfold fitsF at h
 unfold kindF
 rw [e, e2] at h ⊢
 rw [e2] at hk
 simp only [Bool.and_eq_true, Bool.or_eq_true, decide_eq_true_eq] at h hk
 dsimp only
 rw [if_neg (by omega)]
 have hne : k ≠ [] := by
  rcases hk.1 with h1 | h1
  ·omega
  ·intro e3; rw [e3] at h1; cases h1
 have hpos : 0 < k.length := List.length_pos_iff.2 hne
 obtain ⟨m, hx, hm⟩ : ∃ m, m < k.length ∧ min (2 + i) (k.length + 1) = m + 1 + 1 := ⟨min (2 + i) (k.length + 1) - 2, by omega, by omega⟩
 have hget : (a :: b :: k).getD (min (2 + i) (k.length + 1)) 0 = k[m] := by
  rw [hm]
  simp [List.getD_eq_getElem?_getD, hx]
 rw [hget]
 have := List.all_eq_true.1 hk.2 _ (List.getElem_mem hx)
 simp only [Bool.or_eq_true, beq_iff_eq] at this
 rcases this with ((((h1 | h1) | h1) | h1) | h1) | h1
 ·exact .inl h1
 ·exact .inr (.inl h1)
 ·exact .inr (.inr (.inl h1))
 ·exact .inr (.inr (.inr (.inl h1)))
 ·exact .inr (.inr (.inr (.inr (.inl h1))))
 ·exact .inr (.inr (.inr (.inr (.inr h1))))
theorem rcall_l (kind op : Int) (v : Vl) (a b : Rf) (l : List Nod) (hf : fitsF op l.length = true) (ht : ∀ n ∈ l, n.val.text.size ≤ 1000000000000000) : ∀ (d i : Nat), i + d = l.length → f60.l1a 0 (i : Int) kind op v.kind v.num v.text a.row a.col a.hr a.hc b.row b.col b.hr b.hc (pvs l).length (fun i => (pvs l).getD i .top) = some (.sc (.bool (fitsL op i (l.drop i)))) := by
 have hl9 := fits_le hf
 intro d
 induction d with
 | zero =>
  intro i h
  rw [f60.l1a_eq]
  refine im (by rw [decide_eq_true_eq, pvs_len]; omega) ?_
  rw [List.drop_eq_nil_of_le (by omega)]; rfl
 | succ d ih =>
  intro i h
  have hi : i < l.length := by omega
  rw [f60.l1a_eq]
  rw [Int.toNat_natCast, pvs_get hi, List.drop_eq_getElem_cons hi, fitsL]
  refine ip (by rw [decide_eq_true_eq, pvs_len]; omega) (cb (rkind_ev (fits_rng hf) (j := i) (by omega)) rfl (ip (by omega) (ip (by rw [pvs_len]; omega) (ip (sh_pv _) ?_))))
  have hfa := rarg_ev (kindF op i) l[i] (ht _ (List.getElem_mem hi))
  rw [argR_eq (kind_in hf hi), ← rb_pv] at hfa
  refine cb hfa rfl ?_
  by_cases hp : fitsA (kindF op i) l[i] = true
  ·rw [hp, Bool.true_and]
   refine im (by decide) ?_
   rw [nx hi (by omega)]
   exact ih (i + 1) (by omega)
  ·have : fitsA (kindF op i) l[i] = false := by simpa using hp
   rw [this, Bool.false_and]
   exact ip rfl rfl
theorem vz_eq (v : Vl) : (v.kind == 0 && (v.num == 0 && ((v.text.toList == (⟨#[]⟩ : ByteArray).toList) && true))) = isZV v := by
 rw [em_eq]; unfold isZV; rw [Bool.and_true, Bool.and_assoc]
theorem rz_eq (r : Rf) : (r.row == 0 && (r.col == 0 && (r.hr == false && (r.hc == false && true)))) = isZR r := by
 obtain ⟨x, y, p, q⟩ := r
 unfold isZR
 cases p <;> cases q <;> simp
theorem len0 (l : List Nod) : ((((pvs l).length : Nat) : Int) == 0) = l.isEmpty := by
 rw [pvs_len]
 cases l with
 | nil => rfl
 | cons x l => rw [List.isEmpty_cons, beq_eq_false_iff_ne, List.length_cons]; omega
theorem lit_all (v : Vl) (hn : I64 v.num) : ((tb8 v.text).all plainB && ((decide (v.kind ≥ 1) && decide (v.kind ≤ 3)) && (decide (v.num ≥ 0) && mayV v))) = litR v := by
 unfold mayV litR
 have hempty : v.text.size = 0 → (tb8 v.text).all plainB = true := by
  intro h
  have := tb8_len v.text
  rw [h] at this
  rw [List.eq_nil_of_length_eq_zero this]; rfl
 unfold I64 at hn
 by_cases h1 : v.kind = 1
 ·rw [h1, if_neg (by decide), if_pos rfl, if_neg (by decide), if_pos rfl]
  by_cases hs : v.text.size = 0
  ·rw [hempty hs, hs]
   by_cases hnn : 0 ≤ v.num
   ·rw [decide_eq_true (show v.num ≥ 0 from hnn), decide_eq_true (show May v.num by unfold May; omega), decide_eq_true hn.2]; rfl
   ·rw [decide_eq_false (show ¬ v.num ≥ 0 from hnn)]; rfl
  ·have : (v.text.size == 0) = false := beq_eq_false_iff_ne.2 hs
   rw [this]; simp
 by_cases h2 : v.kind = 2
 ·rw [h2, if_neg (by decide), if_neg (by decide), if_pos rfl, if_pos rfl]
  cases (tb8 v.text).all plainB
  ·simp
  ·rw [Bool.eq_iff_iff]
   simp only [Bool.and_eq_true, decide_eq_true_eq, beq_iff_eq]
   simp
   omega
 by_cases h3 : v.kind = 3
 ·rw [h3, if_neg (by decide), if_neg (by decide), if_neg (by decide), if_pos rfl, if_neg (by decide), if_neg (by decide), if_pos rfl]
  by_cases hs : v.text.size = 0
  ·rw [hempty hs, hs]
   rw [Bool.eq_iff_iff]
   simp only [Bool.and_eq_true, Bool.or_eq_true, decide_eq_true_eq, beq_iff_eq]
   simp
   omega
  ·have : (v.text.size == 0) = false := beq_eq_false_iff_ne.2 hs
   rw [this]; simp
 ·simp only [if_neg h1, if_neg h2, if_neg h3]
  have : (decide (v.kind ≥ 1) && decide (v.kind ≤ 3)) = false := by
   rw [Bool.and_eq_false_iff, decide_eq_false_iff_not, decide_eq_false_iff_not]; omega
  rw [this, Bool.false_and, Bool.and_false]
theorem rlit_l (kind op : Int) (v : Vl) (a b : Rf) (l : List Nod) (hn : I64 v.num) (hs : (v.text.size : Int) ≤ 9223372036854775807) : ∀ (d i : Nat), i + d = v.text.size → f60.l0a 0 (i : Int) kind op v.kind v.num v.text a.row a.col a.hr a.hc b.row b.col b.hr b.hc (pvs l).length (fun i => (pvs l).getD i .top) 0 0 false false =
  some (.sc (.bool (((tb8 v.text).drop i).all plainB && (((op == 0 && isZR a) && isZR b) && l.isEmpty && ((decide (v.kind ≥ 1) && decide (v.kind ≤ 3)) && (decide (v.num ≥ 0) && mayV v)))))) := by
 have htl := tb8_len v.text
 intro d
 induction d with
 | zero =>
  intro i h
  rw [f60.l0a_eq]
  refine im (by rw [decide_eq_true_eq]; omega) ?_
  rw [List.drop_eq_nil_of_le (by omega)]
  rw [rz_eq, rz_eq, len0, bA]
  dsimp +instances only [tb]
  rw [bA]
  dsimp +instances only [tb]
  rw [bA]
  dsimp +instances only [tb]
  rw [bA]
  dsimp +instances only [tb]
  rw [bA]
  dsimp +instances only [tb]
  rw [bA]
  dsimp +instances only [tb]
  have hm := rvmay_ev v hn
  show Option.bind (α := PV) (β := PV) (if _ = true then Option.bind (α := PV) (β := PV) (Option.bind (α := PV) (β := PV) ((D 114 [Vl.pv v]).bind fun r59 => if hasSh .bool r59 = true then some (.sc (.bool r59.toBool)) else none) fun r60 => some (.sc (.bool r60.toBool))) (fun r61 => some (.sc (.bool r61.toBool))) else some (.sc (.bool false))) (fun r62 => some (.sc (.bool r62.toBool))) = _
  simp only [hm, bs, shb, if_true, tb]
  rw [bA]
  show some (PV.sc (.bool _)) = some (PV.sc (.bool (true && _)))
  simp only [Bool.true_and, Bool.and_assoc, tb]
 | succ d ih =>
  intro i h
  have hi : i < (tb8 v.text).length := by omega
  rw [f60.l0a_eq]
  have hb0 : bt v.text (i : Int) = ((tb8 v.text)[i].toNat : Int) := by
   have := B_bt hi
   rw [tb8_B] at this
   exact this
  rw [hb0, List.drop_eq_getElem_cons hi, List.all_cons]
  refine ip (by rw [decide_eq_true_eq]; omega) (ip (by omega) (ip (by omega) (cb (rplain_ev _) rfl ?_)))
  by_cases hp : plainB (tb8 v.text)[i] = true
  ·rw [hp, Bool.true_and]
   refine im (by decide) ?_
   rw [nx hi (by omega)]
   exact ih (i + 1) (by omega)
  ·have : plainB (tb8 v.text)[i] = false := by simpa using hp
   rw [this, Bool.false_and, Bool.false_and]
   exact ip rfl rfl
def _root_.Go.Den.Nod.oneN (n : Nod) : Bool := match n with
 | .mk kind op v a b l => one1 kind op v a b l
theorem rone_ev (n : Nod) (hk : n.ok) (hts : n.val.text.size ≤ 1000000000000000) (ht : ∀ x ∈ (match n with | .mk _ _ _ _ _ l => l), x.val.text.size ≤ 1000000000000000) : D 60 [n.pv] = some (.sc (.bool n.oneN)) := by
 obtain ⟨kind, op, v, a, b, l⟩ := n
 rw [Nod.ok] at hk
 obtain ⟨⟨k1, k2⟩, _, k3⟩ := hk
 have hv : v.text.size ≤ 1000000000000000 := hts
 refine (f60_eq 0 _ _ _ _ _ _ _ _ _ _ _ _ _ _ _).trans ?_
 rw [vz_eq, rz_eq, rz_eq, len0, bA]
 dsimp +instances only [tb]
 rw [bA]
 dsimp +instances only [tb]
 show _ = some (PV.sc (.bool (one1 kind op v a b l)))
 unfold one1
 by_cases h1 : kind = 1
 ·rw [if_pos h1]
  refine ip (by rw [h1]; rfl) ?_
  have := rlit_l kind op v a b l k2 (by omega) v.text.size 0 (Nat.zero_add _)
  rw [List.drop_zero] at this
  refine Eq.trans this ?_
  rw [← lit_all v k2]
  congr 3
  cases (tb8 v.text).all plainB <;> simp
 rw [if_neg h1]
 refine im (by simpa using h1) ?_
 by_cases h2 : kind = 2
 ·rw [if_pos h2]
  refine ip (by rw [h2]; rfl) ?_
  rw [bA]
  dsimp +instances only [tb]
  rw [bA]
  dsimp only [tb]
  simp only [Bool.and_assoc]
 rw [if_neg h2]
 refine im (by simpa using h2) ?_
 by_cases h3 : kind = 3
 ·rw [if_pos h3]
  refine ip (by rw [h3]; rfl) ?_
  rw [bA]
  dsimp +instances only [tb]
  rw [bA]
  dsimp +instances only [tb]
  rw [bA]
  dsimp +instances only [tb]
  have hr := rref_ev a
  show Option.bind (α := PV) (β := PV) (if _ = true then Option.bind (α := PV) (β := PV) (Option.bind (α := PV) (β := PV) ((D 115 [a.pv]).bind fun r59 => if hasSh .bool r59 = true then some (.sc (.bool r59.toBool)) else none) fun r60 => some (.sc (.bool r60.toBool))) (fun r61 => some (.sc (.bool r61.toBool))) else some (.sc (.bool false))) (fun r62 => some (.sc (.bool r62.toBool))) = _
  simp only [hr, bs, shb, if_true, tb]
  rw [bA]
  rfl
 rw [if_neg h3]
 refine im (by simpa using h3) ?_
 by_cases h4 : kind = 4
 ·rw [if_pos h4]
  refine ip (by rw [h4]; rfl) ?_
  rw [bA]
  dsimp +instances only [tb]
  rw [bA]
  dsimp +instances only [tb]
  have hr := rref_ev a
  have hr2 := rref_ev b
  show Option.bind (α := PV) (β := PV) (if _ = true then Option.bind (α := PV) (β := PV) (Option.bind (α := PV) (β := PV) ((D 115 [a.pv]).bind fun r59 => if hasSh .bool r59 = true then some (.sc (.bool r59.toBool)) else none) fun r60 => some (.sc (.bool r60.toBool))) (fun r61 => some (.sc (.bool r61.toBool))) else some (.sc (.bool false))) (fun r17 => Option.bind (α := PV) (β := PV) (if r17.toBool = true then Option.bind (α := PV) (β := PV) (Option.bind (α := PV) (β := PV) ((D 115 [b.pv]).bind fun r59 => if hasSh .bool r59 = true then some (.sc (.bool r59.toBool)) else none) fun r60 => some (.sc (.bool r60.toBool))) (fun r61 => some (.sc (.bool r61.toBool))) else some (.sc (.bool false))) (fun r62 => some (.sc (.bool r62.toBool)))) = _
  simp only [hr, hr2, bs, shb, if_true, tb]
  rw [bA, bA]; rfl
 rw [if_neg h4]
 refine im (by simpa using h4) ?_
 have hfa : ∀ x ∈ l, D 116 [.sc (.int .u8 (((118 : UInt8).toNat : Nat) : Int)), rbN x.pv] = some (.sc (.bool (fitsA 118 x))) := by
  intro x hx
  have := rarg_ev 118 x (ht x hx)
  rw [argR_eq (by decide)] at this
  rw [rb_pv]; exact this
 by_cases h5 : kind = 5
 ·rw [if_pos h5]
  refine ip (by rw [h5]; rfl) ?_
  rw [bA]
  dsimp +instances only [tb]
  rw [bA]
  dsimp +instances only [tb]
  have hlen : ((((pvs l).length : Nat) : Int) == 1) = (l.length == 1) := by rw [pvs_len, Bool.eq_iff_iff, beq_iff_eq, beq_iff_eq]; omega
  rw [hlen]
  rcases l with _ | ⟨x, _ | ⟨y, l⟩⟩
  ·rw [show (([] : List Nod).length == 1) = false from rfl]
   simp only [Bool.and_false]; rfl
  ·rw [show ([x].length == 1) = true from rfl, Bool.and_true]
   have e := hfa x (List.mem_cons_self ..)
   have c0 : (0 : Int) < (((pvs [x]).length : Nat) : Int) := by rw [pvs_len]; simp
   have hs : hasSh shN ((pvs [x]).getD 0 .top) = true := sh_pv x
   show Option.bind (α := PV) (β := PV) (if _ = true then Option.bind (α := PV) (β := PV) (Option.bind (α := PV) (β := PV) (if 0 < (((pvs [x]).length : Nat) : Int) then if hasSh shN ((pvs [x]).getD 0 .top) = true then Option.bind (α := PV) (β := PV) (Option.bind (α := PV) (β := PV) ((D 116 [.sc (.int .u8 (((118 : UInt8).toNat : Nat) : Int)), rbN x.pv]).bind fun r20 => if hasSh .bool r20 = true then some (.sc (.bool r20.toBool)) else none) fun r21 => some (.sc (.bool r21.toBool))) (fun r22 => some (.sc (.bool r22.toBool))) else none else none) fun r23 => some (.sc (.bool r23.toBool))) (fun r24 => some (.sc (.bool r24.toBool))) else some (.sc (.bool false))) (fun r25 => some (.sc (.bool r25.toBool))) = _
   simp only [if_pos c0, if_pos hs, e, bs, shb, if_true, tb]
   rw [bA]
   dsimp only [tb]
   simp only [Bool.and_assoc]
  ·rw [show ((x :: y :: l).length == 1) = false by rw [beq_eq_false_iff_ne]; simp]
   simp only [Bool.and_false]; rfl
 rw [if_neg h5]
 refine im (by simpa using h5) ?_
 by_cases h6 : kind = 6
 ·rw [if_pos h6]
  refine ip (by rw [h6]; rfl) ?_
  rw [bA]
  dsimp +instances only [tb]
  rw [bA]
  dsimp +instances only [tb]
  rw [bA]
  dsimp +instances only [tb]
  have hlen : ((((pvs l).length : Nat) : Int) == 2) = (l.length == 2) := by rw [pvs_len, Bool.eq_iff_iff, beq_iff_eq, beq_iff_eq]; omega
  rw [hlen]
  rcases l with _ | ⟨x, _ | ⟨y, _ | ⟨z, l⟩⟩⟩
  ·rw [show (([] : List Nod).length == 2) = false from rfl]
   simp only [Bool.and_false]; rfl
  ·rw [show ([x].length == 2) = false from rfl]
   simp only [Bool.and_false]; rfl
  ·rw [show ([x, y].length == 2) = true from rfl, Bool.and_true]
   have e := hfa x (List.mem_cons_self ..)
   have e2 := hfa y (List.mem_cons_of_mem _ (List.mem_cons_self ..))
   have c0 : (0 : Int) < (((pvs [x, y]).length : Nat) : Int) := by rw [pvs_len]; simp
   have c1 : (1 : Int) < (((pvs [x, y]).length : Nat) : Int) := by rw [pvs_len]; simp
   have hs : hasSh shN ((pvs [x, y]).getD 0 .top) = true := sh_pv x
   have hs2 : hasSh shN ((pvs [x, y]).getD 1 .top) = true := sh_pv y
   show Option.bind (α := PV) (β := PV) (if _ = true then Option.bind (α := PV) (β := PV) (Option.bind (α := PV) (β := PV) (if 0 < (((pvs [x, y]).length : Nat) : Int) then if hasSh shN ((pvs [x, y]).getD 0 .top) = true then Option.bind (α := PV) (β := PV) (Option.bind (α := PV) (β := PV) ((D 116 [.sc (.int .u8 (((118 : UInt8).toNat : Nat) : Int)), rbN x.pv]).bind fun r20 => if hasSh .bool r20 = true then some (.sc (.bool r20.toBool)) else none) fun r21 => some (.sc (.bool r21.toBool))) (fun r22 => some (.sc (.bool r22.toBool))) else none else none) fun r23 => some (.sc (.bool r23.toBool))) (fun r24 => some (.sc (.bool r24.toBool))) else some (.sc (.bool false)))
    (fun r34 => Option.bind (α := PV) (β := PV) (if r34.toBool = true then Option.bind (α := PV) (β := PV) (Option.bind (α := PV) (β := PV) (if 1 < (((pvs [x, y]).length : Nat) : Int) then if hasSh shN ((pvs [x, y]).getD 1 .top) = true then Option.bind (α := PV) (β := PV) (Option.bind (α := PV) (β := PV) ((D 116 [.sc (.int .u8 (((118 : UInt8).toNat : Nat) : Int)), rbN y.pv]).bind fun r20 => if hasSh .bool r20 = true then some (.sc (.bool r20.toBool)) else none) fun r21 => some (.sc (.bool r21.toBool))) (fun r22 => some (.sc (.bool r22.toBool))) else none else none) fun r23 => some (.sc (.bool r23.toBool))) (fun r24 => some (.sc (.bool r24.toBool))) else some (.sc (.bool false))) fun r40 => some (.sc (.bool r40.toBool))) = _
   simp only [if_pos c0, if_pos c1, if_pos hs, if_pos hs2, e, e2, bs, shb, if_true, tb]
   rw [bA, bA]
   dsimp only [tb]
   congr 3
   show _ = (isZV v && isZR a && isZR b && decide (op ≥ 1) && decide (op ≤ 12) && (fitsA 118 x && fitsA 118 y))
   cases isZV v <;> cases isZR a <;> cases isZR b <;> cases decide (op ≥ 1) <;> cases decide (op ≤ 12) <;> simp
  ·rw [show ((x :: y :: z :: l).length == 2) = false by rw [beq_eq_false_iff_ne]; simp]
   simp only [Bool.and_false]; rfl
 rw [if_neg h6]
 refine im (by simpa using h6) ?_
 by_cases h7 : kind = 7
 ·rw [if_pos h7]
  refine ip (by rw [h7]; rfl) ?_
  have hfi := rfits_ev op (n := (pvs l).length) (by rw [pvs_len]; omega)
  simp only [hfi, bs, shb, if_true, tb]
  rw [bO]
  dsimp +instances only [tb]
  rw [pvs_len]
  by_cases hz : (isZV v && isZR a && isZR b) = true
  ·rw [hz]
   by_cases hp : fitsF op l.length = true
   ·rw [hp]
    refine im (by decide) ?_
    have := rcall_l kind op v a b l hp ht l.length 0 (Nat.zero_add _)
    rw [List.drop_zero, pvs_len] at this
    exact Eq.trans this rfl
   ·have : fitsF op l.length = false := by simpa using hp
    rw [this]
    exact ip rfl rfl
  ·have : (isZV v && isZR a && isZR b) = false := by simpa using hz
   rw [this]
   exact ip rfl rfl
 rw [if_neg h7]
 exact im (by simpa using h7) rfl
theorem list_all : ∀ n : Nod, n.list.all Nod.oneN = n.rightN
 | .mk kind op v a b l => by
  rw [Nod.list, List.all_cons, lists_all l, Nod.rightN, Bool.and_comm]; rfl
where lists_all : ∀ l : List Nod, (lists l).all Nod.oneN = rightsN l
 | [] => rfl
 | n :: l => by rw [lists, List.all_append, list_all n, lists_all l, rightsN]
def smallT (n : Nod) : Prop := ∀ x ∈ n.list, x.val.text.size ≤ 1000000000000000
theorem self_list (n : Nod) : n ∈ n.list := by
 obtain ⟨kind, op, v, a, b, l⟩ := n
 rw [Nod.list]; exact List.mem_cons_self ..
theorem child_list {kind op : Int} {v : Vl} {a b : Rf} {l : List Nod} {x : Nod} (h : x ∈ l) : x ∈ (Nod.mk kind op v a b l).list := by
 rw [Nod.list]
 refine List.mem_cons_of_mem _ ?_
 induction l with
 | nil => cases h
 | cons y l ih =>
  rw [lists]
  rcases List.mem_cons.1 h with rfl | h
  ·exact List.mem_append_left _ (self_list _)
  ·exact List.mem_append_right _ (ih h)
theorem sub_list : ∀ (N : Nat) (n : Nod), n.count ≤ N → ∀ x ∈ n.list, ∀ y ∈ x.list, y ∈ n.list
 | 0, .mk _ _ _ _ _ _, hN, _, _, _, _ => by rw [Nod.count] at hN; omega
 | N + 1, .mk kind op v a b l, hN, x, hx, y, hy => by
  rw [Nod.count] at hN
  rw [Nod.list] at hx
  rcases List.mem_cons.1 hx with rfl | hx
  ·exact hy
  ·rw [Nod.list]
   refine List.mem_cons_of_mem _ ?_
   have : ∀ l : List Nod, counts l ≤ N → x ∈ lists l → y ∈ lists l := by
    intro l
    induction l with
    | nil => intro _ h; cases h
    | cons m l ih =>
     intro hc h
     rw [counts] at hc
     rw [lists] at h ⊢
     rcases List.mem_append.1 h with h | h
     ·exact List.mem_append_left _ (sub_list N m (by omega) x h y hy)
     ·exact List.mem_append_right _ (ih (by omega) h)
   exact this l (by omega) hx
theorem ok_list : ∀ (N : Nat) (n : Nod), n.count ≤ N → n.ok → ∀ x ∈ n.list, x.ok
 | 0, .mk _ _ _ _ _ _, hN, _, _, _ => by rw [Nod.count] at hN; omega
 | N + 1, .mk kind op v a b l, hN, hk, x, hx => by
  rw [Nod.count] at hN
  have hk2 := hk
  rw [Nod.ok] at hk2
  rw [Nod.list] at hx
  rcases List.mem_cons.1 hx with rfl | hx
  ·exact hk
  ·have : ∀ l : List Nod, counts l ≤ N → oks l → x ∈ lists l → x.ok := by
    intro l
    induction l with
    | nil => intro _ _ h; cases h
    | cons m l ih =>
     intro hc ho h
     rw [counts] at hc
     rw [lists] at h
     rcases List.mem_append.1 h with h | h
     ·exact ok_list N m (by omega) ho.1 x h
     ·exact ih (by omega) ho.2 h
   exact this l (by omega) hk2.2.1 hx
theorem rright_l (L : List Nod) (hL : L.length ≤ 1000000) (h1 : ∀ x ∈ L, D 60 [x.pv] = some (.sc (.bool x.oneN))) : ∀ (d i : Nat), i + d = L.length → f26.l0a 0 (pvs L).length (fun i => (pvs L).getD i .top) (i : Int) = some (.sc (.bool ((L.drop i).all Nod.oneN))) := by
 intro d
 induction d with
 | zero =>
  intro i h
  rw [f26.l0a_eq]
  refine im (by rw [decide_eq_true_eq, pvs_len]; omega) ?_
  rw [List.drop_eq_nil_of_le (by omega)]; rfl
 | succ d ih =>
  intro i h
  have hi : i < L.length := by omega
  rw [f26.l0a_eq]
  rw [Int.toNat_natCast, pvs_get hi, List.drop_eq_getElem_cons hi, List.all_cons]
  have ho := h1 _ (List.getElem_mem hi)
  rw [← rb_pv] at ho
  refine ip (by rw [decide_eq_true_eq, pvs_len]; omega) (ip (by omega) (ip (by rw [pvs_len]; omega) (ip (sh_pv _) (cb ho rfl ?_))))
  by_cases hp : L[i].oneN = true
  ·rw [hp, Bool.true_and]
   refine im (by decide) ?_
   rw [nx hi (by omega)]
   exact ih (i + 1) (by omega)
  ·have : L[i].oneN = false := by simpa using hp
   rw [this, Bool.false_and]
   exact ip rfl rfl
theorem rright_ev (n : Nod) (hk : n.ok) (hc : n.count ≤ 1000000) (ht : smallT n) : D 26 [n.pv] = some (.sc (.bool n.rightN)) := by
 have hl := list_ev n.count n (Nat.le_refl _) hc
 have h1 : ∀ x ∈ n.list, D 60 [x.pv] = some (.sc (.bool x.oneN)) := by
  intro x hx
  refine rone_ev x (ok_list _ n (Nat.le_refl _) hk x hx) (ht x hx) ?_
  intro y hy
  refine ht y (sub_list _ n (Nat.le_refl _) x hx y ?_)
  obtain ⟨kind, op, v, a, b, l⟩ := x
  exact child_list hy
 have hlen := list_len n
 have := rright_l n.list (by omega) h1 n.list.length 0 (Nat.zero_add _)
 rw [List.drop_zero, list_all] at this
 obtain ⟨kind, op, v, a, b, l⟩ := n
 exact (f26_eq 0 _ _ _ _ _ _ _ _ _ _ _ _ _ _ _).trans (cb hl (frozen_sh _ _) this)
end Go.Den.ET
/- Trees that a law is handed. -/
set_option linter.unusedVariables false
set_option linter.unusedSimpArgs false
set_option maxRecDepth 100000
namespace Go.Den.ET
open Go Go.Proofs
theorem c29 : Tryz.prog.cellsOf 29 = 14 := by kernel_rfl
theorem b29 : Tryz.prog.bytesOf 29 = 120 := by kernel_rfl
theorem c3 : Tryz.prog.cellsOf 3 = 1 := by kernel_rfl
theorem c2 : Tryz.prog.cellsOf 2 = 1 := by kernel_rfl
theorem c9 : Tryz.prog.cellsOf 9 = 1 := by kernel_rfl
theorem c4 : Tryz.prog.cellsOf 4 = 1 := by kernel_rfl
theorem c24 : Tryz.prog.cellsOf 24 = 3 := by kernel_rfl
theorem c26 : Tryz.prog.cellsOf 26 = 4 := by kernel_rfl
theorem c27 : Tryz.prog.cellsOf 27 = 1 := by kernel_rfl
theorem small_mk {kind op : Int} {v : Vl} {a b : Rf} {l : List Nod} (hv : v.text.size ≤ 1000000000000000) (hs : ∀ x ∈ l, smallT x) : smallT (.mk kind op v a b l) := by
 intro x hx
 rw [Nod.list] at hx
 rcases List.mem_cons.1 hx with rfl | hx
 ·exact hv
 ·have : ∀ l : List Nod, (∀ x ∈ l, smallT x) → x ∈ lists l → x.val.text.size ≤ 1000000000000000 := by
   intro l
   induction l with
   | nil => intro _ h; cases h
   | cons m l ih =>
    intro h1 h
    rw [lists] at h
    rcases List.mem_append.1 h with h | h
    ·exact h1 m (List.mem_cons_self ..) x h
    ·exact ih (fun y hy => h1 y (List.mem_cons_of_mem _ hy)) h
  exact this l hs hx
theorem ref_of {xs : List PV} (h : Ty Tryz.prog 26 xs) : ∃ r : Rf, xs = [.sc (.int .i64 r.row), .sc (.int .i64 r.col), .sc (.bool r.hr), .sc (.bool r.hc)] := by
 obtain ⟨hl, hx⟩ := ty_struct h Tryz.underlying26
 rw [c26] at hl
 obtain ⟨x, y, z, u, rfl⟩ : ∃ x y z u, xs = [x, y, z, u] := by
  match xs, hl with
  | [x, y, z, u], _ => exact ⟨x, y, z, u, rfl⟩
 have h0 := hx _ (List.mem_cons_self)
 have h1 := hx _ (List.mem_cons_of_mem _ List.mem_cons_self)
 have h2 := hx _ (List.mem_cons_of_mem _ (List.mem_cons_of_mem _ List.mem_cons_self))
 have h3 := hx _ (List.mem_cons_of_mem _ (List.mem_cons_of_mem _ (List.mem_cons_of_mem _ List.mem_cons_self)))
 simp only [c3, c4] at h0 h1 h2 h3
 obtain ⟨r, e0, _⟩ := ty_int h0 Tryz.underlying3
 obtain ⟨c, e1, _⟩ := ty_int h1 Tryz.underlying3
 obtain ⟨p, e2⟩ := ty_bool h2 Tryz.underlying4
 obtain ⟨q, e3⟩ := ty_bool h3 Tryz.underlying4
 simp at e0 e1 e2 e3
 subst e0; subst e1; subst e2; subst e3
 exact ⟨⟨r, c, p, q⟩, rfl⟩
theorem val_of {xs : List PV} (h : Ty Tryz.prog 24 xs) : ∃ v : Vl, xs = [.sc (.int .i64 v.kind), .sc (.int .i64 v.num), .sc (.string v.text)] ∧ v.text.size ≤ 140737488351232 ∧ I64 v.num := by
 obtain ⟨hl, hx⟩ := ty_struct h Tryz.underlying24
 rw [c24] at hl
 obtain ⟨x, y, z, rfl⟩ : ∃ x y z, xs = [x, y, z] := by
  match xs, hl with
  | [x, y, z], _ => exact ⟨x, y, z, rfl⟩
 have h0 := hx _ (List.mem_cons_self)
 have h1 := hx _ (List.mem_cons_of_mem _ List.mem_cons_self)
 have h2 := hx _ (List.mem_cons_of_mem _ (List.mem_cons_of_mem _ List.mem_cons_self))
 simp only [c3, c2, c9] at h0 h1 h2
 obtain ⟨r, e0, _⟩ := ty_int h0 Tryz.underlying3
 obtain ⟨c, e1, w1⟩ := ty_int h1 Tryz.underlying2
 obtain ⟨p, e2, hs⟩ := ty_str h2 Tryz.underlying9
 simp at e0 e1 e2
 subst e0; subst e1; subst e2
 exact ⟨⟨r, c, p⟩, rfl, hs, wf64 w1⟩
theorem node_of : ∀ {t : TypeId} {xs : List PV}, Ty Tryz.prog t xs → (t = 29 → ∃ n : Nod, PV.agg xs = n.pv ∧ n.ok ∧ smallT n) ∧ (t = 27 → ∃ l : List Nod, xs = [frozen 14 (pvs l)] ∧ (oks l ∧ ∀ x ∈ l, smallT x) ∧ l.length * 120 ≤ 140737488351232) := by
 intro t xs h
 induction h with
 | bool hu => exact ⟨fun e => (by subst e; rw [Tryz.underlying29] at hu; cases hu), fun e => (by subst e; rw [Tryz.underlying27] at hu; cases hu)⟩
 | int hu => exact ⟨fun e => (by subst e; rw [Tryz.underlying29] at hu; cases hu), fun e => (by subst e; rw [Tryz.underlying27] at hu; cases hu)⟩
 | str hu => exact ⟨fun e => (by subst e; rw [Tryz.underlying29] at hu; cases hu), fun e => (by subst e; rw [Tryz.underlying27] at hu; cases hu)⟩
 | array hu => exact ⟨fun e => (by subst e; rw [Tryz.underlying29] at hu; cases hu), fun e => (by subst e; rw [Tryz.underlying27] at hu; cases hu)⟩
 | @slice t e l hu hl hb hx hp ih =>
  refine ⟨fun e => (by subst e; rw [Tryz.underlying29] at hu; cases hu), fun e2 => ?_⟩
  subst e2
  rw [Tryz.underlying27] at hu
  cases hu
  have each : ∀ l' : List PV, (∀ x, x ∈ l' → x ∈ l) → ∃ ns : List Nod, l' = pvs ns ∧ oks ns ∧ ∀ x ∈ ns, smallT x := by
   intro l'
   induction l' with
   | nil => intro _; exact ⟨[], rfl, trivial, fun x hx => by cases hx⟩
   | cons x l' ih2 =>
    intro hs
    obtain ⟨ns, e, ho, hsm⟩ := ih2 fun y hy => hs y (List.mem_cons_of_mem _ hy)
    have hxl := hs x List.mem_cons_self
    obtain ⟨n, en, hn, hsn⟩ := (ih x hxl).1 rfl
    obtain ⟨cs, rfl⟩ := (hp x hxl).2.2.1 (by rw [Tryz.underlying29]; rfl)
    exact ⟨n :: ns, by rw [pvs, e, ← en]; rfl, ⟨hn, ho⟩, fun x hx => by
     rcases List.mem_cons.1 hx with rfl | hx
     ·exact hsn
     ·exact hsm x hx⟩
  obtain ⟨ns, e, ho, hsm⟩ := each l fun x hx => hx
  refine ⟨ns, by rw [c29, e], ⟨ho, hsm⟩, ?_⟩
  have e3 : ns.length = l.length := by rw [e, pvs_len]
  rw [b29] at hb
  rw [e3]
  exact hb
 | @struct t fs xs hu hl hx ih =>
  refine ⟨fun e => ?_, fun e => by subst e; rw [Tryz.underlying27] at hu; cases hu⟩
  subst e
  rw [Tryz.underlying29] at hu
  cases hu
  rw [c29] at hl
  obtain ⟨x0, x1, x2, x3, x4, x5, x6, x7, x8, x9, x10, x11, x12, x13, rfl⟩ : ∃ x0 x1 x2 x3 x4 x5 x6 x7 x8 x9 x10 x11 x12 x13, xs = [x0, x1, x2, x3, x4, x5, x6, x7, x8, x9, x10, x11, x12, x13] := by
   match xs, hl with
   | [x0, x1, x2, x3, x4, x5, x6, x7, x8, x9, x10, x11, x12, x13], _ => exact ⟨_, _, _, _, _, _, _, _, _, _, _, _, _, _, rfl⟩
  have h0 := hx _ (List.mem_cons_self)
  have h1 := hx _ (List.mem_cons_of_mem _ List.mem_cons_self)
  have h2 := hx _ (List.mem_cons_of_mem _ (List.mem_cons_of_mem _ List.mem_cons_self))
  have h3 := hx _ (List.mem_cons_of_mem _ (List.mem_cons_of_mem _ (List.mem_cons_of_mem _ List.mem_cons_self)))
  have h4 := hx _ (List.mem_cons_of_mem _ (List.mem_cons_of_mem _ (List.mem_cons_of_mem _ (List.mem_cons_of_mem _ List.mem_cons_self))))
  have h5 := (ih _ (List.mem_cons_of_mem _ (List.mem_cons_of_mem _ (List.mem_cons_of_mem _ (List.mem_cons_of_mem _ (List.mem_cons_of_mem _ List.mem_cons_self)))))).2 rfl
  simp only [c3, c24, c26] at h0 h1 h2 h3 h4
  simp only [c27] at h5
  obtain ⟨k, e0, _⟩ := ty_int h0 Tryz.underlying3
  obtain ⟨o, e1, _⟩ := ty_int h1 Tryz.underlying3
  obtain ⟨v, e2, hv, hvn⟩ := val_of h2
  obtain ⟨a, e3⟩ := ref_of h3
  obtain ⟨b, e4⟩ := ref_of h4
  obtain ⟨l, e5, ⟨hl5, hsm⟩, hl6⟩ := h5
  simp at e0 e1 e2 e3 e4 e5
  subst e0; subst e1
  obtain ⟨rfl, rfl, rfl⟩ := e2
  obtain ⟨rfl, rfl, rfl, rfl⟩ := e3
  obtain ⟨rfl, rfl, rfl, rfl⟩ := e4
  subst e5
  exact ⟨.mk k o v a b l, by rw [Nod.pv], by rw [Nod.ok]; exact ⟨⟨by omega, hvn⟩, hl5, hl6⟩, small_mk (by omega) hsm⟩
theorem agg29 {cs : List PV} : ofCells Tryz.prog 29 cs = .agg cs := by unfold ofCells; rw [if_pos (by rw [Tryz.underlying29]; rfl)]
end Go.Den.ET
/- The text of a formula is parsed as it: the law. -/
set_option linter.unusedVariables false
set_option linter.unusedSimpArgs false
set_option maxRecDepth 100000
namespace Go.Den.ET
open Go Go.Proofs
theorem al24 : ((D 21 []).bind fun r8 => if hasSh .bool r8 = true then some (PV.sc (.bool r8.toBool)) else none) = some (PV.sc (.bool true)) := cb alive24_ev rfl rfl
theorem texS_len {x : Int} (h : 0 ≤ x ∧ x ≤ 9223372036854775807) : (texS x).length ≤ 30 := by
 have hm : May x := by unfold May; omega
 unfold texS
 rw [if_pos hm, tex_str, if_neg (by omega), List.nil_append]
 have h1 := dd_len16 hm (by unfold I64; omega)
 have h2 := frac_len 4 (x.natAbs % 10000)
 unfold strD
 rw [List.length_append]
 by_cases hf : fracL 4 (x.natAbs % 10000) = []
 ·rw [if_pos hf]; simp only [List.length_nil]; omega
 ·rw [if_neg hf]; simp only [List.length_cons]; omega
theorem wrdR_len {r : Rf} (h : refM r = true) : (wrdR r).length ≤ 7 := by
 unfold refM at h
 simp only [Bool.and_eq_true, decide_eq_true_eq] at h
 have h1 : (letL r.col.toNat).length ≤ 2 := by unfold letL; split <;> simp
 have h2 := dd_len 2 (r.row.toNat + 1) (by omega)
 have hw : ∀ c : Bool, (if c = true then [36] else [] : List UInt8).length ≤ 1 := by intro c; cases c <;> decide
 have h3 := hw r.hc
 have h4 := hw r.hr
 unfold wrdR
 rw [List.length_append, List.length_append, List.length_append]
 omega
theorem wth_tex (k : Nat) (n : Nod) : (texT (wth k n)).length ≤ (texN n).length + 2 := len_brk n k
theorem args_len (M : Nat) : ∀ l : List Nod, (∀ n ∈ l, (texN n).length + 10 ≤ M * n.count) → (texT (comC (tkNs l))).length ≤ M * counts l
 | [], _ => Nat.zero_le _
 | [n], h => by
  have := h n (List.mem_cons_self ..)
  show (texN n).length ≤ M * (n.count + 0)
  rw [Nat.add_zero]; omega
 | n :: m :: l, h => by
  have h1 := h n (List.mem_cons_self ..)
  have h2 := args_len M (m :: l) fun x hx => h x (List.mem_cons_of_mem _ hx)
  have e : texT (comC (tkNs (n :: m :: l))) = texN n ++ 44 :: texT (comC (tkNs (m :: l))) := by
   show texT (tkN n ++ sgt [44] :: comC (tkNs (m :: l))) = _
   rw [texT_app, texT_cons]; rfl
  rw [e, List.length_append, List.length_cons]
  show _ ≤ M * (n.count + counts (m :: l))
  rw [Nat.mul_add]; omega
theorem tex_len : ∀ (N : Nat) (n : Nod), n.count ≤ N → n.rightN = true → (texN n).length + 10 ≤ 600 * n.count
 | 0, .mk _ _ _ _ _ _, hN, _ => by rw [Nod.count] at hN; omega
 | N + 1, n, hN, hr => by
  have h := rgt hr
  cases h with
  | num x h =>
   have e : texN (litN ⟨1, x, ⟨#[]⟩⟩) = texS x := List.append_nil _
   have := texS_len h
   rw [e]; show _ ≤ 600 * (0 + 1); omega
  | str t h hp =>
   have e : texN (litN ⟨2, 0, t⟩) = quoL (tb8 t) := List.append_nil _
   have h1 := dbl_len (tb8 t)
   have h2 := tb8_len t
   rw [e]
   show (quoL (tb8 t)).length + 10 ≤ 600 * (0 + 1)
   unfold quoL
   simp only [List.length_cons, List.length_append, List.length_nil]; omega
  | tru x h =>
   have e : texN (litN ⟨3, x, ⟨#[]⟩⟩) = (if x = 1 then wordL else wordF) := List.append_nil _
   rw [e]
   rcases h with rfl | rfl <;> decide
  | lost => decide
  | one r h =>
   have e : texN (oneN r) = wrdR r := List.append_nil _
   have := wrdR_len h
   rw [e]; show _ ≤ 600 * (0 + 1); omega
  | range r q h h2 =>
   have e : texN (rangeN r q) = wrdR r ++ 58 :: wrdR q := by
    show wrdR r ++ ([58] ++ (wrdR q ++ [])) = _
    simp
   have := wrdR_len h
   have := wrdR_len h2
   rw [e, List.length_append, List.length_cons]; show _ ≤ 600 * (0 + 1); omega
  | neg m hm hmk =>
   have hc : (negN m).count = m.count + 0 + 1 := rfl
   have e : texN (negN m) = 45 :: texT (wth 6 m) := rfl
   have h1 := wth_tex 6 m
   have h2 := tex_len N m (by omega) hm
   rw [e, List.length_cons, hc]; omega
  | bin op ho m m' hm hm' hmk =>
   have hc : (binN op m m').count = m.count + (m'.count + 0) + 1 := rfl
   have e : texN (binN op m m') = texT (wth (sgnO op).2 m) ++ ((sgnO op).1 ++ texT (wth ((sgnO op).2 + 1) m')) := by
    unfold texN; rw [tk_bin, texT_app, texT_cons]; rfl
   have h1 := wth_tex (sgnO op).2 m
   have h2 := wth_tex ((sgnO op).2 + 1) m'
   have h3 := tex_len N m (by omega) hm
   have h4 := tex_len N m' (by omega) hm'
   have h5 := (sigs_len (op_sig ho).1).2
   rw [e, List.length_append, List.length_append, hc]; omega
  | call f l hf hl hkl =>
   have hc : (callN f l).count = counts l + 1 := rfl
   have e : texN (callN f l) = (rowP f).1 ++ (40 :: (texT (comC (tkNs l)) ++ [41])) := by
    unfold texN
    rw [tk_call, texT_cons, texT_cons, texT_app]
    show (rowP f).1 ++ ([40] ++ (texT (comC (tkNs l)) ++ ([41] ++ []))) = _
    simp
   have h1 := args_len 600 l fun x hx => tex_len N x (by have := count_mem hx; omega) (rights_mem hl hx)
   have hr := fits_rng hf
   have hj : f.toNat - 1 < fnRows.length := by rw [rows_78]; omega
   have e2 := rowP_get hj
   rw [show ((f.toNat - 1 + 1 : Nat) : Int) = f by omega] at e2
   have h20 := row_20 (row_ok hj)
   rw [← e2, List.length_append] at h20
   rw [e, List.length_append, List.length_cons, List.length_append, hc]
   simp only [List.length_cons, List.length_nil]; omega
end Go.Den.ET
/- A tree's text, by the reference. -/
set_option linter.unusedVariables false
set_option linter.unusedSimpArgs false
set_option maxRecDepth 100000
namespace Go.Den.ET
open Go Go.Proofs
theorem rletters_ev {c : Nat} (h : c < 702) : D 58 [.sc (.int .i64 (c : Int))] = some (.sc (.string (B (letL c)))) := by
 rw [f58_eq 0, bO]
 have hc : (decide ((c : Int) < 0) || decide ((c : Int) > 701)) = false := by
  rw [Bool.or_eq_false_iff, decide_eq_false_iff_not, decide_eq_false_iff_not]; omega
 rw [hc]
 refine im (Bool.false_ne_true) ?_
 unfold letL
 by_cases h26 : c < 26
 ·rw [if_pos h26]
  refine ip (by rw [decide_eq_true_eq]; omega) ?_
  have e : IntKind.u8.wrap (IntKind.i64.wrap ((65 : Int) + (c : Int))) = ((65 + c : Nat) : Int) := by
   rw [w64 (by omega) (by omega), u8w (by omega) (by omega)]; omega
  rw [e]
  exact ip rfl rfl
 ·rw [if_neg h26]
  refine im (by rw [decide_eq_true_eq]; omega) ?_
  have e1 : (c : Int).tdiv 26 = ((c / 26 : Nat) : Int) := by rw [Int.tdiv_eq_ediv_of_nonneg (by omega)]; omega
  have e2 : (c : Int).tmod 26 = ((c % 26 : Nat) : Int) := by rw [Int.tmod_eq_emod_of_nonneg (by omega)]; omega
  have e3 : IntKind.u8.wrap (IntKind.i64.wrap ((64 : Int) + (IntKind.i64.wrap ((c : Int).tdiv 26)))) = ((64 + c / 26 : Nat) : Int) := by
   rw [e1, w64 (x := ((c / 26 : Nat) : Int)) (by omega) (by omega), w64 (by omega) (by omega), u8w (by omega) (by omega)]; omega
  have e4 : IntKind.u8.wrap (IntKind.i64.wrap ((65 : Int) + ((c : Int).tmod 26))) = ((65 + c % 26 : Nat) : Int) := by
   rw [e2, w64 (by omega) (by omega), u8w (by omega) (by omega)]; omega
  rw [e3, e4]
  exact ip rfl rfl
theorem rcref_ev (r : Rf) : D 25 [r.pv] = some (.sc (.string (B (refD r)))) := by
 obtain ⟨row, col, hr, hc⟩ := r
 have hm : D 57 [.agg [.sc (.int .i64 row), .sc (.int .i64 col)]] = some (.sc (.bool (refM ⟨row, col, hr, hc⟩))) := by
  refine (f57_eq 0 _ _).trans ?_
  rw [bA, bA, bA]
  show some (PV.sc (.bool (((decide (row ≥ 0) && decide (row ≤ 998)) && decide (col ≥ 0)) && decide (col ≤ 701)))) = _
  congr 3
  unfold refM
  rw [Bool.eq_iff_iff]
  simp only [Bool.and_eq_true, decide_eq_true_eq]
  omega
 refine (f25_eq 0 _ _ _ _).trans (cb hm rfl ?_)
 unfold refD
 by_cases hM : refM ⟨row, col, hr, hc⟩ = true
 ·rw [if_pos hM]
  refine im (by rw [hM]; decide) ?_
  have hM2 := hM
  unfold refM at hM2
  simp only [Bool.and_eq_true, decide_eq_true_eq] at hM2
  obtain ⟨⟨⟨h1, h2⟩, h3⟩, h4⟩ := hM2
  obtain ⟨rn, rfl⟩ : ∃ k : Nat, row = k := ⟨row.toNat, by omega⟩
  obtain ⟨cn, rfl⟩ : ∃ k : Nat, col = k := ⟨col.toNat, by omega⟩
  have l1 := letL_le cn
  have l2 := dd_len 2 (rn + 1) (by omega)
  have hd := digits_ev (n := ((rn + 1 : Nat) : Int)) (by omega) (by omega)
  rw [Int.toNat_natCast, show ((rn + 1 : Nat) : Int) = IntKind.i64.wrap ((rn : Int) + 1) by rw [w64 (by omega) (by omega)]; omega] at hd
  have j1 : ∀ s : List UInt8, s.length ≤ 10 → f25.j1a 0 (B s) (rn : Int) (cn : Int) hr hc = some (.sc (.string (B (s ++ Lib.decDigits (rn + 1))))) := by
   intro s hs
   refine (f25.j1a_eq 0 _ _ _ _ _).trans (cb hd rfl (ip ?_ ?_))
   ·show (B s).size + (B (Lib.decDigits (rn + 1))).size ≤ _; rw [B_size, B_size]; omega
   ·show some (PV.sc (.string (B s ++ B (Lib.decDigits (rn + 1))))) = _
    rw [B_append]
  have j0 : ∀ s : List UInt8, s.length ≤ 9 → f25.j0a 0 (B s) (rn : Int) (cn : Int) hr hc = some (.sc (.string (B (s ++ ((if hr = true then [36] else []) ++ Lib.decDigits (rn + 1)))))) := by
   intro s hs
   refine (f25.j0a_eq 0 _ _ _ _ _).trans ?_
   cases hr
   ·exact im Bool.false_ne_true (j1 s (by omega))
   ·refine ip rfl (ip (by rw [B_size]; omega) ?_)
    rw [show (⟨#[36]⟩ : ByteArray) = B [36] from rfl, B_append, j1 (s ++ [36]) (by simp; omega)]
    simp
  refine cb (rletters_ev (c := cn) (by omega)) rfl ?_
  unfold wrdR
  dsimp only
  rw [Int.toNat_natCast, Int.toNat_natCast]
  cases hc
  ·refine im Bool.false_ne_true ((j0 (letL cn) (by omega)).trans ?_)
   simp
  ·refine ip rfl (ip (by show 1 + (B (letL cn)).size ≤ _; rw [B_size]; omega) ?_)
   show f25.j0a 0 ((⟨#[36]⟩ : ByteArray) ++ B (letL cn)) (rn : Int) (cn : Int) hr true = _
   rw [show (⟨#[36]⟩ : ByteArray) = B [36] from rfl, B_append, j0 ([36] ++ letL cn) (by simp; omega)]
   simp
 ·rw [if_neg hM]
  have hf : refM ⟨row, col, hr, hc⟩ = false := by simpa using hM
  rw [hf]
  exact ip rfl rfl
def rnP : List PV := fnRows.map fun r => .sc (.string (B r.1))
theorem rnames_ev : D 162 [] = some (frozen 1 rnP) := (f162_eq 0).trans (by kernel_rfl)
theorem rname_ev {fn : Int} (h : 1 ≤ fn ∧ fn ≤ 78) : D 110 [.sc (.int .i64 fn)] = some (.sc (.string (B (rowP fn).1))) := by
 rw [f110_eq 0, bO]
 have c : (decide (fn < 1) || decide (fn > 78)) = false := by
  rw [Bool.or_eq_false_iff, decide_eq_false_iff_not, decide_eq_false_iff_not]; omega
 rw [c]
 obtain ⟨i, rfl⟩ : ∃ i : Nat, fn = ((i + 1 : Nat) : Int) := ⟨fn.toNat - 1, by omega⟩
 have hi : i < fnRows.length := by rw [rows_78]; omega
 have ew : IntKind.i64.wrap (((i + 1 : Nat) : Int) - 1) = (i : Int) := by rw [w64 (by omega) (by omega)]; omega
 refine im Bool.false_ne_true (cb rnames_ev (by simp [hasSh, frozen, PV.isLst]) ?_)
 rw [ew, rowP_get hi]
 have hg : (frozen 1 rnP).at (i : Int).toNat = .sc (.string (B fnRows[i].1)) := by
  rw [Int.toNat_natCast]
  show rnP.getD i .top = _
  simp [rnP, hi]
 rw [hg]
 have hl : ((frozen 1 rnP).len : Int) = 78 := by
  show ((rnP.length : Nat) : Int) = 78
  unfold rnP; rw [List.length_map, rows_78]; rfl
 exact ip (by omega) (ip (by rw [hl]; omega) (ip rfl rfl))
def rB (n : Nod) : Nat := if n.kind = 6 then (sgnO n.op).2 else 6
theorem op12 {op : Nat} (ho : 1 ≤ op ∧ op ≤ 12) : op = 1 ∨ op = 2 ∨ op = 3 ∨ op = 4 ∨ op = 5 ∨ op = 6 ∨ op = 7 ∨ op = 8 ∨ op = 9 ∨ op = 10 ∨ op = 11 ∨ op = 12 := by omega
theorem rbinds_ev {n : Nod} (h : n.rightN = true) : D 109 [n.pv] = some (.sc (.int .i64 ((rB n : Nat) : Int))) := by
 have no : n.kind ≠ 6 → D 109 [n.pv] = some (.sc (.int .i64 ((rB n : Nat) : Int))) := by
  intro h6
  have e : rB n = 6 := if_neg h6
  rw [e]
  obtain ⟨kind, op, v, a, b, l⟩ := n
  exact (f109_eq 0 _ _ _ _ _ _ _ _ _ _ _ _ _ _ _).trans (ip (by rw [bne_iff_ne]; exact h6) rfl)
 cases rgt h with
 | bin op ho m m' _ _ _ =>
  have e : rB (binN op m m') = (sgnO op).2 := if_pos rfl
  rw [e]
  refine (f109_eq 0 _ _ _ _ _ _ _ _ _ _ _ _ _ _ _).trans (im (show ¬ ((6 : Int) != 6) = true by decide) ?_)
  rcases op12 ho with rfl | rfl | rfl | rfl | rfl | rfl | rfl | rfl | rfl | rfl | rfl | rfl <;> rfl
 | num => exact no (show ¬ (1 : Int) = 6 by decide)
 | str => exact no (show ¬ (1 : Int) = 6 by decide)
 | tru => exact no (show ¬ (1 : Int) = 6 by decide)
 | lost => exact no (show ¬ (2 : Int) = 6 by decide)
 | one => exact no (show ¬ (3 : Int) = 6 by decide)
 | range => exact no (show ¬ (4 : Int) = 6 by decide)
 | neg => exact no (show ¬ (5 : Int) = 6 by decide)
 | call => exact no (show ¬ (7 : Int) = 6 by decide)
theorem wth_is {n : Nod} (k : Nat) (hk : k ≤ 6) : texT (wth k n) = if rB n < k then 40 :: (texN n ++ [41]) else texN n := by
 have e : rB n < k ↔ bindsN n < k := by
  unfold rB bindsN
  by_cases h : n.kind = 6
  ·rw [if_pos h, if_pos h]
  ·rw [if_neg h, if_neg h]; omega
 by_cases h : rB n < k
 ·rw [if_pos h, wth_gt (e.1 h), texT_cons, texT_app]; rfl
 ·rw [if_neg h, wth_le (by have := mt e.2 h; omega)]; rfl
theorem rbrk_ev {n : Nod} (hw : D 54 [n.pv] = some (.sc (.string (B (texN n))))) (hl : (texN n).length ≤ 1000000) (is : Bool) : D 108 [rbN n.pv, .sc (.bool is)] = some (.sc (.string (B (if is = true then 40 :: (texN n ++ [41]) else texN n)))) := by
 rw [rb_pv]
 obtain ⟨kind, op, v, a, b, l⟩ := n
 refine (f108_eq 0 _ _ _ _ _ _ _ _ _ _ _ _ _ _ _ _).trans ?_
 cases is
 ·exact im Bool.false_ne_true (cb hw rfl rfl)
 ·refine ip rfl (cb hw rfl (ip ?_ (ip ?_ ?_)))
  ·show 1 + (B (texN _)).size ≤ _; rw [B_size]; omega
  ·show ((⟨#[40]⟩ : ByteArray) ++ B (texN _)).size + 1 ≤ _
   rw [show (⟨#[40]⟩ : ByteArray) = B [40] from rfl, B_append, B_size, List.length_append]; simp only [List.length_cons, List.length_nil]; omega
  ·show some (PV.sc (.string (((⟨#[40]⟩ : ByteArray) ++ B (texN _)) ++ (⟨#[41]⟩ : ByteArray)))) = _
   rw [show (⟨#[40]⟩ : ByteArray) = B [40] from rfl, show (⟨#[41]⟩ : ByteArray) = B [41] from rfl, B_append, B_append]; rfl
theorem kind_pv (n : Nod) : (cel 0 n.pv.cells).toInt = n.kind := by obtain ⟨kind, op, v, a, b, l⟩ := n; rfl
theorem rargs_l (kind op : Int) (v : Vl) (a b : Rf) (l : List Nod) (hl : l.length ≤ 1000000) (IH : ∀ n ∈ l, D 54 [n.pv] = some (.sc (.string (B (texN n))))) : ∀ (d i : Nat) (s : List UInt8), i + d = l.length → s.length + (argsT (i == 0) (l.drop i)).length + 1 ≤ 1000000 →
  f54.l0a 0 (B s) (i : Int) kind op v.kind v.num v.text a.row a.col a.hr a.hc b.row b.col b.hr b.hc (pvs l).length (fun i => (pvs l).getD i .top) = some (.sc (.string (B (s ++ (argsT (i == 0) (l.drop i) ++ [41]))))) := by
 intro d
 induction d with
 | zero =>
  intro i s h hs
  rw [f54.l0a_eq]
  refine im (by rw [decide_eq_true_eq, pvs_len]; omega) ?_
  rw [List.drop_eq_nil_of_le (by omega)] at hs ⊢
  have e : argsT (i == 0) [] = [] := by cases (i == 0) <;> rfl
  rw [e, List.nil_append]
  refine ip (by rw [B_size]; omega) ?_
  rw [show (⟨#[41]⟩ : ByteArray) = B [41] from rfl, B_append]
 | succ d ih =>
  intro i s h hs
  have hi : i < l.length := by omega
  rw [f54.l0a_eq]
  rw [List.drop_eq_getElem_cons hi] at hs ⊢
  refine ip (by rw [decide_eq_true_eq, pvs_len]; omega) ?_
  have join : ∀ s' : List UInt8, s'.length + (texN l[i]).length + (argsT false (l.drop (i + 1))).length + 1 ≤ 1000000 → f54.j1a 0 (B s') (i : Int) kind op v.kind v.num v.text a.row a.col a.hr a.hc b.row b.col b.hr b.hc (pvs l).length (fun i => (pvs l).getD i .top) = some (.sc (.string (B (s' ++ (texN l[i] ++ (argsT false (l.drop (i + 1)) ++ [41])))))) := by
   intro s' hs'
   have p := IH _ (List.getElem_mem hi)
   rw [← rb_pv] at p
   refine (f54.j1a_eq 0 _ _ _ _ _ _ _ _ _ _ _ _ _ _ _ _ _).trans ?_
   rw [Int.toNat_natCast, pvs_get hi]
   refine ip (by omega) (ip (by rw [pvs_len]; omega) (ip (sh_pv _) (cb p rfl (ip ?_ ?_))))
   ·show (B s').size + (B (texN l[i])).size ≤ _; rw [B_size, B_size]; omega
   ·show f54.l0a 0 (B s' ++ B (texN l[i])) (IntKind.i64.wrap ((i : Int) + 1)) kind op v.kind v.num v.text a.row a.col a.hr a.hc b.row b.col b.hr b.hc (pvs l).length (fun i => (pvs l).getD i .top) = _
    rw [B_append, nx hi (by omega), ih (i + 1) (s' ++ texN l[i]) (by omega) (by rw [List.length_append]; show _ + (argsT false (l.drop (i + 1))).length + 1 ≤ _; omega), List.append_assoc]; rfl
  by_cases h0 : i = 0
  ·subst h0
   refine im (by decide) ((join s (by
    have : (argsT true (l[0] :: l.drop (0 + 1))).length = (texN l[0]).length + (argsT false (l.drop (0 + 1))).length := List.length_append
    have e : ((0 : Nat) == 0) = true := rfl
    rw [e, this] at hs
    omega)).trans ?_)
   show _ = some (PV.sc (.string (B (s ++ ((texN l[0] ++ argsT false (l.drop (0 + 1))) ++ [41])))))
   rw [List.append_assoc (texN l[0])]
  ·have e : (i == 0) = false := by rw [beq_eq_false_iff_ne]; exact h0
   rw [e] at hs ⊢
   have hlen : (argsT false (l[i] :: l.drop (i + 1))).length = (texN l[i]).length + (argsT false (l.drop (i + 1))).length + 1 := by
    show (44 :: (texN l[i] ++ argsT false (l.drop (i + 1)))).length = _
    rw [List.length_cons, List.length_append]
   rw [hlen] at hs
   refine ip (by rw [decide_eq_true_eq]; omega) (ip (by rw [B_size]; omega) ?_)
   rw [show (⟨#[44]⟩ : ByteArray) = B [44] from rfl, B_append, join (s ++ [44]) (by rw [List.length_append]; simp only [List.length_cons, List.length_nil]; omega)]
   show _ = some (PV.sc (.string (B (s ++ ((44 :: (texN l[i] ++ argsT false (l.drop (i + 1)))) ++ [41])))))
   simp
def rsg : List PV := [.sc (.string (⟨#[43]⟩ : ByteArray)), .sc (.string (⟨#[45]⟩ : ByteArray)), .sc (.string (⟨#[42]⟩ : ByteArray)), .sc (.string (⟨#[47]⟩ : ByteArray)), .sc (.string (⟨#[94]⟩ : ByteArray)), .sc (.string (⟨#[38]⟩ : ByteArray)), .sc (.string (⟨#[61]⟩ : ByteArray)), .sc (.string (⟨#[60, 62]⟩ : ByteArray)), .sc (.string (⟨#[60]⟩ : ByteArray)), .sc (.string (⟨#[60, 61]⟩ : ByteArray)), .sc (.string (⟨#[62]⟩ : ByteArray)), .sc (.string (⟨#[62, 61]⟩ : ByteArray))]
theorem rsg_get {op : Nat} (ho : 1 ≤ op ∧ op ≤ 12) : rsg.getD (IntKind.i64.wrap ((op : Int) - 1)).toNat .top = .sc (.string (B (sgnO op).1)) := by
 rcases op12 ho with rfl | rfl | rfl | rfl | rfl | rfl | rfl | rfl | rfl | rfl | rfl | rfl <;> rfl
theorem rwords_ev : ∀ (N : Nat) (n : Nod), n.count ≤ N → n.rightN = true → (texN n).length ≤ 1000000 → D 54 [n.pv] = some (.sc (.string (B (texN n))))
 | 0, .mk _ _ _ _ _ _, hN, _, _ => by rw [Nod.count] at hN; omega
 | N + 1, n, hN, hr, hs => by
  have h := rgt hr
  cases h with
  | num x h =>
   have e : texN (litN ⟨1, x, ⟨#[]⟩⟩) = texS x := List.append_nil _
   rw [e]
   exact (f54_eq 0 _ _ _ _ _ _ _ _ _ _ _ _ _ _ _).trans (ip rfl (ip rfl (cb (rtext_ev (x := x) (by unfold I64; omega)) rfl rfl)))
  | str t h hp =>
   have e : texN (litN ⟨2, 0, t⟩) = quoL (tb8 t) := List.append_nil _
   rw [e]
   have hq := rquote_ev (tb8 t) (by rw [tb8_len]; omega)
   rw [tb8_B] at hq
   have hsh : D 107 [Vl.pv ⟨2, 0, t⟩] = some (.sc (.string (B (quoL (tb8 t))))) := (f107_eq 0 _ _ _).trans (ip rfl (cb hq rfl rfl))
   exact (f54_eq 0 _ _ _ _ _ _ _ _ _ _ _ _ _ _ _).trans (ip rfl (im (show ¬ ((2 : Int) == 1) = true by decide) (cb hsh rfl rfl)))
  | tru x h =>
   have e : texN (litN ⟨3, x, ⟨#[]⟩⟩) = (if x = 1 then wordL else wordF) := List.append_nil _
   rw [e]
   have hwd : D 161 [Vl.pv ⟨3, x, EM⟩] = some (.sc (.string (B (if x = 1 then wordL else wordF)))) := by
    refine (f161_eq 0 _ _ _).trans (im (show ¬ ((3 : Int) == 1) = true by decide) ?_)
    rcases h with rfl | rfl <;> rfl
   have hsh : D 107 [Vl.pv ⟨3, x, EM⟩] = some (.sc (.string (B (if x = 1 then wordL else wordF)))) := (f107_eq 0 _ _ _).trans (im (show ¬ ((3 : Int) == 2) = true by decide) (im (show ¬ ((3 : Int) == 4) = true by decide) (cb hwd rfl rfl)))
   exact (f54_eq 0 _ _ _ _ _ _ _ _ _ _ _ _ _ _ _).trans (ip rfl (im (show ¬ ((3 : Int) == 1) = true by decide) (cb hsh rfl rfl)))
  | lost => exact (f54_eq 0 _ _ _ _ _ _ _ _ _ _ _ _ _ _ _).trans (im (show ¬ ((2 : Int) == 1) = true by decide) (ip rfl rfl))
  | one r h =>
   have e : texN (oneN r) = wrdR r := List.append_nil _
   rw [e]
   have hf := rcref_ev r
   rw [show refD r = wrdR r from if_pos h] at hf
   exact (f54_eq 0 _ _ _ _ _ _ _ _ _ _ _ _ _ _ _).trans (im (show ¬ ((3 : Int) == 1) = true by decide) (im (show ¬ ((3 : Int) == 2) = true by decide) (ip rfl (cb hf rfl rfl))))
  | range r q h h2 =>
   have e : texN (rangeN r q) = wrdR r ++ 58 :: wrdR q := by
    show wrdR r ++ ([58] ++ (wrdR q ++ [])) = _
    simp
   rw [e] at hs ⊢
   rw [List.length_append, List.length_cons] at hs
   have hf := rcref_ev r
   have hf2 := rcref_ev q
   rw [show refD r = wrdR r from if_pos h] at hf
   rw [show refD q = wrdR q from if_pos h2] at hf2
   refine (f54_eq 0 _ _ _ _ _ _ _ _ _ _ _ _ _ _ _).trans (im (show ¬ ((4 : Int) == 1) = true by decide) (im (show ¬ ((4 : Int) == 2) = true by decide) (im (show ¬ ((4 : Int) == 3) = true by decide) (ip rfl (cb hf rfl (ip ?_ (cb hf2 rfl (ip ?_ ?_))))))))
   ·show (B (wrdR r)).size + 1 ≤ _; rw [B_size]; omega
   ·show ((B (wrdR r)) ++ (⟨#[58]⟩ : ByteArray)).size + (B (wrdR q)).size ≤ _
    rw [show (⟨#[58]⟩ : ByteArray) = B [58] from rfl, B_append, B_size, B_size, List.length_append]; simp only [List.length_cons, List.length_nil]; omega
   ·show some (PV.sc (.string ((B (wrdR r) ++ (⟨#[58]⟩ : ByteArray)) ++ B (wrdR q)))) = _
    rw [show (⟨#[58]⟩ : ByteArray) = B [58] from rfl, B_append, B_append]; simp
  | neg m hm hmk =>
   have hc : (negN m).count = m.count + 0 + 1 := rfl
   have e : texN (negN m) = 45 :: texT (wth 6 m) := rfl
   have ew := wth_is (n := m) 6 (by decide)
   rw [e] at hs ⊢
   rw [List.length_cons] at hs
   have hml : (texN m).length ≤ 1000000 := by
    rw [ew] at hs
    split at hs
    ·simp only [List.length_cons, List.length_append] at hs; omega
    ·omega
   have hb6 : (m.kind == 6) = decide (rB m < 6) := by
    rw [Bool.eq_iff_iff, beq_iff_eq, decide_eq_true_iff]
    unfold rB
    by_cases h6 : m.kind = 6
    ·rw [if_pos h6]; have := (sgnO_pos m.op).2; omega
    ·rw [if_neg h6]; omega
   have p := rbrk_ev (rwords_ev N m (by omega) hm hml) hml (m.kind == 6)
   rw [hb6] at p
   have e2 : (if decide (rB m < 6) = true then 40 :: (texN m ++ [41]) else texN m) = texT (wth 6 m) := by
    rw [ew]
    by_cases h6 : rB m < 6
    ·rw [if_pos (decide_eq_true h6), if_pos h6]
    ·rw [if_neg (by rw [decide_eq_true_eq]; exact h6), if_neg h6]
   rw [e2, ← hb6, ← kind_pv] at p
   have c0 : (0 : Int) < ((pvs [m]).length : Int) := by rw [pvs_len]; simp
   refine (f54_eq 0 _ _ _ _ _ _ _ _ _ _ _ _ _ _ _).trans (im (show ¬ ((5 : Int) == 1) = true by decide) (im (show ¬ ((5 : Int) == 2) = true by decide) (im (show ¬ ((5 : Int) == 3) = true by decide) (im (show ¬ ((5 : Int) == 4) = true by decide) (ip rfl (ip c0 (ip (sh_pv m) (ip c0 (ip (sh_pv m) (cb p rfl (ip ?_ ?_)))))))))))
   ·show 1 + (B (texT (wth 6 m))).size ≤ _; rw [B_size]; omega
   ·show some (PV.sc (.string ((⟨#[45]⟩ : ByteArray) ++ B (texT (wth 6 m))))) = _
    rw [show (⟨#[45]⟩ : ByteArray) = B [45] from rfl, B_append]; rfl
  | bin op ho m m' hm hm' hmk =>
   have hc : (binN op m m').count = m.count + (m'.count + 0) + 1 := rfl
   have e : texN (binN op m m') = texT (wth (sgnO op).2 m) ++ ((sgnO op).1 ++ texT (wth ((sgnO op).2 + 1) m')) := by
    unfold texN; rw [tk_bin, texT_app, texT_cons]; rfl
   rw [e] at hs ⊢
   rw [List.length_append, List.length_append] at hs
   have hb5 := (op_tok ho).1
   have hL := rbinds_ev hr
   have eL : rB (binN op m m') = (sgnO op).2 := if_pos rfl
   rw [eL] at hL
   have ew := wth_is (n := m) (sgnO op).2 (by omega)
   have ew' := wth_is (n := m') ((sgnO op).2 + 1) (by omega)
   have hml : (texN m).length ≤ 1000000 := by
    rw [ew] at hs
    split at hs
    ·simp only [List.length_cons, List.length_append] at hs; omega
    ·omega
   have hml' : (texN m').length ≤ 1000000 := by
    rw [ew'] at hs
    split at hs
    ·simp only [List.length_cons, List.length_append] at hs; omega
    ·omega
   have b1 := rbinds_ev hm
   have b2 := rbinds_ev hm'
   rw [← rb_pv] at b1 b2
   have d1 : decide (((rB m : Nat) : Int) < (((sgnO op).2 : Nat) : Int)) = decide (rB m < (sgnO op).2) := decide_eq_decide.2 (by omega)
   have d2 : decide (((rB m' : Nat) : Int) ≤ (((sgnO op).2 : Nat) : Int)) = decide (rB m' < (sgnO op).2 + 1) := decide_eq_decide.2 (by omega)
   have p1 := rbrk_ev (rwords_ev N m (by omega) hm hml) hml (decide (((rB m : Nat) : Int) < (((sgnO op).2 : Nat) : Int)))
   have p2 := rbrk_ev (rwords_ev N m' (by omega) hm' hml') hml' (decide (((rB m' : Nat) : Int) ≤ (((sgnO op).2 : Nat) : Int)))
   have e1 : (if decide (((rB m : Nat) : Int) < (((sgnO op).2 : Nat) : Int)) = true then 40 :: (texN m ++ [41]) else texN m) = texT (wth (sgnO op).2 m) := by
    rw [ew, d1]
    by_cases h6 : rB m < (sgnO op).2
    ·rw [if_pos (decide_eq_true h6), if_pos h6]
    ·rw [if_neg (by rw [decide_eq_true_eq]; exact h6), if_neg h6]
   have e2 : (if decide (((rB m' : Nat) : Int) ≤ (((sgnO op).2 : Nat) : Int)) = true then 40 :: (texN m' ++ [41]) else texN m') = texT (wth ((sgnO op).2 + 1) m') := by
    rw [ew', d2]
    by_cases h6 : rB m' < (sgnO op).2 + 1
    ·rw [if_pos (decide_eq_true h6), if_pos h6]
    ·rw [if_neg (by rw [decide_eq_true_eq]; exact h6), if_neg h6]
   rw [e1] at p1
   rw [e2] at p2
   have c0 : (0 : Int) < ((pvs [m, m']).length : Int) := by rw [pvs_len]; simp
   have c1 : (1 : Int) < ((pvs [m, m']).length : Int) := by rw [pvs_len]; simp
   have hg := rsg_get ho
   have ex : IntKind.i64.wrap ((op : Int) - 1) = ((op - 1 : Nat) : Int) := by rw [w64 (by omega) (by omega)]; omega
   have hsh : hasSh .str (rsg.getD (IntKind.i64.wrap ((op : Int) - 1)).toNat .top) = true := by rw [hg]; rfl
   refine (f54_eq 0 _ _ _ _ _ _ _ _ _ _ _ _ _ _ _).trans (im (show ¬ ((6 : Int) == 1) = true by decide) (im (show ¬ ((6 : Int) == 2) = true by decide) (im (show ¬ ((6 : Int) == 3) = true by decide) (im (show ¬ ((6 : Int) == 4) = true by decide) (im (show ¬ ((6 : Int) == 5) = true by decide) (ip rfl (ip c0 (ip (sh_pv m) (ip c0 (ip (sh_pv m) (cb b1 rfl (cb hL rfl (cb p1 rfl (ip (by rw [ex]; omega) (ip (by rw [ex]; show ((op - 1 : Nat) : Int) < 12; omega) (ip hsh (ip ?_ (ip c1 (ip (sh_pv m') (ip c1 (ip (sh_pv m') (cb b2 rfl (cb hL rfl (cb p2 rfl (ip ?_ ?_)))))))))))))))))))))))))
   ·show (B (texT (wth (sgnO op).2 m))).size + ((rsg.getD (IntKind.i64.wrap ((op : Int) - 1)).toNat .top).toStr).size ≤ _
    rw [hg]
    show (B (texT (wth (sgnO op).2 m))).size + (B (sgnO op).1).size ≤ _
    rw [B_size, B_size]; omega
   ·show (B (texT (wth (sgnO op).2 m)) ++ ((rsg.getD (IntKind.i64.wrap ((op : Int) - 1)).toNat .top).toStr)).size + (B (texT (wth ((sgnO op).2 + 1) m'))).size ≤ _
    rw [hg]
    show (B (texT (wth (sgnO op).2 m)) ++ B (sgnO op).1).size + _ ≤ _
    rw [B_append, B_size, B_size, List.length_append]; omega
   ·show some (PV.sc (.string ((B (texT (wth (sgnO op).2 m)) ++ ((rsg.getD (IntKind.i64.wrap ((op : Int) - 1)).toNat .top).toStr)) ++ B (texT (wth ((sgnO op).2 + 1) m'))))) = _
    rw [hg]
    show some (PV.sc (.string ((B (texT (wth (sgnO op).2 m)) ++ B (sgnO op).1) ++ B (texT (wth ((sgnO op).2 + 1) m'))))) = _
    rw [B_append, B_append, List.append_assoc]
  | call f l hf hl hkl =>
   have hc : (callN f l).count = counts l + 1 := rfl
   have e : texN (callN f l) = ((rowP f).1 ++ [40]) ++ (argsT true l ++ [41]) := by
    unfold texN
    rw [tk_call, texT_cons, texT_cons, texT_app, (argsT_eq l).1]
    show (rowP f).1 ++ ([40] ++ (argsT true l ++ ([41] ++ []))) = _
    simp
   rw [e] at hs ⊢
   rw [List.length_append, List.length_append, List.length_append] at hs
   simp only [List.length_cons, List.length_nil] at hs
   have hlen := fits_le hf
   have hmem : ∀ (l : List Nod) (b : Bool) (x : Nod), x ∈ l → (texN x).length ≤ (argsT b l).length := by
    intro l
    induction l with
    | nil => intro b x hx; cases hx
    | cons y l ih =>
     intro b x hx
     have step : (argsT b (y :: l)).length ≥ (texN y).length + (argsT false l).length := by
      cases b
      ·show (44 :: (texN y ++ argsT false l)).length ≥ _
       rw [List.length_cons, List.length_append]; omega
      ·show (texN y ++ argsT false l).length ≥ _
       rw [List.length_append]; omega
     rcases List.mem_cons.1 hx with rfl | hx
     ·omega
     ·have := ih false x hx; omega
   have p := rargs_l 7 f zV zR zR l (by omega) (fun n hn => rwords_ev N n (by have := count_mem hn; omega) (rights_mem hl hn) (by have := hmem l true n hn; omega)) l.length 0 ((rowP f).1 ++ [40]) (Nat.zero_add _) (by
    rw [List.drop_zero]
    show ((rowP f).1 ++ [40]).length + (argsT true l).length + 1 ≤ _
    rw [List.length_append]; simp only [List.length_cons, List.length_nil]; omega)
   rw [List.drop_zero] at p
   refine (f54_eq 0 _ _ _ _ _ _ _ _ _ _ _ _ _ _ _).trans (im (show ¬ ((7 : Int) == 1) = true by decide) (im (show ¬ ((7 : Int) == 2) = true by decide) (im (show ¬ ((7 : Int) == 3) = true by decide) (im (show ¬ ((7 : Int) == 4) = true by decide) (im (show ¬ ((7 : Int) == 5) = true by decide) (im (show ¬ ((7 : Int) == 6) = true by decide) (cb (rname_ev (fits_rng hf)) rfl (ip ?_ ?_))))))))
   ·show (B (rowP f).1).size + 1 ≤ _; rw [B_size]; omega
   ·show f54.l0a 0 (B (rowP f).1 ++ (⟨#[40]⟩ : ByteArray)) 0 _ _ _ _ _ _ _ _ _ _ _ _ _ _ _ = _
    rw [show (⟨#[40]⟩ : ByteArray) = B [40] from rfl, B_append]
    exact p
end Go.Den.ET
/- The text of any tree and reference is as the document says: the law. -/
set_option linter.unusedVariables false
set_option linter.unusedSimpArgs false
set_option maxRecDepth 100000
namespace Go.Den.ET
open Go Go.Proofs
theorem ctx_ev (n : Nod) (hk : n.ok) (hl : n.rightN = true → (texN n).length ≤ 1000000) : D 22 [n.pv] = some (.sc (.string (B (if n.rightN = true then texN n else [])))) := by
 by_cases hr : n.rightN = true
 ·rw [if_pos hr]
  have h := ctext_ev n hk (hl hr)
  rw [if_pos hr] at h
  exact h
 ·rw [if_neg hr]
  have hre := right_ev n.count n (Nat.le_refl _) hk
  have hf : n.rightN = false := by simpa using hr
  rw [hf] at hre
  obtain ⟨kind, op, v, a, b, l⟩ := n
  exact (f22_eq 0 _ _ _ _ _ _ _ _ _ _ _ _ _ _ _).trans (cb hre rfl (ip rfl rfl))
theorem rtx_ev (n : Nod) (hk : n.ok) (hc : n.count ≤ 1000000) (hs : smallT n) (hl : n.rightN = true → (texN n).length ≤ 1000000) : D 23 [n.pv] = some (.sc (.string (B (if n.rightN = true then texN n else [])))) := by
 have hrr := rright_ev n hk hc hs
 by_cases hr : n.rightN = true
 ·have hw := rwords_ev n.count n (Nat.le_refl _) hr (hl hr)
  rw [hr] at hrr
  rw [if_pos hr]
  obtain ⟨kind, op, v, a, b, l⟩ := n
  exact (f23_eq 0 _ _ _ _ _ _ _ _ _ _ _ _ _ _ _).trans (cb hrr rfl (im (show ¬ (!true) = true by decide) (cb hw rfl rfl)))
 ·rw [if_neg hr]
  have hf : n.rightN = false := by simpa using hr
  rw [hf] at hrr
  obtain ⟨kind, op, v, a, b, l⟩ := n
  exact (f23_eq 0 _ _ _ _ _ _ _ _ _ _ _ _ _ _ _).trans (cb hrr rfl (ip rfl rfl))
theorem yes_eq (s : ByteArray) : some (PV.sc (.bool (s.toList == s.toList))) = some (PV.sc (.bool true)) := by rw [beq_self_eq_true]
theorem canonTells (n : Nod) (hk : n.ok) (hs : smallT n) : D 6 [n.pv] = some (.sc (.bool true)) := by
 have hfew := few_ev n
 have hfew2 : D 20 [n.pv] = some (.sc (.bool (decide (n.count ≤ 200)))) := by
  obtain ⟨kind, op, v, a, b, l⟩ := n
  exact (f20_eq 0 _ _ _ _ _ _ _ _ _ _ _ _ _ _ _).trans (cb hfew rfl rfl)
 by_cases hc : n.count ≤ 200
 ·rw [decide_eq_true hc] at hfew2
  have hlen : n.rightN = true → (texN n).length ≤ 1000000 := fun h => by have := tex_len _ n (Nat.le_refl _) h; omega
  have ht := ctx_ev n hk hlen
  have hx := rtx_ev n hk (by omega) hs hlen
  obtain ⟨kind, op, v, a, b, l⟩ := n
  refine (f6_eq 0 _ _ _ _ _ _ _ _ _ _ _ _ _ _ _).trans (cb hfew2 rfl (im (show ¬ (!true) = true by decide) (cb ht rfl (cb hx rfl ?_))))
  refine ob2 (b := true) (ip (beq_self_eq_true _) (ob2 (b := true) (ob2 (b := true) (cb (cref_ev a) rfl (ob2 (b := true) (ob2 (b := true) (ob2 (b := true) (cb (rcref_ev a) rfl (yes_eq _)) rfl) rfl) rfl)) rfl) rfl)) ?_
  exact ob2 (b := true) (ip rfl (ob2 (b := true) (ob2 (b := true) (cb (cref_ev b) rfl (ob2 (b := true) (ob2 (b := true) (ob2 (b := true) (cb (rcref_ev b) rfl (yes_eq _)) rfl) rfl) rfl)) rfl) rfl)) (ob2 (b := true) (ip rfl al24) rfl)
 ·rw [decide_eq_false hc] at hfew2
  obtain ⟨kind, op, v, a, b, l⟩ := n
  exact (f6_eq 0 _ _ _ _ _ _ _ _ _ _ _ _ _ _ _).trans (cb hfew2 rfl (ip rfl al24))
theorem CanonTells_D (W : World) (vs : List Value) (xs : List PV) (h : Handed Tryz.prog W [29] vs xs) : D 6 xs = some (.sc (.bool true)) := by
 obtain ⟨x0, vs0, xs0, rfl, hx0, h⟩ := handed_cons h
 rw [handed_nil h, agg29]
 obtain ⟨n, en, hn, hs⟩ := (node_of hx0).1 rfl
 rw [en]
 exact canonTells n hn hs
end Go.Den.ET
