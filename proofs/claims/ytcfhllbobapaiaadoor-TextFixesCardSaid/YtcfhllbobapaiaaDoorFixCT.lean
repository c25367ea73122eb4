/- A decimal with so many digits behind the point. -/
import Derived.Test.YtcfhllbobapaiaaDoorFixBT
set_option linter.unusedVariables false
set_option linter.unusedSimpArgs false
set_option maxRecDepth 100000
namespace Go.Den.ET
open Go Go.Proofs
theorem frac_short : ∀ (d p r : Nat), p ≤ 4 → r < 10000 → r % 10 ^ (4 - p) = 0 → (fracL d r).length ≤ p
  | 0, p, r, _, _, _ => by rw [fracL]; exact Nat.zero_le _
  | d + 1, p, r, hp, hr, hm => by
    rw [fracL]
    by_cases h0 : r = 0
    · rw [if_pos h0]; exact Nat.zero_le _
    · rw [if_neg h0, List.length_cons]
      have hc : p = 0 ∨ p = 1 ∨ p = 2 ∨ p = 3 ∨ p = 4 := by omega
      rcases hc with rfl | rfl | rfl | rfl | rfl
      · simp at hm; omega
      · have := frac_short d 0 (r % 1000 * 10) (by omega) (by omega) (by simp at hm ⊢; omega); omega
      · have := frac_short d 1 (r % 1000 * 10) (by omega) (by omega) (by simp at hm ⊢; omega); omega
      · have := frac_short d 2 (r % 1000 * 10) (by omega) (by omega) (by simp at hm ⊢; omega); omega
      · have := frac_short d 3 (r % 1000 * 10) (by omega) (by omega) (by simp at hm ⊢ <;> omega); omega
def hdL (y : Int) : List UInt8 := (if y < 0 then [45] else []) ++ Lib.decDigits (y.natAbs / 10000)
def frL (y : Int) : List UInt8 := fracL 4 (y.natAbs % 10000)
theorem tex_hd (y : Int) : texL y = hdL y ++ (if frL y = [] then [] else 46 :: frL y) := by
  rw [tex_str]
  unfold strD hdL frL
  rw [List.append_assoc]
theorem hd_ok (y : Int) : ∀ b, b ∈ hdL y → b ≠ 46 := by
  intro b hb
  unfold hdL at hb
  rcases List.mem_append.1 hb with h | h
  · split at h
    · have : b = 45 := by simpa using h
      subst this; decide
    · cases h
  · exact (isD_ne (List.all_eq_true.1 (dd_all _) b h)).1
theorem cut_hd : ∀ (h f : List UInt8), (∀ b, b ∈ h → b ≠ 46) → cutL (h ++ (if f = [] then [] else 46 :: f)) = (h, f, f != [])
  | [], f, _ => by
    by_cases hf : f = []
    · subst hf; rfl
    · rw [if_neg hf, List.nil_append, cutL, if_pos rfl, show (f != []) = true by simpa using hf]
  | b :: h, f, hb => by
    rw [List.cons_append, cutL, if_neg (hb b List.mem_cons_self), cut_hd h f fun c hc => hb c (List.mem_cons_of_mem _ hc)]
theorem cut_tex (y : Int) : cutL (texL y) = (hdL y, frL y, frL y != []) := by
  rw [tex_hd]; exact cut_hd _ _ (hd_ok y)
theorem fr_len {y p : Int} (h0 : 0 ≤ p) (h1 : p ≤ 4) (hm : y % stp p = 0) : (frL y).length ≤ p.toNat := by
  unfold frL
  refine frac_short 4 p.toNat _ (by omega) (by omega) ?_
  have : p = 0 ∨ p = 1 ∨ p = 2 ∨ p = 3 ∨ p = 4 := by omega
  rcases this with rfl | rfl | rfl | rfl | rfl
  · have e : stp 0 = 10000 := rfl
    rw [e] at hm
    simp; omega
  · have e : stp 1 = 1000 := rfl
    rw [e] at hm
    simp; omega
  · have e : stp 2 = 100 := rfl
    rw [e] at hm
    simp; omega
  · have e : stp 3 = 10 := rfl
    rw [e] at hm
    simp; omega
  · simp; omega
/-- The text. -/
def fixL (y : Int) (p : Nat) : List UInt8 := hdL y ++ (if p = 0 then [] else 46 :: (frL y ++ List.replicate (p - (frL y).length) 48))
theorem rnd_ok {x st : Int} (hx : May x) (h0 : 0 < st) (h : (rnd x st).2 = true) : May (rnd x st).1 ∧ (rnd x st).1 % st = 0 := by
  unfold rnd at h ⊢
  by_cases hz : x % st = 0
  · rw [if_pos hz]; exact ⟨hx, hz⟩
  · rw [if_neg hz] at h ⊢
    generalize (if upR x st = true then x / st + 1 else x / st) = q at *
    unfold mulS at h ⊢
    by_cases hc : May q ∧ May st ∧ May (q * st)
    · rw [if_pos hc]
      exact ⟨hc.2.2, Int.mul_emod_left _ _⟩
    · rw [if_neg hc] at h; cases h
def fixG (x p : Int) : ByteArray × Bool := if 0 ≤ p ∧ p ≤ 4 ∧ May x ∧ (rnd x (stp p)).2 = true then (B (fixL (rnd x (stp p)).1 p.toNat), true) else (E, false)
def pvF (g : ByteArray × Bool) : PV := .tup [.sc (.string g.1), .sc (.bool g.2)]
theorem rep48 : ∀ n : Nat, Lib.repeatL [48] n = List.replicate n 48
  | 0 => rfl
  | n + 1 => by rw [Lib.repeatL, rep48 n]; rfl
theorem repeat0_ev (n : Nat) (hn : n ≤ 1000) : D 110 [.sc (.string (⟨#[48]⟩ : ByteArray)), .sc (.int .i64 (n : Int))] = some (.sc (.string (B (List.replicate n 48)))) := by
  have e : D 110 [.sc (.string (⟨#[48]⟩ : ByteArray)), .sc (.int .i64 (n : Int))] = xRepeat [.sc (.string (⟨#[48]⟩ : ByteArray)), .sc (.int .i64 (n : Int))] := (denI_eq 0 _ _).trans (by kernel_rfl)
  rw [e]
  refine (if_pos ⟨by omega, by omega, by show 1 * (n : Int).toNat ≤ _; omega⟩).trans ?_
  rw [Int.toNat_natCast]
  show some (PV.sc (.string (B (Lib.repeatL [48] n)))) = _
  rw [rep48]
theorem fixed_ev {x p : Int} (hx : I64 x) : D 52 [.sc (.int .i64 x), .sc (.int .i64 p)] = some (pvF (fixG x p)) := by
  rw [f52_eq 0]
  simp only [may_ev hx, bs, shb, if_true, tb, bO]
  unfold fixG
  by_cases h : 0 ≤ p ∧ p ≤ 4 ∧ May x
  · obtain ⟨h0, h1, hm⟩ := h
    refine im (by simp [hm]; omega) (cb (places_ev hm h0 h1) rfl ?_)
    simp only [pvG_0, pvG_1]
    have hro := rnd_ok hm (stp_c h0 h1).1
    by_cases hr : (rnd x (stp p)).2 = true
    · obtain ⟨hy, hyz⟩ := hro hr
      rw [if_pos ⟨h0, h1, hm, hr⟩]
      refine im (by rw [hr]; decide) (cb (text_ev hy.i) rfl ?_)
      have ht : texS (rnd x (stp p)).1 = texL (rnd x (stp p)).1 := if_pos hy
      have hf := fr_len h0 h1 hyz
      generalize (rnd x (stp p)).1 = y at *
      rw [ht]
      have hh := head_len hy
      have hlen : (texL y).length ≤ 1000 := by
        rw [tex_hd, List.length_append]
        have : (hdL y).length ≤ 17 := hh
        split <;> simp <;> omega
      refine cb (cut_ev (by omega)) rfl ?_
      rw [cut_tex]
      have hh : (hdL y).length ≤ 17 := hh
      unfold fixL
      by_cases hp : p = 0
      · subst hp
        refine ip (by decide) ?_
        rw [if_pos (show Int.toNat 0 = 0 from rfl), List.append_nil]; rfl
      · obtain ⟨n, rfl⟩ := Int.eq_ofNat_of_zero_le h0
        rw [Int.toNat_natCast] at hf ⊢
        have hn0 : n ≠ 0 := fun e => hp (by rw [e]; rfl)
        rw [if_neg hn0]
        have hw : IntKind.i64.wrap ((n : Int) - ((B (frL y)).size : Int)) = ((n - (frL y).length : Nat) : Int) := by rw [B_size, w64 (by omega) (by omega)]; omega
        refine im (by simpa using hp) (ip (by show (B (hdL y)).size + 1 ≤ _; rw [B_size]; omega) (ip ?_ ?_))
        · show ((B (hdL y)) ++ B [46]).size + (B (frL y)).size ≤ _
          rw [B_append, B_size, B_size]; simp; omega
        · show ((D 110 [.sc (.string (⟨#[48]⟩ : ByteArray)), .sc (.int .i64 (IntKind.i64.wrap ((n : Int) - ((B (frL y)).size : Int))))]).bind fun r8 => if hasSh .str r8 = true then
              if (((B (hdL y)) ++ B [46]) ++ (B (frL y))).size + r8.toStr.size ≤ 9223372036854775807 then
                some (PV.tup [.sc (.string ((((B (hdL y)) ++ B [46]) ++ (B (frL y))) ++ r8.toStr)), .sc (.bool true)])
              else none else none) = _
          rw [hw]
          refine cb (repeat0_ev _ (by omega)) rfl (ip ?_ ?_)
          · rw [ts, B_append, B_append, B_size, B_size]; simp; omega
          · rw [ts, B_append, B_append, B_append]
            simp [pvF]
    · rw [if_neg fun hh => hr hh.2.2.2]
      exact ip (by simpa using hr) rfl
  · rw [if_neg fun hh => h ⟨hh.1, hh.2.1, hh.2.2.1⟩]
    refine ip ?_ rfl
    simp only [Bool.or_eq_true, decide_eq_true_eq, Bool.not_eq_true', decide_eq_false_iff_not]
    by_cases hm : May x
    · by_cases h0 : p < 0
      · exact .inl (.inl h0)
      · exact .inl (.inr (by
          by_cases h1 : p > 4
          · exact h1
          · exact absurd ⟨by omega, by omega, hm⟩ h))
    · exact .inr hm
end Go.Den.ET
