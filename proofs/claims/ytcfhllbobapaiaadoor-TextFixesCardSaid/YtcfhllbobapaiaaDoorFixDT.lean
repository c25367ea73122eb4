/- .. as the reference tells it. -/
import Derived.Test.YtcfhllbobapaiaaDoorFixCT
set_option linter.unusedVariables false
set_option linter.unusedSimpArgs false
set_option maxRecDepth 100000
namespace Go.Den.ET
open Go Go.Proofs
def pvE (g : ByteArray × Bool) : PV := .agg [.sc (.string g.1), .sc (.bool g.2)]
theorem bt46 {l : List UInt8} {i : Nat} (h : i < l.length) : ((bt (B l) (i : Int)) == 46) = (l[i] == 46) := by
  rw [B_bt h, Bool.eq_iff_iff, beq_iff_eq, beq_iff_eq]
  constructor
  · intro h2
    have : l[i].toNat = (46 : UInt8).toNat := by have : (46 : UInt8).toNat = 46 := rfl; omega
    exact UInt8.toNat_inj.1 this
  · intro h2; rw [h2]; rfl
theorem scan_l (p : Int) (T : List UInt8) (hT : T.length ≤ 1000) (b : Int) (n : Nat) (hn : n ≤ T.length) (hd : ∀ j (h : j < T.length), j < n → T[j] ≠ 46) : ∀ (m i : Nat), i + m = n →
    f53.l0a 0 p (B T) b (i : Int) E false = f53.l0a 0 p (B T) b (n : Int) E false := by
  intro m
  induction m with
  | zero => intro i he; rw [show i = n by omega]
  | succ m ih =>
    intro i he
    have hi : i < T.length := by omega
    rw [f53.l0a_eq]
    refine ip (by rw [decide_eq_true_eq, B_size]; omega) (ip (by omega) (ip (by rw [B_size]; omega) (im (by rw [bt46 hi]; simpa using hd i hi (by omega)) ?_)))
    rw [nx hi (by omega)]
    exact ih (i + 1) (by omega)
theorem scan_r (p : Int) (T : List UInt8) (hT : T.length ≤ 1000) (b : Int) (n : Nat) (hn : n ≤ T.length) (hd : ∀ j (h : j < T.length), n ≤ j → T[j] ≠ 46) : ∀ (m i : Nat), i + m = T.length → n ≤ i →
    f53.l0a 0 p (B T) b (i : Int) E false = f53.l0a 0 p (B T) b (T.length : Int) E false := by
  intro m
  induction m with
  | zero => intro i he _; rw [show i = T.length by omega]
  | succ m ih =>
    intro i he hni
    have hi : i < T.length := by omega
    conv => lhs; rw [f53.l0a_eq]
    refine ip (by rw [decide_eq_true_eq, B_size]; omega) (ip (by omega) (ip (by rw [B_size]; omega) (im (by rw [bt46 hi]; simpa using hd i hi (by omega)) ?_)))
    rw [nx hi (by omega)]
    exact ih (i + 1) (by omega) (by omega)
theorem pad_l (p : Nat) (hp : p ≤ 4) : ∀ (m b : Nat) (s : List UInt8), b + m = p → s.length ≤ 1000 → f53.l2a 0 (p : Int) (B s) (b : Int) E false = some (pvE (B (s ++ List.replicate (p - b) 48), true)) := by
  intro m
  induction m with
  | zero =>
    intro b s he hs
    rw [f53.l2a_eq, bA]
    refine im (by rw [tb]; simp; omega) ?_
    rw [show p - b = 0 by omega]
    simp [pvE]
  | succ m ih =>
    intro b s he hs
    rw [f53.l2a_eq, bA]
    refine ip (by rw [tb]; simp; omega) (ip (by rw [B_size]; omega) ?_)
    rw [nx (i := b) (n := p) (by omega) (by omega), show (⟨#[48]⟩ : ByteArray) = B [48] from rfl, B_append]
    have h2 : ∀ m' b' (s' : List UInt8), b' + m' = p → s'.length ≤ 1000 + b' → b' ≤ p → f53.l2a 0 (p : Int) (B s') (b' : Int) E false = some (pvE (B (s' ++ List.replicate (p - b') 48), true)) := by
      intro m'
      induction m' with
      | zero =>
        intro b' s' he' hs' _
        rw [f53.l2a_eq, bA]
        refine im (by rw [tb]; simp; omega) ?_
        rw [show p - b' = 0 by omega]
        simp [pvE]
      | succ m' ih' =>
        intro b' s' he' hs' hb'
        rw [f53.l2a_eq, bA]
        refine ip (by rw [tb]; simp; omega) (ip (by rw [B_size]; omega) ?_)
        rw [nx (i := b') (n := p) (by omega) (by omega), show (⟨#[48]⟩ : ByteArray) = B [48] from rfl, B_append, ih' (b' + 1) (s' ++ [48]) (by omega) (by simp; omega) (by omega)]
        rw [show p - b' = (p - (b' + 1)) + 1 by omega, List.replicate_succ, List.append_assoc]
        rfl
    rw [h2 m (b + 1) (s ++ [48]) (by omega) (by simp; omega) (by omega)]
    rw [show p - b = (p - (b + 1)) + 1 by omega, List.replicate_succ, List.append_assoc]
    rfl
theorem fr_dig (y : Int) : ∀ b, b ∈ frL y → b ≠ 46 := fun b hb => (isD_ne (List.all_eq_true.1 (frac_all 4 _ (by omega)) b hb)).1
theorem fixT {y : Int} (hy : May y) (p : Nat) (hp : p ≤ 4) (hf : (frL y).length ≤ p) : f53.l0a 0 (p : Int) (B (texL y)) (-1) 0 E false = some (pvE (B (fixL y p), true)) := by
  have hh : (hdL y).length ≤ 17 := head_len hy
  have hfl : (frL y).length ≤ 4 := by omega
  have htl : (texL y).length ≤ 1000 := by
    rw [tex_hd, List.length_append]
    split <;> simp <;> omega
  have hpre : ∀ j (h : j < (texL y).length), j < (hdL y).length → (texL y)[j] ≠ 46 := by
    intro j h hj
    have : (texL y)[j] = (hdL y)[j] := by
      simp only [tex_hd]
      rw [List.getElem_append_left hj]
    rw [this]
    exact hd_ok y _ (List.getElem_mem hj)
  have hle : (hdL y).length ≤ (texL y).length := by rw [tex_hd, List.length_append]; omega
  rw [show (0 : Int) = ((0 : Nat) : Int) from rfl, scan_l p (texL y) htl (-1) (hdL y).length hle hpre (hdL y).length 0 (by omega)]
  unfold fixL
  by_cases hf0 : frL y = []
  · have ht : texL y = hdL y := by rw [tex_hd, hf0, if_pos rfl, List.append_nil]
    rw [ht, f53.l0a_eq]
    refine im (by rw [decide_eq_true_eq, B_size]; omega) ?_
    rw [bA]
    by_cases hp0 : p = 0
    · subst hp0
      rw [if_pos (show (0 : Nat) = 0 from rfl), List.append_nil]
      refine im (by rw [tb]; decide) ?_
      rw [f53.j1a_eq, f53.l2a_eq, bA]
      exact im (by rw [tb]; decide) rfl
    · rw [if_neg hp0]
      refine ip (by rw [tb]; simp; omega) (ip (by rw [B_size]; omega) ?_)
      rw [show (⟨#[46]⟩ : ByteArray) = B [46] from rfl, B_append, f53.j1a_eq]
      have := pad_l p hp p 0 (hdL y ++ [46]) (by omega) (by simp; omega)
      rw [List.append_assoc] at this
      rw [hf0]
      exact this
  · have ht : texL y = hdL y ++ 46 :: frL y := by rw [tex_hd, if_neg hf0]
    have hfp : 0 < (frL y).length := List.length_pos_iff.2 hf0
    have hi : (hdL y).length < (texL y).length := by rw [ht]; simp
    have hlen : (texL y).length = (hdL y).length + 1 + (frL y).length := by rw [ht]; simp; omega
    have hat : (texL y)[(hdL y).length] = 46 := by simp [ht]
    have hpost : ∀ j (h : j < (texL y).length), (hdL y).length + 1 ≤ j → (texL y)[j] ≠ 46 := by
      intro j h hj
      have : (texL y)[j] = (frL y)[j - ((hdL y).length + 1)]'(by omega) := by
        simp only [ht]
        rw [List.getElem_append_right (by omega), List.getElem_cons, dif_neg (by omega)]
        congr 1
      rw [this]
      exact fr_dig y _ (List.getElem_mem _)
    rw [if_neg (by omega), f53.l0a_eq]
    refine ip (by rw [decide_eq_true_eq, B_size]; omega) (ip (by omega) (ip (by rw [B_size]; omega) (ip (by rw [bt46 hi, hat]; rfl) ?_)))
    have hb : IntKind.i64.wrap (IntKind.i64.wrap (((B (texL y)).size : Int) - ((hdL y).length : Int)) - 1) = ((frL y).length : Int) := by
      rw [B_size, w64 (x := ((texL y).length : Int) - ((hdL y).length : Int)) (by omega) (by omega), w64 (by omega) (by omega)]; omega
    rw [hb, nx hi (by omega), scan_r p (texL y) htl _ ((hdL y).length + 1) (by omega) hpost ((texL y).length - ((hdL y).length + 1)) ((hdL y).length + 1) (by omega) (Nat.le_refl _), f53.l0a_eq]
    refine im (by rw [decide_eq_true_eq, B_size]; omega) ?_
    rw [bA]
    refine im (by rw [tb]; simp; omega) ?_
    rw [f53.j1a_eq]
    have := pad_l p hp (p - (frL y).length) (frL y).length (texL y) (by omega) htl
    rw [ht] at this
    rw [List.append_assoc, List.cons_append] at this
    rw [ht]
    exact this
theorem rfixed_ev {x p : Int} (hx : I64 x) : D 53 [.sc (.int .i64 x), .sc (.int .i64 p)] = some (pvE (fixG x p)) := by
  by_cases hpr : 0 ≤ p ∧ p ≤ 4
  · obtain ⟨h0, h1⟩ := hpr
    by_cases hm : May x
    · rw [f53_eq 0, bO]
      refine im (by rw [tb]; simp; omega) (cb (rplaces_ev hm h0 h1) rfl ?_)
      unfold fixG
      have hro := rnd_ok hm (stp_c h0 h1).1
      have q0 : ∀ g, (cel 0 (pvGa g).cells).toInt = g.1 := fun _ => rfl
      have q1 : ∀ g, (cel 1 (pvGa g).cells).toBool = g.2 := fun _ => rfl
      simp only [q0, q1]
      by_cases hr : (rnd x (stp p)).2 = true
      · obtain ⟨hy, hyz⟩ := hro hr
        rw [if_pos (show 0 ≤ p ∧ p ≤ 4 ∧ May x ∧ (rnd x (stp p)).2 = true from ⟨h0, h1, hm, hr⟩)]
        refine im (by rw [hr]; decide) (cb (rtext_ev hy.i) rfl ?_)
        have ht : texS (rnd x (stp p)).1 = texL (rnd x (stp p)).1 := if_pos hy
        have hf := fr_len h0 h1 hyz
        rw [ts, ht]
        obtain ⟨n, rfl⟩ := Int.eq_ofNat_of_zero_le h0
        rw [Int.toNat_natCast] at hf ⊢
        exact fixT hy n (by omega) hf
      · rw [if_neg (show ¬ (0 ≤ p ∧ p ≤ 4 ∧ May x ∧ (rnd x (stp p)).2 = true) from fun hh => hr hh.2.2.2)]
        exact ip (by simpa using hr) rfl
    · have hxe : x = -9223372036854775808 := by unfold I64 at hx; unfold May at hm; omega
      subst hxe
      have e : fixG (-9223372036854775808) p = (E, false) := if_neg fun hh => hm hh.2.2.1
      rw [e]
      have : p = 0 ∨ p = 1 ∨ p = 2 ∨ p = 3 ∨ p = 4 := by omega
      rcases this with rfl | rfl | rfl | rfl | rfl <;> exact denI_of (k := 40) (by kernel_rfl)
  · rw [f53_eq 0, bO]
    have e : fixG x p = (E, false) := if_neg fun hh => hpr ⟨hh.1, hh.2.1⟩
    rw [e]
    exact ip (by rw [tb]; simp; omega) rfl
end Go.Den.ET
