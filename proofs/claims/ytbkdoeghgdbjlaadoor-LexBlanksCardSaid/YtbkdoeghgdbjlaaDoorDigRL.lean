/- Decimals as texts: which decimal a text means. -/
import Derived.Test.YtbkdoeghgdbjlaaDoorDigTL
set_option linter.unusedVariables false
set_option linter.unusedSimpArgs false
set_option maxRecDepth 100000
namespace Go.Den.EL
open Go Go.Proofs
theorem w64h {x : Int} (h0 : 9223372036854775807 < x) (h1 : x ≤ 18446744073709551615) : IntKind.i64.wrap x = x - 18446744073709551616 := by
  simp [IntKind.wrap, IntKind.bits, IntKind.signed]; omega
theorem w64l {x : Int} (h0 : -18446744073709551616 ≤ x) (h1 : x < -9223372036854775808) : IntKind.i64.wrap x = x + 18446744073709551616 := by
  simp [IntKind.wrap, IntKind.bits, IntKind.signed]; omega
theorem add_ev {a b : Int} (ha : I64 a) (hb : I64 b) : D 84 [.sc (.int .i64 a), .sc (.int .i64 b)] = some (pvG (addS a b)) := by
  have hw : I64 (IntKind.i64.wrap (a + b)) := by
    unfold I64 at ha hb ⊢
    by_cases h1 : 9223372036854775807 < a + b
    · rw [w64h h1 (by omega)]; omega
    · by_cases h2 : a + b < -9223372036854775808
      · rw [w64l (by omega) h2]; omega
      · rw [w64 (by omega) (by omega)]; omega
  rw [f84_eq 0]
  simp only [may_ev ha, may_ev hb, may_ev hw, bs, shb, if_true, tb, bA, bO]
  unfold I64 at ha hb
  unfold addS
  by_cases h1 : 9223372036854775807 < a + b
  · rw [if_neg (by unfold May; omega)]
    refine ip ?_ rfl
    rw [w64h h1 (by omega)]
    simp only [Bool.or_eq_true, Bool.not_eq_true', Bool.and_eq_true, decide_eq_true_eq, decide_eq_false_iff_not]
    simp only [May]
    omega
  · by_cases h2 : a + b < -9223372036854775808
    · rw [if_neg (by unfold May; omega)]
      refine ip ?_ rfl
      rw [w64l (by omega) h2]
      simp only [Bool.or_eq_true, Bool.not_eq_true', Bool.and_eq_true, decide_eq_true_eq, decide_eq_false_iff_not]
      simp only [May]
      omega
    · simp only [w64 (x := a + b) (by omega) (by omega)]
      by_cases h3 : May a ∧ May b ∧ May (a + b)
      · rw [if_pos h3]
        refine im ?_ rfl
        simp only [Bool.or_eq_true, Bool.not_eq_true', Bool.and_eq_true, decide_eq_true_eq, decide_eq_false_iff_not] at h3 ⊢
        simp only [May] at h3 ⊢
        omega
      · rw [if_neg h3]
        refine ip ?_ rfl
        simp only [Bool.or_eq_true, Bool.not_eq_true', Bool.and_eq_true, decide_eq_true_eq, decide_eq_false_iff_not] at h3 ⊢
        simp only [May] at h3 ⊢
        omega
theorem neg_ev {a : Int} (ha : I64 a) : D 86 [.sc (.int .i64 a)] = some (pvG (negS a)) := by
  rw [f86_eq 0]
  refine cb (may_ev ha) rfl ?_
  simp only [tb]
  unfold negS
  by_cases h : May a
  · rw [if_pos h, decide_eq_true h]
    refine im (by decide) ?_
    unfold May at h
    rw [w64 (by omega) (by omega), Int.zero_sub]
    rfl
  · rw [if_neg h, decide_eq_false h]
    exact ip (by decide) rfl
theorem size_ev {x : Int} (h0 : 0 ≤ x) (h1 : x ≤ 9223372036854775807) : D 99 [.sc (.int .i64 x)] = some (.sc (.int .u64 x)) := by
  rw [f99_eq 0]
  refine im (by rw [decide_eq_true_eq]; omega) ?_
  rw [u64i h0 (by omega)]
theorem sign_ev {x : Int} (h0 : 0 ≤ x) : D 102 [.sc (.int .i64 x)] = some (.sc (.int .i64 (if x = 0 then 0 else 1))) := by
  rw [f102_eq 0]
  refine im (by rw [decide_eq_true_eq]; omega) ?_
  by_cases h : x = 0
  · rw [if_pos h]; exact im (by rw [decide_eq_true_eq]; omega) rfl
  · rw [if_neg h]; exact ip (by rw [decide_eq_true_eq]; omega) rfl
def pvU (a b : Int) : PV := .tup [.sc (.int .u64 a), .sc (.int .u64 b)]
theorem mul64_ev (a b : Int) (ha0 : 0 ≤ a) (ha : a < 18446744073709551616) (hb0 : 0 ≤ b) (hb : b < 18446744073709551616) :
    D 100 [.sc (.int .u64 a), .sc (.int .u64 b)] = some (pvU (a * b / 18446744073709551616) (a * b % 18446744073709551616)) := by
  obtain ⟨p11, p10, p01, p00, e11, e10, e01, e00, h11, h10, h01, h00, e⟩ := mul64_math ha0 ha hb0 hb
  rw [f100_eq 0]
  have ea : a.fdiv 4294967296 = a / 4294967296 := Int.fdiv_eq_ediv_of_nonneg _ (by decide)
  have eb : b.fdiv 4294967296 = b / 4294967296 := Int.fdiv_eq_ediv_of_nonneg _ (by decide)
  rw [and32 ha0 ha, and32 hb0 hb, ea, eb, ← e11, ← e10, ← e01, ← e00, u64i (x := p11) (by omega) (by omega), u64i (x := p10) (by omega) (by omega), u64i (x := p01) (by omega) (by omega), u64i (x := p00) (by omega) (by omega)]
  have e0 : p00.fdiv 4294967296 = p00 / 4294967296 := Int.fdiv_eq_ediv_of_nonneg _ (by decide)
  rw [e0, u64i (x := p10 + p00 / 4294967296) (by omega) (by omega), and32 (by omega) (by omega), u64w (a * b)]
  rw [u64i (x := (p10 + p00 / 4294967296) % 4294967296 + p01) (by omega) (by omega)]
  have e1 : (p10 + p00 / 4294967296).fdiv 4294967296 = (p10 + p00 / 4294967296) / 4294967296 := Int.fdiv_eq_ediv_of_nonneg _ (by decide)
  have e2 : ((p10 + p00 / 4294967296) % 4294967296 + p01).fdiv 4294967296 = ((p10 + p00 / 4294967296) % 4294967296 + p01) / 4294967296 := Int.fdiv_eq_ediv_of_nonneg _ (by decide)
  rw [e1, e2, u64w, u64w]
  unfold pvU
  congr 6
  omega
theorem div64_ev {lo : Int} (h0 : 0 ≤ lo) (h1 : lo < 18446744073709551616) : D 101 [.sc (.int .u64 0), .sc (.int .u64 lo), .sc (.int .u64 1)] = some (pvU lo 0) := by
  rw [f101_eq 0]
  refine im (by decide) ?_
  rw [f101.j0a_eq]
  refine im (by decide) ?_
  rw [f101.j1a_eq]
  refine ip (by decide) (ip (by decide) (ip (by decide) ?_))
  rw [Int.tdiv_one, Int.tmod_one, u64i h0 h1]
  rfl
theorem scaled_ev {a b : Int} (ha0 : 0 ≤ a) (ha : a ≤ 9223372036854775807) (hb0 : 0 < b) (hb : b ≤ 9223372036854775807) : D 83 [.sc (.int .i64 a), .sc (.int .i64 b), .sc (.int .i64 1)] = some (pvG (mulS a b)) := by
  have ma : May a := by unfold May; omega
  have mb : May b := by unfold May; omega
  have m1 : May 1 := by decide
  rw [f83_eq 0]
  simp only [may_ev (show I64 a by unfold I64; omega), may_ev (show I64 b by unfold I64; omega), may_ev (show I64 1 by unfold I64; omega), decide_eq_true ma, decide_eq_true mb, decide_eq_true m1, bs, shb, if_true, tb, bA, bO]
  refine im (by decide) (cb (size_ev (by decide) (by decide)) rfl (cb (size_ev ha0 ha) rfl (cb (size_ev (by omega) hb) rfl ?_)))
  simp only [ti]
  refine cb (mul64_ev a b ha0 (by omega) (by omega) (by omega)) rfl ?_
  show (if decide (a * b / 18446744073709551616 ≥ 1) = true then _ else _) = _
  have hp : 0 ≤ a * b := Int.mul_nonneg ha0 (by omega)
  have hq : a * b / 18446744073709551616 ≥ 0 := Int.ediv_nonneg hp (by decide)
  by_cases ho : a * b / 18446744073709551616 ≥ 1
  · refine ip (decide_eq_true ho) ?_
    rw [mulS_no (by unfold May; omega)]; rfl
  · refine im (by rw [decide_eq_true_eq]; exact ho) ?_
    have e0 : a * b / 18446744073709551616 = 0 := by omega
    have e1 : a * b % 18446744073709551616 = a * b := by omega
    rw [e0, e1]
    have hd := div64_ev (lo := a * b) hp (by omega)
    refine cb (x := pvU (a * b) 0) hd rfl ?_
    show (if decide ((0 : Int) ≥ IntKind.u64.wrap (1 - 0)) = true then _ else _) = _
    refine im (by decide) ?_
    show f83.j0a 0 a b 1 (a * b) = _
    rw [f83.j0a_eq]
    by_cases hm : a * b > 9223372036854775807
    · refine ip (decide_eq_true hm) ?_
      rw [mulS_no (by unfold May; omega)]; rfl
    · refine im (by rw [decide_eq_true_eq]; exact hm) (cb (sign_ev ha0) rfl (cb (sign_ev (by omega)) rfl (cb (sign_ev (by decide)) rfl ?_)))
      rw [mulS_yes ⟨ma, mb, by unfold May; omega⟩, w64 (x := a * b) (by omega) (by omega)]
      have hb1 : ¬ b = 0 := by omega
      by_cases hz : a = 0
      · simp only [ti, if_pos hz, if_neg hb1]
        exact im (by decide) rfl
      · simp only [ti, if_neg hz, if_neg hb1]
        exact im (by decide) rfl
theorem of_ev {x : Int} (h0 : 0 ≤ x) (h1 : x ≤ 9223372036854775807) : D 85 [.sc (.int .i64 x)] = some (pvG (mulS x 10000)) := by
  rw [f85_eq 0]
  exact cb (scaled_ev h0 h1 (by decide) (by decide)) rfl rfl
theorem number_l {w : List UInt8} (hw : w.length ≤ 1000000) (d : Nat) : ∀ (i n : Nat), i + d = w.length → (n : Int) ≤ 9223372036854775807 →
    f59.l0a 0 (B w) (n : Int) (w.length : Int) (i : Int) = some (pvG (if (w.drop i).all isD = true ∧ (valL (w.drop i) n : Int) ≤ 9223372036854775807 then ((valL (w.drop i) n : Int), w != []) else (0, false))) := by
  induction d with
  | zero =>
    intro i n h hn
    rw [f59.l0a_eq]
    refine im (by rw [decide_eq_true_eq]; omega) ?_
    rw [List.drop_eq_nil_of_le (by omega), if_pos ⟨rfl, hn⟩, B_toList, show (⟨#[]⟩ : ByteArray).toList = [] from B_toList []]
    rfl
  | succ d ih =>
    intro i n h hn
    have hi : i < w.length := by omega
    rw [f59.l0a_eq]
    have c1 : (0 : Int) ≤ (i : Int) := by omega
    have c2 : (i : Int) < ((B w).size : Int) := by rw [B_size]; omega
    refine ip (by rw [decide_eq_true_eq]; omega) (ip c1 (ip c2 ?_))
    simp only [if_pos c1, if_pos c2, bs, tb, bO]
    have eb : bt (B w) (i : Int) = (w[i].toNat : Int) := B_bt hi
    rw [List.drop_eq_getElem_cons hi, List.all_cons, valL]
    simp only [eb]
    generalize hb : w[i] = b
    by_cases hd : isD b = true
    · have hd2 : 48 ≤ b.toNat ∧ b.toNat ≤ 57 := by unfold isD at hd; simpa using hd
      refine im (by rw [Bool.or_eq_true, decide_eq_true_eq, decide_eq_true_eq]; omega) ?_
      rw [hd, Bool.true_and]
      refine cb (scaled_ev (by omega) hn (by decide) (by decide)) rfl ?_
      have e8 : IntKind.i64.wrap (IntKind.u8.wrap ((b.toNat : Int) - 48)) = ((b.toNat - 48 : Nat) : Int) := by
        have : IntKind.u8.wrap ((b.toNat : Int) - 48) = ((b.toNat - 48 : Nat) : Int) := by
          simp [IntKind.wrap, IntKind.bits, IntKind.signed]; omega
        rw [this, w64 (by omega) (by omega)]
      rw [e8]
      have hge := valL_ge (w.drop (i + 1)) (n * 10 + (b.toNat - 48))
      have hd9 : b.toNat - 48 ≤ 9 := by omega
      generalize b.toNat - 48 = c at *
      have ei : IntKind.i64.wrap ((i : Int) + 1) = ((i + 1 : Nat) : Int) := by rw [w64 (by omega) (by omega)]; rfl
      rw [ei]
      have bad : ∀ g : Int × Bool, D 84 [.sc (.int .i64 ((cel 0 (pvG (mulS (n : Int) 10)).parts).toInt)), .sc (.int .i64 (c : Int))] = some (pvG g) → ((!(mulS (n : Int) 10).2) || (!g.2)) = true → ((D 84 [.sc (.int .i64 ((cel 0 (pvG (mulS (n : Int) 10)).parts).toInt)), .sc (.int .i64 (c : Int))]).bind fun r5 => if hasSh (.tup [(.int .i64), .bool]) r5 = true then
              if ((!((cel 1 (pvG (mulS (n : Int) 10)).parts).toBool)) || (!((cel 1 r5.parts).toBool))) = true then
                some (.tup [.sc (.int .i64 0), .sc (.bool false)])
              else
                f59.l0a 0 (B w) ((cel 0 r5.parts).toInt) (w.length : Int) ((i + 1 : Nat) : Int)
              else none) = some (pvG (0, false)) := by
        intro g hg hbad
        refine cb hg rfl ?_
        simp only [pvG_0, pvG_1, tb]
        exact ip hbad rfl
      by_cases h3 : (n : Int) * 10 ≤ 9223372036854775807
      · have em : mulS (n : Int) 10 = ((n : Int) * 10, true) := mulS_yes (a := (n : Int)) (b := 10) ⟨by unfold May; omega, by decide, by unfold May; omega⟩
        by_cases h4 : (n : Int) * 10 + (c : Int) ≤ 9223372036854775807
        · rw [em]
          refine cb (add_ev (by show I64 ((n : Int) * 10); unfold I64; omega) (by unfold I64; omega)) rfl ?_
          simp only [pvG_0, pvG_1, tb]
          have ea := addS_yes (a := (n : Int) * 10) (b := (c : Int)) ⟨by unfold May; omega, by unfold May; omega, by unfold May; omega⟩
          refine im (by rw [ea]; simp) ?_
          rw [ea]
          have := ih (i + 1) (n * 10 + c) (by omega) (by omega)
          rw [show ((n * 10 + c : Nat) : Int) = (n : Int) * 10 + (c : Int) by omega] at this
          exact this
        · rw [if_neg (fun hh => by omega)]
          refine bad _ (add_ev (by rw [pvG_0, em]; show I64 ((n : Int) * 10); unfold I64; omega) (by unfold I64; omega)) ?_
          rw [pvG_0, em, addS_no (by unfold May; omega)]; rfl
      · have em : mulS (n : Int) 10 = (0, false) := mulS_no (by unfold May; omega)
        rw [if_neg (fun hh => by omega)]
        refine bad _ (add_ev (by rw [pvG_0, em]; show I64 0; unfold I64; omega) (by unfold I64; omega)) ?_
        rw [em]; rfl
    · have hd2 : ¬ (48 ≤ b.toNat ∧ b.toNat ≤ 57) := by unfold isD at hd; simpa using hd
      refine ip (by rw [Bool.or_eq_true, decide_eq_true_eq, decide_eq_true_eq]; omega) ?_
      rw [if_neg (by rw [Bool.and_eq_true]; exact fun hh => hd hh.1.1)]
      rfl
theorem number_ev {w : List UInt8} (hw : w.length ≤ 1000000) : D 59 [.sc (.string (B w))] = some (pvG (numS w)) := by
  rw [f59_eq 0]
  have := number_l hw w.length 0 0 (Nat.zero_add _) (by decide)
  rw [List.drop_zero] at this
  rw [B_size]
  have e : numS w = (if w.all isD = true ∧ (valL w 0 : Int) ≤ 9223372036854775807 then ((valL w 0 : Int), w != []) else (0, false)) := by
    unfold numS
    by_cases h0 : w = []
    · subst h0; rfl
    · by_cases h1 : w.all isD = true ∧ (valL w 0 : Int) ≤ 9223372036854775807
      · rw [if_pos ⟨h0, h1⟩, if_pos h1, show (w != []) = true by simpa using h0]
      · rw [if_neg (fun hh => h1 hh.2), if_neg h1]
  rw [e]
  exact this
def putS (x y : Nat) (m : Bool) : Int × Bool := if ((x * 10000 + y : Nat) : Int) ≤ 9223372036854775807 then (if m = true then -((x * 10000 + y : Nat) : Int) else ((x * 10000 + y : Nat) : Int), true) else (0, false)
theorem put_ev {x y : Nat} (hx : (x : Int) ≤ 9223372036854775807) (hy : (y : Int) ≤ 9223372036854775807) (m : Bool) : D 60 [.sc (.int .i64 (x : Int)), .sc (.int .i64 (y : Int)), .sc (.bool m)] = some (pvG (putS x y m)) := by
  rw [f60_eq 0]
  refine cb (of_ev (by omega) hx) rfl ?_
  unfold putS
  by_cases h1 : (x : Int) * 10000 ≤ 9223372036854775807
  · have em : mulS (x : Int) 10000 = ((x : Int) * 10000, true) := mulS_yes (a := (x : Int)) (b := 10000) ⟨by unfold May; omega, by decide, by unfold May; omega⟩
    rw [em]
    refine cb (add_ev (by show I64 ((x : Int) * 10000); unfold I64; omega) (by unfold I64; omega)) rfl ?_
    simp only [bO]
    simp only [pvG_0, pvG_1, tb]
    by_cases h2 : ((x * 10000 + y : Nat) : Int) ≤ 9223372036854775807
    · have ea := addS_yes (a := (x : Int) * 10000) (b := (y : Int)) ⟨by unfold May; omega, by unfold May; omega, by unfold May; omega⟩
      rw [if_pos h2]
      refine im (by rw [ea]; simp) ?_
      rw [ea]
      rw [show (x : Int) * 10000 + (y : Int) = ((x * 10000 + y : Nat) : Int) by omega]
      cases m
      · exact im (by decide) rfl
      · refine ip rfl (cb (neg_ev (by unfold I64; omega)) rfl ?_)
        rw [show negS ((x * 10000 + y : Nat) : Int) = (-((x * 10000 + y : Nat) : Int), true) from if_pos (by unfold May; omega)]
        rfl
    · rw [if_neg h2]
      exact ip (by rw [addS_no (by unfold May; omega)]; decide) rfl
  · have em : mulS (x : Int) 10000 = (0, false) := mulS_no (by unfold May; omega)
    rw [em, if_neg (by omega)]
    refine cb (add_ev (by show I64 0; unfold I64; omega) (by unfold I64; omega)) rfl ?_
    simp only [bO]
    simp only [pvG_0, pvG_1, tb]
    exact ip (by simp) rfl
theorem read_l {x y : Nat} {m : Bool} (hx : (x : Int) ≤ 9223372036854775807) {e : Nat} (he : e ≤ 4) (hy : y * 10 ^ e ≤ 1000000) (d : Nat) : ∀ i : Nat, i + d = e →
    f40.l0a 0 m (x : Int) ((y * 10 ^ i : Nat) : Int) (e : Int) (i : Int) = some (pvG (putS x (y * 10 ^ e) m)) := by
  induction d with
  | zero =>
    intro i h
    obtain rfl : i = e := by omega
    rw [f40.l0a_eq]
    refine im (by rw [decide_eq_true_eq]; omega) ?_
    exact cb (put_ev hx (by omega) m) rfl rfl
  | succ d ih =>
    intro i h
    have hle : y * 10 ^ (i + 1) ≤ y * 10 ^ e := Nat.mul_le_mul_left _ (Nat.pow_le_pow_right (by decide) (by omega))
    have e1 : IntKind.i64.wrap (((y * 10 ^ i : Nat) : Int) * 10) = ((y * 10 ^ (i + 1) : Nat) : Int) := by
      have h2 : y * 10 ^ (i + 1) = y * 10 ^ i * 10 := by rw [pow_next, Nat.mul_assoc]
      generalize y * 10 ^ (i + 1) = q at *
      generalize y * 10 ^ i = p at *
      generalize y * 10 ^ e = z at *
      subst h2
      rw [w64 (by omega) (by omega)]
      omega
    rw [f40.l0a_eq]
    refine ip (by rw [decide_eq_true_eq]; omega) ?_
    rw [e1, w64 (x := (i : Int) + 1) (by omega) (by omega)]
    exact ih (i + 1) (by omega)
theorem cutp_ev (l : List UInt8) : D 57 [.sc (.string (B l)), .sc (.string (⟨#[45]⟩ : ByteArray))] = some (.tup [.sc (.string (B (bodyL l))), .sc (.bool (minusL l))]) := by
  have e : D 57 [.sc (.string (B l)), .sc (.string (⟨#[45]⟩ : ByteArray))] = xCutPrefix [.sc (.string (B l)), .sc (.string (⟨#[45]⟩ : ByteArray))] := (denI_eq 0 _ _).trans (by kernel_rfl)
  rw [e]; rfl
theorem cut_ev {l : List UInt8} (h : l.length ≤ 1000000) : D 58 [.sc (.string (B l)), .sc (.string (⟨#[46]⟩ : ByteArray))] = some (.tup [.sc (.string (B (cutL l).1)), .sc (.string (B (cutL l).2.1)), .sc (.bool (cutL l).2.2)]) := by
  have e : D 58 [.sc (.string (B l)), .sc (.string (⟨#[46]⟩ : ByteArray))] = xCut [.sc (.string (B l)), .sc (.string (⟨#[46]⟩ : ByteArray))] := (denI_eq 0 _ _).trans (by kernel_rfl)
  rw [e]
  unfold xCut
  have ec : (Lib.cut (B l).data.toList (⟨#[46]⟩ : ByteArray).data.toList) = cutL l := cut_eq l
  dsimp only
  rw [ec]
  exact if_pos (by rw [B_size]; omega)
theorem read_ev {l : List UInt8} (hl : l.length ≤ 1000000) : D 40 [.sc (.string (B l))] = some (pvG (readL l)) := by
  rw [f40_eq 0]
  refine cb (cutp_ev l) rfl ?_
  rw [B_size]
  by_cases h40 : (l.length : Int) > 40
  · rw [show readL l = (0, false) from if_neg (fun hh => by omega)]
    exact ip (decide_eq_true h40) rfl
  · refine im (by rw [decide_eq_true_eq]; exact h40) ?_
    have hb := body_len l
    refine cb (cut_ev (l := bodyL l) (by omega)) rfl ?_
    have hc := cut_len (bodyL l)
    generalize hC : cutL (bodyL l) = c at *
    refine cb (number_ev (w := c.1) (by omega)) rfl (cb (number_ev (w := c.2.1) (by omega)) rfl ?_)
    have bad : ¬ rightL c → readL l = (0, false) := fun hh => if_neg (fun h2 => hh (by rw [hC] at h2; exact h2.2))
    have hle : valL c.1 0 ≤ totL c := by unfold totL; omega
    have es : ∀ (a b c : PV), (cel 1 (PV.tup [a, b, c]).parts) = b ∧ (cel 2 (PV.tup [a, b, c]).parts) = c := fun _ _ _ => ⟨rfl, rfl⟩
    have es2 : ∀ (a b : PV), (cel 1 (PV.tup [a, b]).parts) = b := fun _ _ => rfl
    simp only [bO, bA, bs]
    simp only [pvG_0, pvG_1, tb, (es _ _ _).1, (es _ _ _).2, ts, es2, B_size]
    have go : (numS c.1) = ((valL c.1 0 : Int), true) → (c.1 ≠ [] ∧ c.1.all isD = true ∧ (valL c.1 0 : Int) ≤ 9223372036854775807) → c.2.1.length ≤ 4 → valL c.2.1 0 * 10 ^ (4 - c.2.1.length) ≤ 1000000 → (c.2.2 = true → c.2.1 ≠ [] ∧ c.2.1.all isD = true ∧ c.2.1.length ≤ 4) → (numS c.2.1).1 = (valL c.2.1 0 : Int) → f40.l0a 0 (minusL l) (numS c.1).1 (numS c.2.1).1 (IntKind.i64.wrap ((4 : Int) - (c.2.1.length : Int))) 0 = some (pvG (readL l)) := by
      intro hn h1 h4 hy hr ey
      rw [hn, ey, w64 (x := 4 - (c.2.1.length : Int)) (by omega) (by omega), show (4 : Int) - (c.2.1.length : Int) = ((4 - c.2.1.length : Nat) : Int) by omega]
      have := read_l (x := valL c.1 0) (y := valL c.2.1 0) (m := minusL l) h1.2.2 (e := 4 - c.2.1.length) (by omega) hy (4 - c.2.1.length) 0 (Nat.zero_add _)
      rw [Nat.pow_zero, Nat.mul_one] at this
      have e : readL l = putS (valL c.1 0) (valL c.2.1 0 * 10 ^ (4 - c.2.1.length)) (minusL l) := by
        unfold readL putS
        rw [hC]
        show _ = if ((totL c : Nat) : Int) ≤ _ then (if minusL l = true then -((totL c : Nat) : Int) else ((totL c : Nat) : Int), true) else (0, false)
        by_cases ht : ((totL c : Nat) : Int) ≤ 9223372036854775807
        · rw [if_pos ⟨by omega, h1.1, h1.2.1, hr, ht⟩, if_pos ht]
        · rw [if_neg (fun hh => ht hh.2.2.2.2), if_neg ht]
      rw [e]
      exact this
    by_cases h1 : c.1 ≠ [] ∧ c.1.all isD = true ∧ (valL c.1 0 : Int) ≤ 9223372036854775807
    · have hn := numS_yes h1
      have hn2 : (numS c.1).2 = true := by rw [hn]
      by_cases hp : c.2.2 = true
      · by_cases h2 : c.2.1 ≠ [] ∧ c.2.1.all isD = true ∧ (valL c.2.1 0 : Int) ≤ 9223372036854775807
        · have hm := numS_yes h2
          have hm2 : (numS c.2.1).2 = true := by rw [hm]
          by_cases h4 : c.2.1.length ≤ 4
          · refine im (by rw [hn2, hm2, hp, decide_eq_false (by omega)]; decide) ?_
            have hv := val_lt c.2.1 0 h2.2.1
            refine go hn h1 h4 ?_ (fun _ => ⟨h2.1, h2.2.1, h4⟩) (by rw [hm])
            have h5 : c.2.1.length = 0 ∨ c.2.1.length = 1 ∨ c.2.1.length = 2 ∨ c.2.1.length = 3 ∨ c.2.1.length = 4 := by omega
            rcases h5 with h5 | h5 | h5 | h5 | h5 <;> rw [h5] at hv ⊢ <;> simp at hv ⊢ <;> omega
          · refine ip (by rw [hn2, hm2, hp, decide_eq_true (by omega)]; decide) ?_
            rw [bad (fun hh => h4 (hh.2.2.1 hp).2.2)]; rfl
        · have hm2 : (numS c.2.1).2 = false := by rw [numS_no h2]
          refine ip (by rw [hn2, hm2, hp]; simp) ?_
          rw [bad (fun hh => by
            have h6 := hh.2.2.1 hp
            have h7 := hh.2.2.2
            have h8 : valL c.2.1 0 ≤ totL c := by
              unfold totL
              exact Nat.le_trans (Nat.le_mul_of_pos_right _ (Nat.pow_pos (by decide))) (Nat.le_add_left _ _)
            exact h2 ⟨h6.1, h6.2.1, by omega⟩)]
          rfl
      · have hp2 : c.2.2 = false := by simpa using hp
        refine im (by rw [hn2, hp2]; simp) ?_
        have he := hc.2.2 hp2
        refine go hn h1 (by rw [he]; decide) (by rw [he]; decide) (fun h => absurd h hp) ?_
        rw [he]
        rfl
    · have hn2 : (numS c.1).2 = false := by rw [numS_no h1]
      refine ip (by rw [hn2]; simp) ?_
      rw [bad (fun hh => h1 ⟨hh.1, hh.2.1, by have := hh.2.2.2; omega⟩)]
      rfl
end Go.Den.EL
