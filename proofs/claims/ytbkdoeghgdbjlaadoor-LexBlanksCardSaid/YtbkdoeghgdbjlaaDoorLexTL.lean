/- The program's tokens. -/
import Derived.Test.YtbkdoeghgdbjlaaDoorLeadTL
import Derived.Test.YtbkdoeghgdbjlaaDoorBldTL
import Derived.Test.YtbkdoeghgdbjlaaDoorQuoTL
import Derived.Test.YtbkdoeghgdbjlaaDoorLexR
set_option linter.unusedVariables false
set_option linter.unusedSimpArgs false
set_option maxRecDepth 100000
namespace Go.Den.EL
open Go Go.Proofs
abbrev EM : ByteArray := ⟨#[]⟩
def tkp (t : Tk) : PV := .agg [.sc (.int .i64 (t.kind : Int)), .sc (.int .i64 (t.loc : Int)), .sc (.string (B t.text)), .sc (.int .i64 t.num)]
theorem tkp_sh (t : Tk) : hasSh (.agg [(.int .i64), (.int .i64), .str, (.int .i64)]) (tkp t) = true := rfl
theorem tkp_0 (t : Tk) : (cel 0 (tkp t).cells).toInt = (t.kind : Int) := rfl
theorem tkp_1 (t : Tk) : (cel 1 (tkp t).cells).toInt = (t.loc : Int) := rfl
theorem tkp_2 (t : Tk) : (cel 2 (tkp t).cells).toStr = B t.text := rfl
theorem tkp_3 (t : Tk) : (cel 3 (tkp t).cells).toInt = t.num := rfl
def tp (l : List Tk) : List PV := l.map tkp
theorem tp_len (l : List Tk) : (tp l).length = l.length := by simp [tp]
theorem tp_get {l : List Tk} {i : Nat} (h : i < l.length) : (tp l).getD i .top = tkp l[i] := by simp [tp, h]
theorem tp_sh {l : List Tk} {i : Nat} (h : i < l.length) : hasSh (.agg [(.int .i64), (.int .i64), .str, (.int .i64)]) ((tp l).getD i .top) = true := by rw [tp_get h]; rfl
theorem tp_app (l : List Tk) (t : Tk) : tp l ++ [tkp t] = tp (l ++ [t]) := by simp [tp]
theorem byte_all {p : UInt8 → Bool} (h : (List.range 256).all (fun n => p (UInt8.ofNat n)) = true) (b : UInt8) : p b = true := by
  have := List.all_eq_true.1 h b.toNat (List.mem_range.2 b.toNat_lt)
  simpa using this
theorem plain_ev (b : UInt8) : D 62 [.sc (.int .u8 (b.toNat : Int))] = some (.sc (.bool (plainB b))) := by
  rw [f62_eq 0]
  have e1 : decide ((b.toNat : Int) ≥ 32) = decide (32 ≤ b.toNat) := decide_eq_decide.2 (by omega)
  have e2 : ((b.toNat : Int) != 127) = (b.toNat != 127) := by
    rw [Bool.eq_iff_iff, bne_iff_ne, bne_iff_ne]; omega
  rw [e1, e2, bA]
  rfl
theorem inWord_ev (b : UInt8) (g : Bool) : D 43 [.sc (.int .u8 (b.toNat : Int)), .sc (.bool g)] = some (.sc (.bool (if g = true then uppB b else wrdB b))) := by
  rw [f43_eq 0]
  have e1 : decide ((b.toNat : Int) ≥ 65) = decide (65 ≤ b.toNat) := decide_eq_decide.2 (by omega)
  have e2 : decide ((b.toNat : Int) ≤ 90) = decide (b.toNat ≤ 90) := decide_eq_decide.2 (by omega)
  have e3 : ((b.toNat : Int) == 36) = (b.toNat == 36) := by
    rw [Bool.eq_iff_iff, beq_iff_eq, beq_iff_eq]; omega
  have e4 : decide ((b.toNat : Int) ≥ 48) = decide (48 ≤ b.toNat) := decide_eq_decide.2 (by omega)
  have e5 : decide ((b.toNat : Int) ≤ 57) = decide (b.toNat ≤ 57) := decide_eq_decide.2 (by omega)
  rw [e1, e2, e3, e4, e5]
  simp only [bs, tb, bA, bO]
  unfold wrdB uppB isD
  cases g <;> simp
theorem strL_eq (b : UInt8) (t : List UInt8) : strL (b :: t) = if plainB b = false then none else if b = 34 then (if t.head? = some 34 then (strL t.tail).map (fun r => (34 :: r.1, r.2 + 2)) else some ([], 1)) else (strL t).map (fun r => (b :: r.1, r.2 + 1)) := by
  rcases t with _ | ⟨c, l⟩
  · conv => lhs; rw [strL]
    by_cases h1 : plainB b = false
    · rw [if_pos h1, if_pos h1]
    · rw [if_neg h1, if_neg h1]
      by_cases h2 : b = 34
      · rw [if_pos h2, if_pos h2]; rfl
      · rw [if_neg h2, if_neg h2]; rfl
  · conv => lhs; rw [strL]
    by_cases h1 : plainB b = false
    · rw [if_pos h1, if_pos h1]
    · rw [if_neg h1, if_neg h1]
      by_cases h2 : b = 34
      · rw [if_pos h2, if_pos h2]
        by_cases h3 : c = 34
        · rw [if_pos h3, if_pos (show (c :: l).head? = some 34 by rw [h3]; rfl)]; rfl
        · rw [if_neg h3, if_neg (show ¬ (c :: l).head? = some 34 from fun h => h3 (Option.some.inj h))]
      · rw [if_neg h2, if_neg h2]
def strR (acc : List UInt8) (i : Nat) : Option (List UInt8 × Nat) → PV
  | none => .tup [.sc (.string EM), .sc (.int .i64 0)]
  | some r => .tup [.sc (.string (B (acc ++ r.1))), .sc (.int .i64 ((i + r.2 : Nat) : Int))]
theorem strR_some (acc : List UInt8) (i : Nat) (r : List UInt8 × Nat) : strR acc i (some r) = .tup [.sc (.string (B (acc ++ r.1))), .sc (.int .i64 ((i + r.2 : Nat) : Int))] := rfl
theorem str_a (s : ByteArray) (i : Int) : f42.l0a 0 s i = f42.l0b 0 s i [] := by
  rw [f42.l0a_eq, f42.l0b_eq]
theorem str_b (s : List UInt8) (hl : s.length ≤ 100000) : ∀ (d i : Nat) (acc : List UInt8), i ≤ s.length → s.length - i ≤ d → acc.length ≤ i → f42.l0b 0 (B s) (i : Int) (strB (B acc)) = some (strR acc i (strL (s.drop i))) := by
  intro d
  induction d with
  | zero =>
    intro i acc hi hd ha
    rw [f42.l0b_eq, List.drop_eq_nil_of_le (by omega)]
    exact im (by rw [decide_eq_true_eq, B_size]; omega) rfl
  | succ d ih =>
    intro i acc hi hd ha
    by_cases he : i < s.length
    · rw [f42.l0b_eq, List.drop_eq_getElem_cons he, strL_eq]
      have c1 : (0 : Int) ≤ (i : Int) := by omega
      have c2 : (i : Int) < ((B s).size : Int) := by rw [B_size]; omega
      rw [if_pos (show decide ((i : Int) < ((B s).size : Int)) = true from decide_eq_true c2), B_bt he]
      refine ip c1 (ip c2 (cb (plain_ev _) rfl ?_))
      by_cases h1 : plainB s[i] = false
      · rw [if_pos h1]
        exact ip (show (!plainB s[i]) = true by rw [h1]; rfl) rfl
      · rw [if_neg h1]
        refine im (show ¬ (!plainB s[i]) = true by simpa using h1) (ip c1 (ip c2 ?_))
        have h34 : ((s[i].toNat : Int) != 34) = decide (s[i] ≠ 34) := by
          rw [Bool.eq_iff_iff, bne_iff_ne, decide_eq_true_eq]
          constructor
          · intro h e; rw [e] at h; exact h rfl
          · intro h e; exact h (UInt8.toNat_inj.1 (by show s[i].toNat = 34; omega))
        rw [h34]
        by_cases h2 : s[i] = 34
        · rw [if_pos h2]
          refine im (by simp [h2]) ?_
          have en : IntKind.i64.wrap ((i : Int) + 1) = ((i + 1 : Nat) : Int) := nx he (by omega)
          rw [en]
          by_cases h3 : i + 1 < s.length
          · have c3 : decide (((i + 1 : Nat) : Int) < ((B s).size : Int)) = true := by rw [decide_eq_true_eq, B_size]; omega
            have c4 : (0 : Int) ≤ ((i + 1 : Nat) : Int) := by omega
            have c5 : ((i + 1 : Nat) : Int) < ((B s).size : Int) := by rw [B_size]; omega
            rw [c3, bt34 h3]
            simp only [bs, tb, if_true, if_pos c4, if_pos c5]
            have eh : (s.drop (i + 1)).head? = some s[i + 1] := by rw [List.drop_eq_getElem_cons h3]; rfl
            have et : (s.drop (i + 1)).tail = s.drop (i + 2) := by rw [List.drop_eq_getElem_cons h3]; rfl
            rw [eh, et]
            by_cases h4 : s[i + 1] = 34
            · rw [if_pos (by rw [h4])]
              refine ip (decide_eq_true h4) (hb (bwb_ev acc 34 (by omega)) rfl rfl ?_)
              have e2 : IntKind.i64.wrap (((i + 1 : Nat) : Int) + 1) = ((i + 2 : Nat) : Int) := nx h3 (by omega)
              rw [e2]
              refine (ih (i + 2) (acc ++ [34]) (by omega) (by omega) (by simp; omega)).trans ?_
              cases strL (s.drop (i + 2)) with
              | none => rfl
              | some r =>
                show some (strR (acc ++ [34]) (i + 2) (some r)) = some (strR acc i (some (34 :: r.1, r.2 + 2)))
                rw [strR_some, strR_some]
                rw [List.append_assoc, show i + 2 + r.2 = i + (r.2 + 2) by omega]; rfl
            · rw [if_neg (fun h => h4 (Option.some.inj h))]
              refine im (by simpa using h4) (hb (bstr_ev acc) rfl rfl ?_)
              rw [strR_some, List.append_nil]; rfl
          · have c3 : decide (((i + 1 : Nat) : Int) < ((B s).size : Int)) = false := by rw [decide_eq_false_iff_not, B_size]; omega
            rw [c3]
            simp only [bs, tb, Bool.false_eq_true, if_false]
            rw [List.drop_eq_nil_of_le (by omega), if_neg (by simp)]
            refine hb (bstr_ev acc) rfl rfl ?_
            rw [strR_some, List.append_nil]; rfl
        · rw [if_neg h2]
          refine ip (decide_eq_true h2) (ip c1 (ip c2 (hb (bwb_ev acc s[i] (by omega)) rfl rfl ?_)))
          rw [nx he (by omega)]
          refine (ih (i + 1) (acc ++ [s[i]]) (by omega) (by omega) (by simp; omega)).trans ?_
          cases strL (s.drop (i + 1)) with
          | none => rfl
          | some r =>
            show some (strR (acc ++ [s[i]]) (i + 1) (some r)) = some (strR acc i (some (s[i] :: r.1, r.2 + 1)))
            rw [strR_some, strR_some]
            rw [List.append_assoc, show i + 1 + r.2 = i + (r.2 + 1) by omega]; rfl
    · rw [f42.l0b_eq, List.drop_eq_nil_of_le (by omega)]
      exact im (by rw [decide_eq_true_eq, B_size]; omega) rfl
theorem str_ev (b : UInt8) (l : List UInt8) (hl : l.length ≤ 10000) : D 42 [.sc (.string (B (b :: l)))] = some (strR [] 1 (strL l)) := by
  rw [f42_eq 0, str_a]
  have := str_b (b :: l) (by simp; omega) (b :: l).length 1 [] (by simp) (by omega) (by simp)
  exact this
def sgs : List PV := sigs.map fun t => .sc (.string (B t))
theorem sgs_get {i : Nat} (h : i < sigs.length) : sgs.getD i .top = .sc (.string (B sigs[i])) := by unfold sgs; simp [h]
theorem pre_ev (s t : List UInt8) : D 44 [.sc (.string (B s)), .sc (.string (B t))] = some (.sc (.bool (t.isPrefixOf s))) := by
  have e : D 44 [.sc (.string (B s)), .sc (.string (B t))] = xHasPrefix [.sc (.string (B s)), .sc (.string (B t))] := (denI_eq 0 _ _).trans (by kernel_rfl)
  rw [e]; rfl
def sgnR : Option (List UInt8) → PV
  | none => .tup [tkp ⟨0, 0, [], 0⟩, .sc (.int .i64 0)]
  | some t => .tup [tkp ⟨4, 0, t, 0⟩, .sc (.int .i64 (t.length : Int))]
theorem sgn_l (s : List UInt8) : ∀ (d i : Nat), i + d = sigs.length → f27.l1a 0 (B s) 17 (fun i => sgs.getD i .top) 17 (i : Int) 0 0 EM 0 = some (sgnR ((sigs.drop i).find? (fun t => t.isPrefixOf s))) := by
  have hs : sigs.length = 17 := rfl
  intro d
  induction d with
  | zero =>
    intro i h
    rw [f27.l1a_eq, List.drop_eq_nil_of_le (by omega)]
    exact im (by rw [decide_eq_true_eq]; omega) rfl
  | succ d ih =>
    intro i h
    have hi : i < sigs.length := by omega
    rw [f27.l1a_eq, List.drop_eq_getElem_cons hi, List.find?_cons]
    rw [Int.toNat_natCast, sgs_get hi]
    refine ip (by rw [decide_eq_true_eq]; omega) (ip (by omega) (ip (by omega) (ip rfl (cb (pre_ev s sigs[i]) rfl ?_))))
    cases hp : sigs[i].isPrefixOf s
    · refine im (by decide) ?_
      rw [nx (i := i) (n := 17) (by omega) (by decide)]
      exact ih (i + 1) (by omega)
    · exact ip rfl rfl
theorem signs_ev : D 17 [.sc (.string (⟨#[35, 82, 69, 70, 32, 60, 62, 32, 60, 61, 32, 62, 61, 32, 43, 32, 45, 32, 42, 32, 47, 32, 94, 32, 38, 32, 61, 32, 60, 32, 62, 32, 40, 32, 41, 32, 44, 32, 58]⟩ : ByteArray))] = some (frozen 1 sgs) := denI_of (k := 2) (by kernel_rfl)
theorem word_l (s : List UInt8) (hl : s.length ≤ 100000) : ∀ (d i : Nat), i + d = s.length → 0 < i → f27.l0a 0 (B s) (i : Int) 0 0 EM 0 = some (.tup [tkp ⟨3, 0, s.take (i + runW (s.drop i)), 0⟩, .sc (.int .i64 ((i + runW (s.drop i) : Nat) : Int))]) := by
  have fin : ∀ (i : Nat), i ≤ s.length → 0 < i → ∀ c : Bool, c = false → (if c = true then f27.l0a 0 (B s) (IntKind.i64.wrap ((i : Int) + 1)) 0 0 EM 0 else
      if decide ((i : Int) > 0) = true then if 0 ≤ (i : Int) then if (i : Int) ≤ ((B s).size : Int) then if 0 ≤ (i : Int) then some (.tup [.agg [.sc (.int .i64 3), .sc (.int .i64 0), .sc (.string ((B s).extract 0 (i : Int).toNat)), .sc (.int .i64 0)], .sc (.int .i64 (i : Int))]) else none else none else none else
      (D 17 [.sc (.string (⟨#[35, 82, 69, 70, 32, 60, 62, 32, 60, 61, 32, 62, 61, 32, 43, 32, 45, 32, 42, 32, 47, 32, 94, 32, 38, 32, 61, 32, 60, 32, 62, 32, 40, 32, 41, 32, 44, 32, 58]⟩ : ByteArray))]).bind fun r12 => if hasSh (.lst 1) r12 = true then f27.l1a 0 (B s) r12.len r12.at (r12.len : Int) 0 0 0 EM 0 else none) = some (.tup [tkp ⟨3, 0, s.take i, 0⟩, .sc (.int .i64 (i : Int))]) := by
    intro i hi h0 c hc
    subst hc
    refine im (by decide) (ip (by rw [decide_eq_true_eq]; omega) (ip (by omega) (ip (by rw [B_size]; omega) (ip (by omega) ?_))))
    rw [take_ext]
    rfl
  intro d
  induction d with
  | zero =>
    intro i h h0
    rw [f27.l0a_eq]
    have c : decide ((i : Int) < ((B s).size : Int)) = false := by rw [decide_eq_false_iff_not, B_size]; omega
    rw [c, List.drop_eq_nil_of_le (by omega)]
    exact fin i (by omega) h0 false rfl
  | succ d ih =>
    intro i h h0
    have hi : i < s.length := by omega
    rw [f27.l0a_eq]
    have c1 : (0 : Int) ≤ (i : Int) := by omega
    have c2 : (i : Int) < ((B s).size : Int) := by rw [B_size]; omega
    have c : decide ((i : Int) < ((B s).size : Int)) = true := decide_eq_true c2
    have z : ((i : Int) == 0) = false := by rw [beq_eq_false_iff_ne]; omega
    rw [c, B_bt hi, z, List.drop_eq_getElem_cons hi, runW]
    simp only [inWord_ev, bs, shb, tb, if_true, if_pos c1, if_pos c2, Bool.false_eq_true, if_false]
    by_cases hw : wrdB s[i] = true
    · rw [if_pos hw]
      refine ip hw ?_
      rw [nx hi (by omega), show i + (runW (s.drop (i + 1)) + 1) = i + 1 + runW (s.drop (i + 1)) by omega]
      exact ih (i + 1) (by omega) (by omega)
    · have hw' : wrdB s[i] = false := by simpa using hw
      rw [if_neg hw]
      exact fin i (by omega) h0 _ hw'
/-- What next answers. -/
def nxR (t : Tk) (n : Nat) : PV := .tup [tkp t, .sc (.int .i64 (n : Int))]
theorem next_ev (b : UInt8) (l : List UInt8) (hl : l.length ≤ 10000) : ∃ t n, D 27 [.sc (.string (B (b :: l)))] = some (nxR t n) ∧ ((nextL (b :: l) = some (t, n) ∧ 0 < n) ∨ (nextL (b :: l) = none ∧ n = 0)) := by
  have hlen : (b :: l).length = l.length + 1 := rfl
  have c0 : (0 : Int) < ((B (b :: l)).size : Int) := by rw [B_size]; omega
  have hb0 : bt (B (b :: l)) 0 = (b.toNat : Int) := B_bt (l := b :: l) (i := 0) (by simp)
  have e1 : decide ((b.toNat : Int) ≥ 48) = decide (48 ≤ b.toNat) := decide_eq_decide.2 (by omega)
  have e2 : decide ((b.toNat : Int) ≤ 57) = decide (b.toNat ≤ 57) := decide_eq_decide.2 (by omega)
  rw [f27_eq 0, nextL, hb0, e1, e2]
  simp only [if_pos c0, bs, tb, bA]
  have ed : (decide (48 ≤ b.toNat) && decide (b.toNat ≤ 57)) = isD b := rfl
  rw [ed]
  by_cases hd : isD b = true
  · rw [if_pos hd]
    have hld := lead_ev (l := b :: l) (by omega)
    have hp := leadn_pos (l := l) hd
    by_cases h : (leadL (b :: l)).2.2 = true
    · refine ⟨⟨1, 0, [], (leadL (b :: l)).1⟩, leadn (b :: l), ?_, Or.inl ⟨by rw [if_pos h], hp⟩⟩
      refine ip hd (cb hld rfl ?_)
      have e3 : (leadL (b :: l)).2.1 = (leadn (b :: l) : Int) := by
        unfold leadL at h ⊢
        split at h
        · rename_i hh; rw [if_pos hh]
        · cases h
      show some (PV.tup [.agg [.sc (.int .i64 1), .sc (.int .i64 0), .sc (.string EM), .sc (.int .i64 (leadL (b :: l)).1)], .sc (.int .i64 (leadL (b :: l)).2.1)]) = _
      rw [e3]
      rfl
    · refine ⟨⟨1, 0, [], 0⟩, 0, ?_, Or.inr ⟨by rw [if_neg h], rfl⟩⟩
      refine ip hd (cb hld rfl ?_)
      have e3 : leadL (b :: l) = (0, 0, false) := by
        unfold leadL at h ⊢
        split at h
        · exact absurd rfl h
        · rename_i hh; rw [if_neg hh]
      rw [e3]
      rfl
  · rw [if_neg hd]
    by_cases h2 : b = 34
    · rw [if_pos h2]
      have hs := str_ev b l hl
      refine ⟨⟨2, 0, ((strL l).getD ([], 0)).1, 0⟩, (match strL l with | none => 0 | some r => r.2 + 1), ?_, ?_⟩
      · refine im hd (ip (by rw [h2]; rfl) (cb hs ?_ ?_))
        · cases strL l <;> rfl
        · cases strL l with
          | none => rfl
          | some r =>
            rw [strR_some, show 1 + r.2 = r.2 + 1 by omega]; rfl
      · cases strL l with
        | none => exact Or.inr ⟨rfl, rfl⟩
        | some r => exact Or.inl ⟨rfl, Nat.succ_pos _⟩
    · rw [if_neg h2]
      have hne : ¬ ((b.toNat : Int) == 34) = true := by
        rw [beq_iff_eq]; intro e
        exact h2 (UInt8.toNat_inj.1 (by show b.toNat = 34; omega))
      by_cases h3 : uppB b = true
      · rw [if_pos h3]
        refine ⟨_, _, ?_, Or.inl ⟨rfl, Nat.succ_pos _⟩⟩
        refine im hd (im hne ?_)
        rw [f27.l0a_eq, hb0]
        have c : decide ((0 : Int) < ((B (b :: l)).size : Int)) = true := decide_eq_true c0
        have c1 : (0 : Int) ≤ 0 := Int.le_refl _
        have z : ((0 : Int) == 0) = true := rfl
        rw [c, z]
        simp only [inWord_ev, bs, shb, tb, if_true, if_pos c1, if_pos c0]
        refine ip h3 ?_
        have := word_l (b :: l) (by omega) l.length 1 (by omega) (by decide)
        rw [show IntKind.i64.wrap ((0 : Int) + 1) = ((1 : Nat) : Int) from rfl, this]
        unfold nxR
        rw [show 1 + runW ((b :: l).drop 1) = runW l + 1 by rw [Nat.add_comm]; rfl, List.take_succ_cons]
      · rw [if_neg h3]
        have hsg := sgn_l (b :: l) 17 0 rfl
        rw [List.drop_zero] at hsg
        refine ⟨(match signL (b :: l) with | none => ⟨0, 0, [], 0⟩ | some t => ⟨4, 0, t, 0⟩), (match signL (b :: l) with | none => 0 | some t => t.length), ?_, ?_⟩
        · refine im hd (im hne ?_)
          rw [f27.l0a_eq, hb0]
          have c : decide ((0 : Int) < ((B (b :: l)).size : Int)) = true := decide_eq_true c0
          have c1 : (0 : Int) ≤ 0 := Int.le_refl _
          have z : ((0 : Int) == 0) = true := rfl
          rw [c, z]
          simp only [inWord_ev, bs, shb, tb, if_true, if_pos c1, if_pos c0]
          refine im h3 (im (by decide) (cb signs_ev rfl ?_))
          refine Eq.trans hsg ?_
          show some (sgnR (signL (b :: l))) = _
          cases signL (b :: l) <;> rfl
        · cases hsl : signL (b :: l) with
          | none => exact Or.inr ⟨rfl, rfl⟩
          | some t => exact Or.inl ⟨rfl, (sigs_len (sign_pre hsl).2).1⟩
def errR (a e : Int) : PV := .tup [.lst 4 0 (fun _ => .top), .sc (.int .i64 a), .sc (.int .i64 e)]
def okR (l : List Tk) : PV := .tup [frozen 4 (tp l), .sc (.int .i64 0), .sc (.int .i64 0)]
def lexR (ts : List Tk) : Nat ⊕ List Tk → PV
  | .inl e => errR e 1
  | .inr l => okR (ts ++ l)
theorem bt_32 {l : List UInt8} {i : Nat} (h : i < l.length) : (bt (B l) (i : Int) == 32) = decide (l[i] = 32) := by
  rw [B_bt h, Bool.eq_iff_iff, beq_iff_eq, decide_eq_true_eq]
  constructor
  · intro e; exact UInt8.toNat_inj.1 (by show l[i].toNat = 32; omega)
  · intro e; rw [e]; rfl
theorem ext_drop (s : List UInt8) (i : Nat) : (B s).extract (i : Int).toNat ((B s).size : Int).toNat = B (s.drop i) := by
  rw [Int.toNat_natCast, Int.toNat_natCast, B_extract, B_size]
  congr 1
  apply List.take_of_length_le
  rw [List.length_drop]; omega
theorem lex_b (s : List UInt8) (hl : s.length ≤ 1000) : ∀ (d a : Nat) (ts : List Tk), a ≤ s.length → s.length - a ≤ d → ts.length ≤ a → f11.l0b 0 (B s) (a : Int) (tp ts) = some (lexR ts (lexL a (s.drop a))) := by
  have stop : ∀ (a : Nat) (ts : List Tk), a = s.length → ts.length ≤ a → f11.l0b 0 (B s) (a : Int) (tp ts) = some (lexR ts (lexL a (s.drop a))) := by
    intro a ts ha ht
    rw [f11.l0b_eq, List.drop_eq_nil_of_le (by omega), lexL_nil]
    refine im (by rw [decide_eq_true_eq, B_size]; omega) (ip (by rw [tp_len]; simp; omega) ?_)
    show _ = some (okR (ts ++ [⟨5, a, [], 0⟩]))
    unfold okR
    rw [← tp_app]
    rw [B_size, ← ha]; rfl
  intro d
  induction d with
  | zero => intro a ts ha hd ht; exact stop a ts (by omega) ht
  | succ d ih =>
    intro a ts ha hd ht
    by_cases hi : a < s.length
    · rw [f11.l0b_eq]
      have c1 : (0 : Int) ≤ (a : Int) := by omega
      have c2 : (a : Int) < ((B s).size : Int) := by rw [B_size]; omega
      refine ip (decide_eq_true c2) (ip c1 (ip c2 ?_))
      by_cases hb : s[a] = 32
      · refine ip (by rw [bt_32 hi]; exact decide_eq_true hb) ?_
        rw [nx hi (by omega), List.drop_eq_getElem_cons hi, hb, lexL_blank]
        exact ih (a + 1) ts (by omega) (by omega) (by omega)
      · refine im (by rw [bt_32 hi]; simpa using hb) (ip (by omega) (ip (Int.le_refl _) (ip c1 (ip (by omega) ?_))))
        rw [ext_drop]
        have ed := List.drop_eq_getElem_cons hi
        obtain ⟨t, n, e1, e2⟩ := next_ev s[a] (s.drop (a + 1)) (by rw [List.length_drop]; omega)
        rw [← ed] at e1 e2
        refine cb e1 rfl ?_
        rcases e2 with ⟨e2, hn⟩ | ⟨e2, hn⟩
        · refine im (show ¬ ((n : Int) == 0) = true by rw [beq_iff_eq]; omega) (ip (by rw [tp_len]; simp; omega) ?_)
          have hle := (next_le e2).2
          rw [List.length_drop] at hle
          rw [ed] at e2
          rw [ed, lexL_tok hb e2, ← ed, List.drop_drop]
          have ew : IntKind.i64.wrap ((a : Int) + (n : Int)) = ((a + n : Nat) : Int) := by rw [w64 (by omega) (by omega)]; omega
          have := ih (a + n) (ts ++ [t.put a]) (by omega) (by omega) (by simp; omega)
          rw [← tp_app] at this
          show f11.l0b 0 (B s) (IntKind.i64.wrap ((a : Int) + (n : Int))) (tp ts ++ [tkp (t.put a)]) = _
          rw [ew, this]
          cases lexL (a + n) (s.drop (a + n)) with
          | inl e => rfl
          | inr r =>
            show some (okR (ts ++ [t.put a] ++ r)) = some (okR (ts ++ (t.put a :: r)))
            rw [List.append_assoc]; rfl
        · subst hn
          refine ip rfl ?_
          rw [ed] at e2
          rw [ed, lexL_bad hb e2]
          rfl
    · exact stop a ts (by omega) ht
theorem lex_a (s : List UInt8) (hl : s.length ≤ 1000) : ∀ (d a : Nat), a ≤ s.length → s.length - a ≤ d → f11.l0a 0 (B s) (a : Int) = some (lexR [] (lexL a (s.drop a))) := by
  have stop : ∀ (a : Nat), a = s.length → f11.l0a 0 (B s) (a : Int) = some (lexR [] (lexL a (s.drop a))) := by
    intro a ha
    rw [f11.l0a_eq, List.drop_eq_nil_of_le (by omega), lexL_nil]
    refine im (by rw [decide_eq_true_eq, B_size]; omega) (ip (by simp) ?_)
    rw [B_size, ← ha]; rfl
  intro d
  induction d with
  | zero => intro a ha hd; exact stop a (by omega)
  | succ d ih =>
    intro a ha hd
    by_cases hi : a < s.length
    · rw [f11.l0a_eq]
      have c1 : (0 : Int) ≤ (a : Int) := by omega
      have c2 : (a : Int) < ((B s).size : Int) := by rw [B_size]; omega
      refine ip (decide_eq_true c2) (ip c1 (ip c2 ?_))
      by_cases hb : s[a] = 32
      · refine ip (by rw [bt_32 hi]; exact decide_eq_true hb) ?_
        rw [nx hi (by omega), List.drop_eq_getElem_cons hi, hb, lexL_blank]
        exact ih (a + 1) (by omega) (by omega)
      · refine im (by rw [bt_32 hi]; simpa using hb) (ip (by omega) (ip (Int.le_refl _) (ip c1 (ip (by omega) ?_))))
        rw [ext_drop]
        have ed := List.drop_eq_getElem_cons hi
        obtain ⟨t, n, e1, e2⟩ := next_ev s[a] (s.drop (a + 1)) (by rw [List.length_drop]; omega)
        rw [← ed] at e1 e2
        refine cb e1 rfl ?_
        rcases e2 with ⟨e2, hn⟩ | ⟨e2, hn⟩
        · refine im (show ¬ ((n : Int) == 0) = true by rw [beq_iff_eq]; omega) (ip (by simp) ?_)
          have hle := (next_le e2).2
          rw [List.length_drop] at hle
          rw [ed] at e2
          rw [ed, lexL_tok hb e2, ← ed, List.drop_drop]
          have ew : IntKind.i64.wrap ((a : Int) + (n : Int)) = ((a + n : Nat) : Int) := by rw [w64 (by omega) (by omega)]; omega
          have := lex_b s hl s.length (a + n) [t.put a] (by omega) (by omega) (by simp; omega)
          show f11.l0b 0 (B s) (IntKind.i64.wrap ((a : Int) + (n : Int))) (tp [t.put a]) = _
          rw [ew, this]
          cases lexL (a + n) (s.drop (a + n)) with
          | inl e => rfl
          | inr r => rfl
        · subst hn
          refine ip rfl ?_
          rw [ed] at e2
          rw [ed, lexL_bad hb e2]
          rfl
    · exact stop a (by omega)
def lexS (s : List UInt8) : PV := if s.length ≤ 200 then lexR [] (lexL 0 s) else errR 0 3
theorem lex_ev (s : List UInt8) : D 11 [.sc (.string (B s))] = some (lexS s) := by
  rw [f11_eq 0]
  unfold lexS
  by_cases h : s.length ≤ 200
  · rw [if_pos h]
    refine im (by rw [decide_eq_true_eq, B_size]; omega) ?_
    have := lex_a s (by omega) s.length 0 (Nat.zero_le _) (by omega)
    rw [List.drop_zero] at this
    exact this
  · rw [if_neg h]
    exact ip (by rw [decide_eq_true_eq, B_size]; omega) rfl
theorem moved_l (a b : List Tk) (h : a.map (fun t => t.put 0) = b.map (fun t => t.put 0)) (hl : a.length ≤ 100000) : ∀ (d i : Nat), i + d = a.length → f13.l0a 0 b.length (fun i => (tp b).getD i .top) a.length (fun i => (tp a).getD i .top) (a.length : Int) (i : Int) = some (.sc (.bool true)) := by
  have hlen : a.length = b.length := by simpa using congrArg List.length h
  intro d
  induction d with
  | zero =>
    intro i hi
    rw [f13.l0a_eq]
    exact im (by rw [decide_eq_true_eq]; omega) rfl
  | succ d ih =>
    intro i hi
    have ha : i < a.length := by omega
    have hb : i < b.length := by omega
    have hg : a[i].put 0 = b[i].put 0 := by
      have := congrArg (fun z => z[i]?) h
      simpa [ha, hb] using this
    have h1 : a[i].kind = b[i].kind := by have := congrArg Tk.kind hg; exact this
    have h2 : a[i].text = b[i].text := by have := congrArg Tk.text hg; exact this
    have h3 : a[i].num = b[i].num := by have := congrArg Tk.num hg; exact this
    rw [f13.l0a_eq]
    have c1 : (0 : Int) ≤ (i : Int) := by omega
    have c2 : (i : Int) < (a.length : Int) := by omega
    have c3 : (i : Int) < (b.length : Int) := by omega
    rw [Int.toNat_natCast, tp_get ha, tp_get hb]
    refine ip (decide_eq_true c2) (ip c1 (ip c2 (ip rfl (ip c1 (ip c3 (ip rfl ?_))))))
    simp only [tkp_0, tkp_2, tkp_3, if_pos c1, if_pos c3, tkp_sh, if_true, bs, tb, bO, h1, h2, h3, bne_self_eq_false, Bool.false_eq_true, if_false, beq_self_eq_true, Bool.not_true, Bool.or_self]
    rw [nx ha (by omega)]
    exact ih (i + 1) (by omega)
theorem moved_ev (a b : List Tk) (h : a.map (fun t => t.put 0) = b.map (fun t => t.put 0)) (hl : a.length ≤ 100000) : D 13 [frozen 4 (tp a), frozen 4 (tp b)] = some (.sc (.bool true)) := by
  have hlen : a.length = b.length := by simpa using congrArg List.length h
  refine (f13_eq 0 _ _ _ _).trans ?_
  rw [tp_len, tp_len]
  refine im (by rw [bne_iff_ne]; omega) ?_
  exact moved_l a b h hl a.length 0 (by omega)
theorem alive21_ev : D 12 [] = some (.sc (.bool true)) := denI_of (k := 100) (by kernel_rfl)
end Go.Den.EL
