/- LexBack: whatever the input, the law returns true; each argument reads behind the call as it read before. No condition. -/
import Derived.Test.YtbkdoeghgdbjlaaGreatDoorMLexBack0
import Derived.Test.YtbkdoeghgdbjlaaGreatDoorDenV
import Derived.Test.YtbkdoeghgdbjlaaGreatDoorDenY
import Derived.Test.YtbkdoeghgdbjlaaGreatDoorTie
import Derived.Test.YtbkdoeghgdbjlaaGreatDoorCards
import Derived.LaidMore
import Derived.Lay
import Derived.SevenTiedAt
import Derived.Stop.Joined
import Derived.Handy
import Derived.Test.YtbkdoeghgdbjlaaGreatDoorDenU
import Derived.Test.YtbkdoeghgdbjlaaGreatDoorRows
import Derived.Test.YtbkdoeghgdbjlaaGreatDoorEXh
/- The reference's tokens; tokens as text: both. -/
set_option linter.unusedVariables false
set_option linter.unusedSimpArgs false
set_option maxRecDepth 100000
namespace Go.Den.EX
open Go Go.Proofs
theorem rplain_ev (b : UInt8) : D 53 [.sc (.int .u8 (b.toNat : Int))] = some (.sc (.bool (plainB b))) := by
  rw [f53_eq 0]
  have e1 : decide ((b.toNat : Int) ≥ 32) = decide (32 ≤ b.toNat) := decide_eq_decide.2 (by omega)
  have e2 : ((b.toNat : Int) != 127) = (b.toNat != 127) := by
    rw [Bool.eq_iff_iff, bne_iff_ne, bne_iff_ne]; omega
  rw [e1, e2, bA]
  rfl
theorem rupper_ev (b : UInt8) : D 96 [.sc (.int .u8 (b.toNat : Int))] = some (.sc (.bool (uppB b))) := by
  rw [f96_eq 0]
  have e1 : decide ((b.toNat : Int) ≥ 65) = decide (65 ≤ b.toNat) := decide_eq_decide.2 (by omega)
  have e2 : decide ((b.toNat : Int) ≤ 90) = decide (b.toNat ≤ 90) := decide_eq_decide.2 (by omega)
  have e3 : ((b.toNat : Int) == 36) = (b.toNat == 36) := by
    rw [Bool.eq_iff_iff, beq_iff_eq, beq_iff_eq]; omega
  rw [e1, e2, e3]
  simp only [bs, tb, bA, bO]
  rfl
def mrkR (acc : List UInt8) (i : Nat) : Option (List UInt8 × Nat) → PV
  | none => .tup [.sc (.string EM), .sc (.int .i64 (-1))]
  | some r => .tup [.sc (.string (B (acc ++ r.1))), .sc (.int .i64 ((i + r.2 : Nat) : Int))]
theorem mrkR_some (acc : List UInt8) (i : Nat) (r : List UInt8 × Nat) : mrkR acc i (some r) = .tup [.sc (.string (B (acc ++ r.1))), .sc (.int .i64 ((i + r.2 : Nat) : Int))] := rfl
theorem n34 {s : List UInt8} {i : Nat} (h : i < s.length) : ((bt (B s) (i : Int)) != 34) = decide (s[i] ≠ 34) := by
  rw [B_bt h, Bool.eq_iff_iff, bne_iff_ne, decide_eq_true_eq]
  constructor
  · intro h e; rw [e] at h; exact h rfl
  · intro h e; exact h (UInt8.toNat_inj.1 (by show s[i].toNat = 34; omega))
theorem marked_l (s : List UInt8) (hl : s.length ≤ 100000) : ∀ (d i : Nat) (acc : List UInt8), i ≤ s.length → s.length - i ≤ d → acc.length ≤ i → f95.l0a 0 (B s) (i : Int) (strB (B acc)) = some (mrkR acc i (strL (s.drop i))) := by
  have stop : ∀ (i : Nat) (acc : List UInt8), s.length ≤ i → f95.l0a 0 (B s) (i : Int) (strB (B acc)) = some (mrkR acc i (strL (s.drop i))) := by
    intro i acc hi
    rw [f95.l0a_eq, List.drop_eq_nil_of_le (by omega)]
    exact im (by rw [decide_eq_true_eq, B_size]; omega) rfl
  intro d
  induction d with
  | zero => intro i acc hi hd ha; exact stop i acc (by omega)
  | succ d ih =>
    intro i acc hi hd ha
    by_cases he : i < s.length
    · rw [f95.l0a_eq, List.drop_eq_getElem_cons he, strL_eq]
      have c1 : (0 : Int) ≤ (i : Int) := by omega
      have c2 : (i : Int) < ((B s).size : Int) := by rw [B_size]; omega
      rw [n34 he, if_pos (show decide ((i : Int) < ((B s).size : Int)) = true from decide_eq_true c2), B_bt he]
      refine ip c1 (ip c2 (cb (rplain_ev _) rfl ?_))
      by_cases h1 : plainB s[i] = false
      · rw [if_pos h1]
        exact ip (show (!plainB s[i]) = true by rw [h1]; rfl) rfl
      · rw [if_neg h1]
        refine im (show ¬ (!plainB s[i]) = true by simpa using h1) (ip c1 (ip c2 ?_))
        by_cases h2 : s[i] = 34
        · rw [if_pos h2]
          refine im (by simp [h2]) ?_
          have en : IntKind.i64.wrap ((i : Int) + 1) = ((i + 1 : Nat) : Int) := nx he (by omega)
          rw [en]
          by_cases h3 : i + 1 < s.length
          · have c3 : decide (((i + 1 : Nat) : Int) ≥ ((B s).size : Int)) = false := by rw [decide_eq_false_iff_not, B_size]; omega
            have c4 : (0 : Int) ≤ ((i + 1 : Nat) : Int) := by omega
            have c5 : ((i + 1 : Nat) : Int) < ((B s).size : Int) := by rw [B_size]; omega
            rw [c3, n34 h3]
            simp only [bs, tb, Bool.false_eq_true, if_false, if_pos c4, if_pos c5]
            have eh : (s.drop (i + 1)).head? = some s[i + 1] := by rw [List.drop_eq_getElem_cons h3]; rfl
            have et : (s.drop (i + 1)).tail = s.drop (i + 2) := by rw [List.drop_eq_getElem_cons h3]; rfl
            rw [eh, et]
            by_cases h4 : s[i + 1] = 34
            · rw [if_pos (show some s[i + 1] = some 34 by rw [h4])]
              refine im (by simp [h4]) (ip (by rw [sb_len]; simp; omega) ?_)
              have e2 : IntKind.i64.wrap ((i : Int) + 2) = ((i + 2 : Nat) : Int) := by rw [w64 (by omega) (by omega)]; rfl
              rw [e2, strB_34]
              refine (ih (i + 2) (acc ++ [34]) (by omega) (by omega) (by simp; omega)).trans ?_
              cases strL (s.drop (i + 2)) with
              | none => rfl
              | some r =>
                show some (mrkR (acc ++ [34]) (i + 2) (some r)) = some (mrkR acc i (some (34 :: r.1, r.2 + 2)))
                rw [mrkR_some, mrkR_some]
                rw [List.append_assoc, show i + 2 + r.2 = i + (r.2 + 2) by omega]; rfl
            · rw [if_neg (show ¬ some s[i + 1] = some 34 from fun h => h4 (Option.some.inj h))]
              refine ip (decide_eq_true h4) (ip (strB_shp _) ?_)
              rw [mrkR_some, List.append_nil, bytes_str]
          · have c3 : decide (((i + 1 : Nat) : Int) ≥ ((B s).size : Int)) = true := by rw [decide_eq_true_eq, B_size]; omega
            rw [c3]
            simp only [bs, tb, if_true]
            rw [List.drop_eq_nil_of_le (show s.length ≤ i + 1 by omega), if_neg (show ¬ ([] : List UInt8).head? = some 34 by simp)]
            refine ip (strB_shp _) ?_
            rw [mrkR_some, List.append_nil, bytes_str]
        · rw [if_neg h2]
          refine ip (decide_eq_true h2) (ip c1 (ip c2 (ip (by rw [sb_len]; simp; omega) ?_)))
          rw [strB_add, nx he (by omega)]
          refine (ih (i + 1) (acc ++ [s[i]]) (by omega) (by omega) (by simp; omega)).trans ?_
          cases strL (s.drop (i + 1)) with
          | none => rfl
          | some r =>
            show some (mrkR (acc ++ [s[i]]) (i + 1) (some r)) = some (mrkR acc i (some (s[i] :: r.1, r.2 + 1)))
            rw [mrkR_some, mrkR_some]
            rw [List.append_assoc, show i + 1 + r.2 = i + (r.2 + 1) by omega]; rfl
    · exact stop i acc (by omega)
theorem marked_ev (s : List UInt8) (hl : s.length ≤ 100000) (a : Nat) (ha : a < s.length) : D 95 [.sc (.string (B s)), .sc (.int .i64 (a : Int))] = some (mrkR [] (a + 1) (strL (s.drop (a + 1)))) := by
  rw [f95_eq 0, nx ha (by omega)]
  exact marked_l s hl s.length (a + 1) [] (by omega) (by omega) (by simp)
theorem pre_take (t s : List UInt8) : (decide (s.length ≥ t.length) && (s.take t.length == t)) = t.isPrefixOf s := by
  rw [Bool.eq_iff_iff, List.isPrefixOf_iff_prefix]
  simp only [Bool.and_eq_true, decide_eq_true_eq, beq_iff_eq]
  constructor
  · rintro ⟨_, h⟩
    rw [← h]; exact List.take_prefix _ _
  · intro h
    refine ⟨h.length_le, ?_⟩
    obtain ⟨z, rfl⟩ := h
    exact List.take_left
theorem rsgn_l (s : List UInt8) (hl : s.length ≤ 100000) (a : Nat) (ha : a ≤ s.length) : ∀ (d i : Nat), i + d = sigs.length → f97.l0a 0 (B s) (a : Int) (i : Int) sgs = some (.sc (.string (B (((sigs.drop i).find? (fun t => t.isPrefixOf (s.drop a))).getD [])))) := by
  have hs : sigs.length = 17 := rfl
  have hsg : sgs.length = 17 := rfl
  intro d
  induction d with
  | zero =>
    intro i h
    rw [f97.l0a_eq, List.drop_eq_nil_of_le (show sigs.length ≤ i by omega)]
    exact im (by rw [decide_eq_true_eq]; omega) rfl
  | succ d ih =>
    intro i h
    have hi : i < sigs.length := by omega
    have hlt := (sigs_len (List.getElem_mem hi)).2
    rw [f97.l0a_eq, List.drop_eq_getElem_cons hi, List.find?_cons]
    rw [Int.toNat_natCast, sgs_get hi]
    have c1 : (0 : Int) ≤ (i : Int) := by omega
    have c2 : (i : Int) < (sgs.length : Int) := by omega
    refine ip (decide_eq_true c2) (ip c1 (ip c2 (ip rfl ?_)))
    have ew : IntKind.i64.wrap (((B s).size : Int) - (a : Int)) = ((s.length - a : Nat) : Int) := by rw [B_size, w64 (by omega) (by omega)]; omega
    have et : (PV.sc (.string (B sigs[i]))).toStr = B sigs[i] := rfl
    have es : ((B sigs[i]).size : Int) = (sigs[i].length : Int) := rfl
    have ew2 : IntKind.i64.wrap ((a : Int) + (sigs[i].length : Int)) = ((a + sigs[i].length : Nat) : Int) := by rw [w64 (by omega) (by omega)]; omega
    rw [et, es, ew, ew2, Int.toNat_natCast, Int.toNat_natCast, B_extract, B_toList, B_toList, show a + sigs[i].length - a = sigs[i].length by omega]
    have hpt := pre_take sigs[i] (s.drop a)
    rw [List.length_drop] at hpt
    have shs2 : hasSh .str (PV.sc (.string (B sigs[i]))) = true := rfl
    by_cases hc : s.length - a ≥ sigs[i].length
    · have c3 : decide (((s.length - a : Nat) : Int) ≥ (sigs[i].length : Int)) = true := by rw [decide_eq_true_eq]; omega
      have c4 : (0 : Int) ≤ ((a + sigs[i].length : Nat) : Int) := by omega
      have c5 : ((a + sigs[i].length : Nat) : Int) ≤ ((B s).size : Int) := by rw [B_size]; omega
      have c6 : (0 : Int) ≤ (a : Int) := by omega
      have c7 : (a : Int) ≤ ((a + sigs[i].length : Nat) : Int) := by omega
      rw [decide_eq_true hc, Bool.true_and] at hpt
      rw [c3, hpt]
      simp only [bs, tb, if_true, if_pos c1, if_pos c2, if_pos c4, if_pos c5, if_pos c6, if_pos c7, shs2]
      cases hp : sigs[i].isPrefixOf (s.drop a)
      · refine im (by decide) ?_
        rw [nx (i := i) (n := 17) (by omega) (by decide)]
        exact ih (i + 1) (by omega)
      · exact ip rfl rfl
    · have c3 : decide (((s.length - a : Nat) : Int) ≥ (sigs[i].length : Int)) = false := by rw [decide_eq_false_iff_not]; omega
      rw [decide_eq_false hc, Bool.false_and] at hpt
      rw [c3, ← hpt]
      simp only [bs, tb, Bool.false_eq_true, if_false]
      rw [nx (i := i) (n := 17) (by omega) (by decide)]
      exact ih (i + 1) (by omega)
theorem rsign_ev (s : List UInt8) (hl : s.length ≤ 100000) (a : Nat) (ha : a ≤ s.length) : D 97 [.sc (.string (B s)), .sc (.int .i64 (a : Int))] = some (.sc (.string (B ((signL (s.drop a)).getD [])))) := by
  rw [f97_eq 0]
  exact rsgn_l s hl a ha 17 0 rfl
def rerrR (a e : Int) : PV := .agg [.nils, .sc (.int .i64 a), .sc (.int .i64 e)]
def rokR (l : List Tk) : PV := .agg [frozen 4 (tp l), .sc (.int .i64 0), .sc (.int .i64 0)]
def rlexR (ts : List Tk) : Nat ⊕ List Tk → PV
  | .inl e => rerrR e 1
  | .inr l => rokR (ts ++ l)
/-- One token: what the body of the loop answers, whatever stands behind it (K). -/
theorem rword_b (s : List UInt8) (hl : s.length ≤ 1000) (a : Nat) (out : List PV) (t1 : Int) : ∀ (d e : Nat), e + d = s.length → a ≤ e → f51.l1b 0 (B s) (a : Int) (e : Int) 0 0 out 0 t1 EM 0 = f51.j2b 0 (B s) (a : Int) ((e + runW (s.drop e) : Nat) : Int) 0 0 out 3 t1 (B ((s.drop a).take (e + runW (s.drop e) - a))) 0 := by
  intro d
  induction d with
  | zero =>
    intro e h ha
    rw [f51.l1b_eq]
    have c : decide ((e : Int) < ((B s).size : Int)) = false := by rw [decide_eq_false_iff_not, B_size]; omega
    rw [c, List.drop_eq_nil_of_le (show s.length ≤ e by omega)]
    simp only [bs, tb, Bool.false_eq_true, if_false]
    refine ip (by omega) (ip (by rw [B_size]; omega) (ip (by omega) (ip (by omega) ?_)))
    rw [Int.toNat_natCast, Int.toNat_natCast, B_extract]
    rfl
  | succ d ih =>
    intro e h ha
    have he : e < s.length := by omega
    rw [f51.l1b_eq]
    have c1 : (0 : Int) ≤ (e : Int) := by omega
    have c2 : (e : Int) < ((B s).size : Int) := by rw [B_size]; omega
    have c : decide ((e : Int) < ((B s).size : Int)) = true := decide_eq_true c2
    have hd := digit_g s e
    rw [isDp_eq, dif_pos he] at hd
    rw [c, B_bt he, List.drop_eq_getElem_cons he, runW, rupper_ev, hd]
    simp only [bs, shb, tb, if_true, if_pos c1, if_pos c2, bO]
    by_cases hw : wrdB s[e] = true
    · rw [if_pos hw]
      refine ip hw ?_
      rw [nx he (by omega), show e + (runW (s.drop (e + 1)) + 1) = e + 1 + runW (s.drop (e + 1)) by omega]
      exact ih (e + 1) (by omega) (by omega)
    · rw [if_neg hw]
      refine im hw (ip (by rw [B_size]; omega) (ip (by omega) (ip (by omega) ?_)))
      rw [Int.toNat_natCast, Int.toNat_natCast, B_extract]
      rfl
theorem rword_a (s : List UInt8) (hl : s.length ≤ 1000) (a : Nat) (t1 : Int) : ∀ (d e : Nat), e + d = s.length → a ≤ e → f51.l1a 0 (B s) (a : Int) (e : Int) 0 0 0 t1 EM 0 = f51.j2a 0 (B s) (a : Int) ((e + runW (s.drop e) : Nat) : Int) 0 0 3 t1 (B ((s.drop a).take (e + runW (s.drop e) - a))) 0 := by
  intro d
  induction d with
  | zero =>
    intro e h ha
    rw [f51.l1a_eq]
    have c : decide ((e : Int) < ((B s).size : Int)) = false := by rw [decide_eq_false_iff_not, B_size]; omega
    rw [c, List.drop_eq_nil_of_le (show s.length ≤ e by omega)]
    simp only [bs, tb, Bool.false_eq_true, if_false]
    refine ip (by omega) (ip (by rw [B_size]; omega) (ip (by omega) (ip (by omega) ?_)))
    rw [Int.toNat_natCast, Int.toNat_natCast, B_extract]
    rfl
  | succ d ih =>
    intro e h ha
    have he : e < s.length := by omega
    rw [f51.l1a_eq]
    have c1 : (0 : Int) ≤ (e : Int) := by omega
    have c2 : (e : Int) < ((B s).size : Int) := by rw [B_size]; omega
    have c : decide ((e : Int) < ((B s).size : Int)) = true := decide_eq_true c2
    have hd := digit_g s e
    rw [isDp_eq, dif_pos he] at hd
    rw [c, B_bt he, List.drop_eq_getElem_cons he, runW, rupper_ev, hd]
    simp only [bs, shb, tb, if_true, if_pos c1, if_pos c2, bO]
    by_cases hw : wrdB s[e] = true
    · rw [if_pos hw]
      refine ip hw ?_
      rw [nx he (by omega), show e + (runW (s.drop (e + 1)) + 1) = e + 1 + runW (s.drop (e + 1)) by omega]
      exact ih (e + 1) (by omega) (by omega)
    · rw [if_neg hw]
      refine im hw (ip (by rw [B_size]; omega) (ip (by omega) (ip (by omega) ?_)))
      rw [Int.toNat_natCast, Int.toNat_natCast, B_extract]
      rfl
/-- The loop's body goes to the join with a token's parts: with its end, or with its beginning, if there is none. -/
theorem rtok_b (s : List UInt8) (hl : s.length ≤ 1000) (a : Nat) (ha : a < s.length) (out : List PV) (hb : s[a] ≠ 32) : (∃ t n, nextL (s.drop a) = some (t, n) ∧ f51.l0b 0 (B s) (a : Int) 0 0 out = f51.j2b 0 (B s) (a : Int) ((a + n : Nat) : Int) 0 0 out (t.kind : Int) (a : Int) (B t.text) t.num) ∨ (nextL (s.drop a) = none ∧ ∃ k x n, f51.l0b 0 (B s) (a : Int) 0 0 out = f51.j2b 0 (B s) (a : Int) (a : Int) 0 0 out k (a : Int) x n) := by
  have c1 : (0 : Int) ≤ (a : Int) := by omega
  have c2 : (a : Int) < ((B s).size : Int) := by rw [B_size]; omega
  have ed := List.drop_eq_getElem_cons ha
  have hdl : (s.drop a).length ≤ 1000 := by rw [List.length_drop]; omega
  have hd := digit_g s a
  rw [isDp_eq, dif_pos ha] at hd
  have h32 : ¬ ((bt (B s) (a : Int) == 32) = true) := by rw [bt_32 ha]; simpa using hb
  have h34 := bt34 ha
  by_cases hdg : isD s[a] = true
  · have hld := rlead_ev (l := s.drop a) (by omega)
    have hb0 := f51.l0b_eq 0 (B s) (a : Int) 0 0 out
    have go : f51.l0b 0 (B s) (a : Int) 0 0 out = f51.j2b 0 (B s) (a : Int) (IntKind.i64.wrap ((a : Int) + (leadL (s.drop a)).2.1)) 0 0 out 1 (a : Int) EM (leadL (s.drop a)).1 := by
      rw [hb0]
      refine ip (decide_eq_true c2) (ip c1 (ip c2 (im h32 (cb hd rfl (ip hdg (ip (by omega) (ip (Int.le_refl _) (ip c1 (ip (by omega) ?_)))))))))
      rw [ext_drop]
      exact cb hld rfl rfl
    by_cases h : (leadL (s.drop a)).2.2 = true
    · left
      have e3 : (leadL (s.drop a)).2.1 = (leadn (s.drop a) : Int) := by
        unfold leadL at h ⊢
        split at h
        · rename_i hh; rw [if_pos hh]
        · cases h
      have hle := leadn_le (s.drop a)
      rw [List.length_drop] at hle
      refine ⟨⟨1, 0, [], (leadL (s.drop a)).1⟩, leadn (s.drop a), ?_, ?_⟩
      · rw [ed, nextL, if_pos hdg, ← ed, if_pos h]
      · rw [go, e3, w64 (by omega) (by omega)]
        rfl
    · right
      refine ⟨by rw [ed, nextL, if_pos hdg, ← ed, if_neg h], 1, EM, 0, ?_⟩
      have e3 : leadL (s.drop a) = (0, 0, false) := by
        unfold leadL at h ⊢
        split at h
        · exact absurd rfl h
        · rename_i hh; rw [if_neg hh]
      rw [go, e3]
      show f51.j2b 0 (B s) (a : Int) (IntKind.i64.wrap ((a : Int) + 0)) 0 0 out 1 (a : Int) EM 0 = _
      rw [w64 (by omega) (by omega), Int.add_zero]
  · by_cases h2 : s[a] = 34
    · have hm := marked_ev s (by omega) a ha
      have hb0 := f51.l0b_eq 0 (B s) (a : Int) 0 0 out
      have hsl : ∀ r, strL (s.drop (a + 1)) = some r → r.2 ≤ (s.drop (a + 1)).length := fun r hr => strL_le _ _ hr
      have ne : nextL (s.drop a) = (strL (s.drop (a + 1))).map (fun r => (⟨2, 0, r.1, 0⟩, r.2 + 1)) := by rw [ed, nextL, if_neg hdg, if_pos h2]
      rw [ne]
      cases hs : strL (s.drop (a + 1)) with
      | none =>
        right
        rw [hs] at hm
        refine ⟨rfl, 2, EM, 0, ?_⟩
        rw [hb0]
        exact ip (decide_eq_true c2) (ip c1 (ip c2 (im h32 (cb hd rfl (im hdg (ip c1 (ip c2 (ip (by rw [h34]; exact decide_eq_true h2) (cb hm rfl (im (show ¬ decide ((-1 : Int) ≥ 0) = true by decide) rfl))))))))))
      | some r =>
        left
        rw [hs] at hm
        have hr := hsl r hs
        rw [List.length_drop] at hr
        refine ⟨⟨2, 0, r.1, 0⟩, r.2 + 1, rfl, ?_⟩
        rw [hb0]
        refine ip (decide_eq_true c2) (ip c1 (ip c2 (im h32 (cb hd rfl (im hdg (ip c1 (ip c2 (ip (by rw [h34]; exact decide_eq_true h2) (cb hm rfl (ip ?_ ?_))))))))))
        · show decide (((a + 1 + r.2 : Nat) : Int) ≥ 0) = true
          rw [decide_eq_true_eq]; omega
        · rw [show a + (r.2 + 1) = a + 1 + r.2 by omega]
          rfl
    · have hu := rupper_ev s[a]
      have hb0 := f51.l0b_eq 0 (B s) (a : Int) 0 0 out
      have h34' : ¬ ((bt (B s) (a : Int) == 34) = true) := by rw [h34]; simpa using h2
      by_cases h3 : uppB s[a] = true
      · left
        refine ⟨⟨3, 0, s[a] :: (s.drop (a + 1)).take (runW (s.drop (a + 1))), 0⟩, runW (s.drop (a + 1)) + 1, by rw [ed, nextL, if_neg hdg, if_neg h2, if_pos h3], ?_⟩
        rw [hb0]
        rw [B_bt ha] at h34' ⊢
        refine ip (decide_eq_true c2) (ip c1 (ip c2 (im (by rw [← B_bt ha]; exact h32) (cb hd rfl (im hdg (ip c1 (ip c2 (im h34' (ip c1 (ip c2 (cb hu rfl (ip h3 ?_))))))))))))
        rw [rword_b s hl a out (a : Int) (s.length - a) a (by omega) (Nat.le_refl _)]
        have ew : runW (s.drop a) = runW (s.drop (a + 1)) + 1 := by
          rw [ed, runW, if_pos (by unfold wrdB; rw [h3]; rfl)]
        rw [ew, show a + (runW (s.drop (a + 1)) + 1) - a = runW (s.drop (a + 1)) + 1 by omega]
        conv => lhs; rw [ed, List.take_succ_cons]
        rfl
      · have hsg := rsign_ev s (by omega) a (by omega)
        have ne : nextL (s.drop a) = (signL (s.drop a)).map (fun t => (⟨4, 0, t, 0⟩, t.length)) := by rw [ed, nextL, if_neg hdg, if_neg h2, if_neg h3]
        have go : f51.l0b 0 (B s) (a : Int) 0 0 out = f51.j2b 0 (B s) (a : Int) (IntKind.i64.wrap ((a : Int) + (((signL (s.drop a)).getD []).length : Int))) 0 0 out 4 (a : Int) (B ((signL (s.drop a)).getD [])) 0 := by
          rw [hb0]
          rw [B_bt ha] at h34' ⊢
          refine ip (decide_eq_true c2) (ip c1 (ip c2 (im (by rw [← B_bt ha]; exact h32) (cb hd rfl (im hdg (ip c1 (ip c2 (im h34' (ip c1 (ip c2 (cb hu rfl (im h3 (cb hsg rfl rfl)))))))))))))
        rw [ne, go]
        cases hs : signL (s.drop a) with
        | none =>
          right
          refine ⟨rfl, 4, EM, 0, ?_⟩
          show f51.j2b 0 (B s) (a : Int) (IntKind.i64.wrap ((a : Int) + 0)) 0 0 out 4 (a : Int) EM 0 = _
          rw [w64 (by omega) (by omega), Int.add_zero]
        | some t =>
          left
          have hlt := (sigs_len (sign_pre hs).2).2
          refine ⟨⟨4, 0, t, 0⟩, t.length, rfl, ?_⟩
          show f51.j2b 0 (B s) (a : Int) (IntKind.i64.wrap ((a : Int) + (t.length : Int))) 0 0 out 4 (a : Int) (B t) 0 = _
          rw [w64 (by omega) (by omega)]
          rfl
theorem rpush_b (s : List UInt8) (a e : Nat) (ts : List Tk) (k : Nat) (x : List UInt8) (n : Int) (hae : a < e) (ht : ts.length ≤ 100000) : f51.j2b 0 (B s) (a : Int) (e : Int) 0 0 (tp ts) (k : Int) (a : Int) (B x) n = f51.l0b 0 (B s) (e : Int) 0 0 (tp (ts ++ [⟨k, a, x, n⟩])) := by
  rw [f51.j2b_eq, ← tp_app]
  exact im (by rw [beq_iff_eq]; omega) (ip (by rw [tp_len]; simp; omega) rfl)
theorem rlex_b (s : List UInt8) (hl : s.length ≤ 1000) : ∀ (d a : Nat) (ts : List Tk), a ≤ s.length → s.length - a ≤ d → ts.length ≤ a → f51.l0b 0 (B s) (a : Int) 0 0 (tp ts) = some (rlexR ts (lexL a (s.drop a))) := by
  have stop : ∀ (a : Nat) (ts : List Tk), a = s.length → ts.length ≤ a → f51.l0b 0 (B s) (a : Int) 0 0 (tp ts) = some (rlexR ts (lexL a (s.drop a))) := by
    intro a ts ha ht
    rw [f51.l0b_eq, List.drop_eq_nil_of_le (by omega), lexL_nil]
    refine im (by rw [decide_eq_true_eq, B_size]; omega) (ip (by rw [tp_len]; simp; omega) ?_)
    show _ = some (rokR (ts ++ [⟨5, a, [], 0⟩]))
    unfold rokR
    rw [← tp_app]
    rw [B_size, ← ha]; rfl
  intro d
  induction d with
  | zero => intro a ts ha hd ht; exact stop a ts (by omega) ht
  | succ d ih =>
    intro a ts ha hd ht
    by_cases hi : a < s.length
    · by_cases hb : s[a] = 32
      · rw [f51.l0b_eq]
        have c1 : (0 : Int) ≤ (a : Int) := by omega
        have c2 : (a : Int) < ((B s).size : Int) := by rw [B_size]; omega
        refine ip (decide_eq_true c2) (ip c1 (ip c2 (ip (by rw [bt_32 hi]; exact decide_eq_true hb) ?_)))
        rw [nx hi (by omega), List.drop_eq_getElem_cons hi, hb, lexL_blank]
        exact ih (a + 1) ts (by omega) (by omega) (by omega)
      · have ed := List.drop_eq_getElem_cons hi
        rcases rtok_b s hl a hi (tp ts) hb with ⟨t, n, e1, e2⟩ | ⟨e1, k, x, n, e2⟩
        · rw [e2]
          have hle := next_le e1
          rw [List.length_drop] at hle
          rw [rpush_b s a (a + n) ts t.kind t.text t.num (by omega) (by omega)]
          have := ih (a + n) (ts ++ [t.put a]) (by omega) (by omega) (by simp; omega)
          rw [ed] at e1
          rw [ed, lexL_tok hb e1, ← ed, List.drop_drop]
          refine Eq.trans this ?_
          cases lexL (a + n) (s.drop (a + n)) with
          | inl e => rfl
          | inr r =>
            show some (rokR (ts ++ [t.put a] ++ r)) = some (rokR (ts ++ (t.put a :: r)))
            rw [List.append_assoc]; rfl
        · rw [e2, f51.j2b_eq]
          rw [ed] at e1
          rw [ed, lexL_bad hb e1]
          exact ip (by rw [beq_iff_eq]) rfl
    · exact stop a ts (by omega) ht
end Go.Den.EX
/- The reference's tokens (the first one); tokens as text: both. -/
set_option linter.unusedVariables false
set_option linter.unusedSimpArgs false
set_option maxRecDepth 100000
namespace Go.Den.EX
open Go Go.Proofs
/-- The loop's body goes to the join with a token's parts: with its end, or with its beginning, if there is none. -/
theorem rtok_a (s : List UInt8) (hl : s.length ≤ 1000) (a : Nat) (ha : a < s.length) (hb : s[a] ≠ 32) : (∃ t n, nextL (s.drop a) = some (t, n) ∧ f51.l0a 0 (B s) (a : Int) 0 0 = f51.j2a 0 (B s) (a : Int) ((a + n : Nat) : Int) 0 0 (t.kind : Int) (a : Int) (B t.text) t.num) ∨ (nextL (s.drop a) = none ∧ ∃ k x n, f51.l0a 0 (B s) (a : Int) 0 0 = f51.j2a 0 (B s) (a : Int) (a : Int) 0 0 k (a : Int) x n) := by
  have c1 : (0 : Int) ≤ (a : Int) := by omega
  have c2 : (a : Int) < ((B s).size : Int) := by rw [B_size]; omega
  have ed := List.drop_eq_getElem_cons ha
  have hdl : (s.drop a).length ≤ 1000 := by rw [List.length_drop]; omega
  have hd := digit_g s a
  rw [isDp_eq, dif_pos ha] at hd
  have h32 : ¬ ((bt (B s) (a : Int) == 32) = true) := by rw [bt_32 ha]; simpa using hb
  have h34 := bt34 ha
  by_cases hdg : isD s[a] = true
  · have hld := rlead_ev (l := s.drop a) (by omega)
    have hb0 := f51.l0a_eq 0 (B s) (a : Int) 0 0
    have go : f51.l0a 0 (B s) (a : Int) 0 0 = f51.j2a 0 (B s) (a : Int) (IntKind.i64.wrap ((a : Int) + (leadL (s.drop a)).2.1)) 0 0 1 (a : Int) EM (leadL (s.drop a)).1 := by
      rw [hb0]
      refine ip (decide_eq_true c2) (ip c1 (ip c2 (im h32 (cb hd rfl (ip hdg (ip (by omega) (ip (Int.le_refl _) (ip c1 (ip (by omega) ?_)))))))))
      rw [ext_drop]
      exact cb hld rfl rfl
    by_cases h : (leadL (s.drop a)).2.2 = true
    · left
      have e3 : (leadL (s.drop a)).2.1 = (leadn (s.drop a) : Int) := by
        unfold leadL at h ⊢
        split at h
        · rename_i hh; rw [if_pos hh]
        · cases h
      have hle := leadn_le (s.drop a)
      rw [List.length_drop] at hle
      refine ⟨⟨1, 0, [], (leadL (s.drop a)).1⟩, leadn (s.drop a), ?_, ?_⟩
      · rw [ed, nextL, if_pos hdg, ← ed, if_pos h]
      · rw [go, e3, w64 (by omega) (by omega)]
        rfl
    · right
      refine ⟨by rw [ed, nextL, if_pos hdg, ← ed, if_neg h], 1, EM, 0, ?_⟩
      have e3 : leadL (s.drop a) = (0, 0, false) := by
        unfold leadL at h ⊢
        split at h
        · exact absurd rfl h
        · rename_i hh; rw [if_neg hh]
      rw [go, e3]
      show f51.j2a 0 (B s) (a : Int) (IntKind.i64.wrap ((a : Int) + 0)) 0 0 1 (a : Int) EM 0 = _
      rw [w64 (by omega) (by omega), Int.add_zero]
  · by_cases h2 : s[a] = 34
    · have hm := marked_ev s (by omega) a ha
      have hb0 := f51.l0a_eq 0 (B s) (a : Int) 0 0
      have hsl : ∀ r, strL (s.drop (a + 1)) = some r → r.2 ≤ (s.drop (a + 1)).length := fun r hr => strL_le _ _ hr
      have ne : nextL (s.drop a) = (strL (s.drop (a + 1))).map (fun r => (⟨2, 0, r.1, 0⟩, r.2 + 1)) := by rw [ed, nextL, if_neg hdg, if_pos h2]
      rw [ne]
      cases hs : strL (s.drop (a + 1)) with
      | none =>
        right
        rw [hs] at hm
        refine ⟨rfl, 2, EM, 0, ?_⟩
        rw [hb0]
        exact ip (decide_eq_true c2) (ip c1 (ip c2 (im h32 (cb hd rfl (im hdg (ip c1 (ip c2 (ip (by rw [h34]; exact decide_eq_true h2) (cb hm rfl (im (show ¬ decide ((-1 : Int) ≥ 0) = true by decide) rfl))))))))))
      | some r =>
        left
        rw [hs] at hm
        have hr := hsl r hs
        rw [List.length_drop] at hr
        refine ⟨⟨2, 0, r.1, 0⟩, r.2 + 1, rfl, ?_⟩
        rw [hb0]
        refine ip (decide_eq_true c2) (ip c1 (ip c2 (im h32 (cb hd rfl (im hdg (ip c1 (ip c2 (ip (by rw [h34]; exact decide_eq_true h2) (cb hm rfl (ip ?_ ?_))))))))))
        · show decide (((a + 1 + r.2 : Nat) : Int) ≥ 0) = true
          rw [decide_eq_true_eq]; omega
        · rw [show a + (r.2 + 1) = a + 1 + r.2 by omega]
          rfl
    · have hu := rupper_ev s[a]
      have hb0 := f51.l0a_eq 0 (B s) (a : Int) 0 0
      have h34' : ¬ ((bt (B s) (a : Int) == 34) = true) := by rw [h34]; simpa using h2
      by_cases h3 : uppB s[a] = true
      · left
        refine ⟨⟨3, 0, s[a] :: (s.drop (a + 1)).take (runW (s.drop (a + 1))), 0⟩, runW (s.drop (a + 1)) + 1, by rw [ed, nextL, if_neg hdg, if_neg h2, if_pos h3], ?_⟩
        rw [hb0]
        rw [B_bt ha] at h34' ⊢
        refine ip (decide_eq_true c2) (ip c1 (ip c2 (im (by rw [← B_bt ha]; exact h32) (cb hd rfl (im hdg (ip c1 (ip c2 (im h34' (ip c1 (ip c2 (cb hu rfl (ip h3 ?_))))))))))))
        rw [rword_a s hl a (a : Int) (s.length - a) a (by omega) (Nat.le_refl _)]
        have ew : runW (s.drop a) = runW (s.drop (a + 1)) + 1 := by
          rw [ed, runW, if_pos (by unfold wrdB; rw [h3]; rfl)]
        rw [ew, show a + (runW (s.drop (a + 1)) + 1) - a = runW (s.drop (a + 1)) + 1 by omega]
        conv => lhs; rw [ed, List.take_succ_cons]
        rfl
      · have hsg := rsign_ev s (by omega) a (by omega)
        have ne : nextL (s.drop a) = (signL (s.drop a)).map (fun t => (⟨4, 0, t, 0⟩, t.length)) := by rw [ed, nextL, if_neg hdg, if_neg h2, if_neg h3]
        have go : f51.l0a 0 (B s) (a : Int) 0 0 = f51.j2a 0 (B s) (a : Int) (IntKind.i64.wrap ((a : Int) + (((signL (s.drop a)).getD []).length : Int))) 0 0 4 (a : Int) (B ((signL (s.drop a)).getD [])) 0 := by
          rw [hb0]
          rw [B_bt ha] at h34' ⊢
          refine ip (decide_eq_true c2) (ip c1 (ip c2 (im (by rw [← B_bt ha]; exact h32) (cb hd rfl (im hdg (ip c1 (ip c2 (im h34' (ip c1 (ip c2 (cb hu rfl (im h3 (cb hsg rfl rfl)))))))))))))
        rw [ne, go]
        cases hs : signL (s.drop a) with
        | none =>
          right
          refine ⟨rfl, 4, EM, 0, ?_⟩
          show f51.j2a 0 (B s) (a : Int) (IntKind.i64.wrap ((a : Int) + 0)) 0 0 4 (a : Int) EM 0 = _
          rw [w64 (by omega) (by omega), Int.add_zero]
        | some t =>
          left
          have hlt := (sigs_len (sign_pre hs).2).2
          refine ⟨⟨4, 0, t, 0⟩, t.length, rfl, ?_⟩
          show f51.j2a 0 (B s) (a : Int) (IntKind.i64.wrap ((a : Int) + (t.length : Int))) 0 0 4 (a : Int) (B t) 0 = _
          rw [w64 (by omega) (by omega)]
          rfl
theorem rlex_a (s : List UInt8) (hl : s.length ≤ 1000) : ∀ (d a : Nat), a ≤ s.length → s.length - a ≤ d → f51.l0a 0 (B s) (a : Int) 0 0 = some (rlexR [] (lexL a (s.drop a))) := by
  have stop : ∀ (a : Nat), a = s.length → f51.l0a 0 (B s) (a : Int) 0 0 = some (rlexR [] (lexL a (s.drop a))) := by
    intro a ha
    rw [f51.l0a_eq, List.drop_eq_nil_of_le (by omega), lexL_nil]
    refine im (by rw [decide_eq_true_eq, B_size]; omega) (ip (by simp) ?_)
    rw [B_size, ← ha]; rfl
  intro d
  induction d with
  | zero => intro a ha hd; exact stop a (by omega)
  | succ d ih =>
    intro a ha hd
    by_cases hi : a < s.length
    · by_cases hb : s[a] = 32
      · rw [f51.l0a_eq]
        have c1 : (0 : Int) ≤ (a : Int) := by omega
        have c2 : (a : Int) < ((B s).size : Int) := by rw [B_size]; omega
        refine ip (decide_eq_true c2) (ip c1 (ip c2 (ip (by rw [bt_32 hi]; exact decide_eq_true hb) ?_)))
        rw [nx hi (by omega), List.drop_eq_getElem_cons hi, hb, lexL_blank]
        exact ih (a + 1) (by omega) (by omega)
      · have ed := List.drop_eq_getElem_cons hi
        rcases rtok_a s hl a hi hb with ⟨t, n, e1, e2⟩ | ⟨e1, k, x, n, e2⟩
        · rw [e2]
          have hle := next_le e1
          rw [List.length_drop] at hle
          rw [f51.j2a_eq]
          have := rlex_b s hl s.length (a + n) [t.put a] (by omega) (by omega) (by simp; omega)
          rw [ed] at e1
          rw [ed, lexL_tok hb e1, ← ed, List.drop_drop]
          refine im (by rw [beq_iff_eq]; omega) (ip (by simp) ?_)
          refine Eq.trans this ?_
          cases lexL (a + n) (s.drop (a + n)) with
          | inl e => rfl
          | inr r => rfl
        · rw [e2, f51.j2a_eq]
          rw [ed] at e1
          rw [ed, lexL_bad hb e1]
          exact ip (by rw [beq_iff_eq]) rfl
    · exact stop a (by omega)
def rlexS (s : List UInt8) : PV := if s.length ≤ 200 then rlexR [] (lexL 0 s) else rerrR 0 3
theorem rlex_ev (s : List UInt8) : D 51 [.sc (.string (B s))] = some (rlexS s) := by
  rw [f51_eq 0]
  unfold rlexS
  by_cases h : s.length ≤ 200
  · rw [if_pos h]
    refine im (by rw [decide_eq_true_eq, B_size]; omega) ?_
    have := rlex_a s (by omega) s.length 0 (Nat.zero_le _) (by omega)
    rw [List.drop_zero] at this
    exact this
  · rw [if_neg h]
    exact ip (by rw [decide_eq_true_eq, B_size]; omega) rfl
end Go.Den.EX
/- What the cells of the laws' arguments are. -/
set_option linter.unusedVariables false
set_option maxRecDepth 100000
namespace Go.Den.EX
open Go Go.Proofs
-- LexBack: function 7, types [9]
-- LexTells: function 8, types [9]
theorem on9 (x : PV) : ofCells Tryz.prog 9 [x] = x := by unfold ofCells; rw [Tryz.underlying9]; rfl
theorem ce9 : Tryz.prog.cellsOf 9 = 1 := by kernel_rfl
theorem by9 : Tryz.prog.bytesOf 9 = 16 := by kernel_rfl
theorem of9 {xs : List PV} (h : Ty Tryz.prog 9 xs) : ∃ (a : ByteArray), xs = [.sc (.string a)] ∧ a.size ≤ 140737488351232 := by
  exact ty_str h Tryz.underlying9
end Go.Den.EX
/- Tokens as text: both; the laws. -/
set_option linter.unusedVariables false
set_option linter.unusedSimpArgs false
set_option maxRecDepth 100000
namespace Go.Den.EX
open Go Go.Proofs
def jnB : List (List UInt8) → List UInt8
  | [] => []
  | [w] => w
  | w :: u :: l => w ++ 32 :: jnB (u :: l)
theorem jnB_join : ∀ ws : List (List UInt8), Lib.join ws [32] = jnB ws
  | [] => rfl
  | [w] => by unfold Lib.join jnB; simp [List.intercalate, List.intersperse]
  | w :: u :: l => by
    have ih := jnB_join (u :: l)
    unfold Lib.join at ih ⊢
    rw [jnB, ← ih]
    simp [List.intercalate, List.intersperse]
def okT (t : Tk) : Bool := decide (1 ≤ t.kind) && decide (t.kind ≤ 4)
def tolds (l : List Tk) : List (List UInt8) := (l.filter okT).map telT
theorem tolds_cons (t : Tk) (l : List Tk) : tolds (t :: l) = if okT t = true then telT t :: tolds l else tolds l := by
  unfold tolds
  rw [List.filter_cons]
  split <;> rfl
def fine (t : Tk) : Prop := I64 t.num ∧ t.text.length ≤ 300
theorem tex_len (x : Int) : (texS x).length ≤ 40 := by
  unfold texS
  by_cases h : May x
  · rw [if_pos h]
    have h1 := head_len h
    have h2 : (fracS (x.natAbs % 10000)).length ≤ 5 := by
      unfold fracS
      split
      · simp
      · have := frac_len 4 (x.natAbs % 10000)
        simp; omega
    unfold texL
    rw [List.length_append]; omega
  · rw [if_neg h]; simp
theorem telT_len {t : Tk} (h : fine t) : (telT t).length ≤ 602 := by
  unfold telT
  have h1 := tex_len t.num
  have h2 := dbl_len t.text
  have h3 := h.2
  split
  · omega
  · split
    · unfold quoL; simp; omega
    · omega
theorem jnB_len : ∀ ws : List (List UInt8), (∀ w ∈ ws, w.length ≤ 602) → (jnB ws).length ≤ ws.length * 603
  | [], _ => by simp [jnB]
  | [w], h => by
    have := h w (by simp)
    rw [jnB]; simp; omega
  | w :: u :: l, h => by
    have h1 := h w (by simp)
    have h2 := jnB_len (u :: l) (fun x hx => h x (List.mem_cons_of_mem _ hx))
    rw [jnB]
    simp at h2 ⊢; omega
theorem tolds_le {l : List Tk} (h : ∀ t ∈ l, fine t) : ∀ w ∈ tolds l, w.length ≤ 602 := by
  intro w hw
  unfold tolds at hw
  obtain ⟨t, ht, rfl⟩ := List.mem_map.1 hw
  exact telT_len (h t (List.mem_filter.1 ht).1)
def wsp (ws : List (List UInt8)) : List PV := ws.map fun w => .sc (.string (B w))
theorem wsp_len (ws : List (List UInt8)) : (wsp ws).length = ws.length := by simp [wsp]
theorem wsp_app (ws : List (List UInt8)) (w : List UInt8) : wsp ws ++ [.sc (.string (B w))] = wsp (ws ++ [w]) := by simp [wsp]
theorem joinw_ev (ws : List (List UInt8)) (hl : ws.length ≤ 10000) (h : ∀ w ∈ ws, w.length ≤ 602) (f : Nat → PV) (hf : f = fun i => (wsp ws).getD i .top) : D 79 [.lst 1 ws.length f, .sc (.string (⟨#[32]⟩ : ByteArray))] = some (.sc (.string (B (jnB ws)))) := by
  subst hf
  have e : ∀ x t : PV, D 79 [x, t] = xJoin [x, t] := fun x t => (denI_eq 0 _ _).trans (by kernel_rfl)
  rw [e]
  unfold xJoin
  show (if _ ∧ _ ∧ _ then _ else _) = _
  have ej : joinArgs ws.length (fun i => (wsp ws).getD i .top) = ws.map B := by
    unfold joinArgs
    apply List.ext_getElem
    · simp
    · intro i h1 h2
      have hi : i < ws.length := by simpa using h1
      simp [wsp, hi, PV.toStr]
  have em : (ws.map B).map (·.data.toList) = ws := by
    rw [List.map_map]
    conv => rhs; rw [← List.map_id ws]
    rfl
  have e32 : (⟨#[32]⟩ : ByteArray).data.toList = [32] := rfl
  rw [ej, em, e32, jnB_join]
  have := jnB_len ws h
  refine if_pos ⟨by omega, ?_, by omega⟩
  rw [List.all_eq_true]
  intro i hi
  have hi' : i < ws.length := List.mem_range.1 hi
  simp [wsp, hi']
  rfl
theorem told_one {l : List Tk} {i : Nat} (h : i < l.length) : tolds (l.drop i) = if okT l[i] = true then telT l[i] :: tolds (l.drop (i + 1)) else tolds (l.drop (i + 1)) := by
  rw [List.drop_eq_getElem_cons h, tolds_cons]
theorem text_b (l : List Tk) (hl : l.length ≤ 1000) (hg : ∀ t ∈ l, fine t) : ∀ (d i : Nat) (ws : List (List UInt8)), i + d = l.length → ws.length ≤ i → (∀ w ∈ ws, w.length ≤ 602) → f49.l0b 0 l.length (fun i => (tp l).getD i .top) (l.length : Int) (i : Int) (wsp ws) = some (.sc (.string (B (jnB (ws ++ tolds (l.drop i)))))) := by
  intro d
  induction d with
  | zero =>
    intro i ws h hw hws
    rw [f49.l0b_eq, List.drop_eq_nil_of_le (by omega)]
    refine im (by rw [decide_eq_true_eq]; omega) ?_
    have hj := joinw_ev ws (by omega) hws (fun i => (wsp ws).getD i .top) rfl
    have e : frozen 1 (wsp ws) = .lst 1 ws.length (fun i => (wsp ws).getD i .top) := by unfold frozen; rw [wsp_len]
    rw [e]
    refine cb hj rfl ?_
    show some (PV.sc (.string (B (jnB ws)))) = _
    rw [show tolds [] = [] from rfl, List.append_nil]
  | succ d ih =>
    intro i ws h hw hws
    have hi : i < l.length := by omega
    have hgi := hg l[i] (List.getElem_mem hi)
    have htl := telT_len hgi
    rw [f49.l0b_eq, told_one hi, Int.toNat_natCast, tp_get hi]
    refine ip (by rw [decide_eq_true_eq]; omega) (ip (by omega) (ip (by omega) (ip rfl ?_)))
    rw [tkp_0, tkp_2, tkp_3]
    have push : ∀ w, w = telT l[i] → okT l[i] = true → (if ((wsp ws).length + ([.sc (.string (B w))] : List PV).length) * 16 ≤ 140737488355328 ∧ (wsp ws).length + ([.sc (.string (B w))] : List PV).length ≤ 140737488355328 then f49.l0b 0 l.length (fun i => (tp l).getD i .top) (l.length : Int) (IntKind.i64.wrap ((i : Int) + 1)) (wsp ws ++ ([.sc (.string (B w))] : List PV)) else none) = some (.sc (.string (B (jnB (ws ++ (if okT l[i] = true then telT l[i] :: tolds (l.drop (i + 1)) else tolds (l.drop (i + 1)))))))) := by
      intro w hw' hok
      subst hw'
      refine ip (by rw [wsp_len]; simp; omega) ?_
      rw [wsp_app, nx hi (by omega), if_pos hok]
      have := ih (i + 1) (ws ++ [telT l[i]]) (by omega) (by simp; omega) (by
        intro w hw
        rcases List.mem_append.1 hw with h | h
        · exact hws w h
        · rw [List.mem_singleton.1 h]; exact htl)
      rw [List.append_assoc] at this
      exact this
    by_cases h1 : l[i].kind = 1
    · refine ip (by rw [h1]; rfl) (cb (text_ev hgi.1) rfl ?_)
      exact push (texS l[i].num) (by unfold telT; rw [if_pos h1]) (by unfold okT; rw [h1]; rfl)
    refine im (by rw [beq_iff_eq]; omega) ?_
    by_cases h2 : l[i].kind = 2
    · have e34 : (⟨#[34]⟩ : ByteArray) = B [34] := rfl
      have e3434 : (⟨#[34, 34]⟩ : ByteArray) = B [34, 34] := rfl
      have hx := hgi.2
      rw [e34, e3434]
      refine ip (by rw [h2]; rfl) (cb (repl_ev l[i].text [34] [34, 34] (by omega) (by simp) (by simp)) rfl ?_)
      rw [rep_dbl]
      have hdl := dbl_len l[i].text
      simp only [ts, B_append, B_size]
      refine ip (by omega) (ip (by simp; omega) ?_)
      exact push (quoL l[i].text) (by unfold telT; rw [if_neg h1, if_pos h2]) (by unfold okT; rw [h2]; rfl)
    refine im (by rw [beq_iff_eq]; omega) ?_
    by_cases h3 : l[i].kind = 3
    · refine ip (by rw [h3]; rfl) ?_
      exact push l[i].text (by unfold telT; rw [if_neg h1, if_neg h2]) (by unfold okT; rw [h3]; rfl)
    refine im (by rw [beq_iff_eq]; omega) ?_
    by_cases h4 : l[i].kind = 4
    · refine ip (by rw [h4]; rfl) ?_
      exact push l[i].text (by unfold telT; rw [if_neg h1, if_neg h2]) (by unfold okT; rw [h4]; rfl)
    refine im (by rw [beq_iff_eq]; omega) ?_
    have hno : ¬ okT l[i] = true := by
      unfold okT
      simp only [Bool.and_eq_true, decide_eq_true_eq]; omega
    rw [if_neg hno, nx hi (by omega)]
    exact ih (i + 1) ws (by omega) (by omega) hws
theorem text_a (l : List Tk) (hl : l.length ≤ 1000) (hg : ∀ t ∈ l, fine t) : ∀ (d i : Nat), i + d = l.length → f49.l0a 0 l.length (fun i => (tp l).getD i .top) (l.length : Int) (i : Int) = some (.sc (.string (B (jnB (tolds (l.drop i)))))) := by
  intro d
  induction d with
  | zero =>
    intro i h
    rw [f49.l0a_eq, List.drop_eq_nil_of_le (by omega)]
    refine im (by rw [decide_eq_true_eq]; omega) ?_
    have hj := joinw_ev [] (by simp) (by simp) (fun _ => .top) (by funext i; simp [wsp])
    exact cb hj rfl rfl
  | succ d ih =>
    intro i h
    have hi : i < l.length := by omega
    have hgi := hg l[i] (List.getElem_mem hi)
    have htl := telT_len hgi
    rw [f49.l0a_eq, told_one hi, Int.toNat_natCast, tp_get hi]
    refine ip (by rw [decide_eq_true_eq]; omega) (ip (by omega) (ip (by omega) (ip rfl ?_)))
    rw [tkp_0, tkp_2, tkp_3]
    have push : ∀ w, w = telT l[i] → okT l[i] = true → (if ([.sc (.string (B w))] : List PV).length * 16 ≤ 140737488355328 ∧ ([.sc (.string (B w))] : List PV).length ≤ 140737488355328 then f49.l0b 0 l.length (fun i => (tp l).getD i .top) (l.length : Int) (IntKind.i64.wrap ((i : Int) + 1)) ([.sc (.string (B w))] : List PV) else none) = some (.sc (.string (B (jnB (if okT l[i] = true then telT l[i] :: tolds (l.drop (i + 1)) else tolds (l.drop (i + 1))))))) := by
      intro w hw' hok
      subst hw'
      refine ip (by simp) ?_
      rw [nx hi (by omega), if_pos hok]
      exact text_b l hl hg d (i + 1) [telT l[i]] (by omega) (by simp) (by
        intro w hw
        rw [List.mem_singleton.1 hw]; exact htl)
    by_cases h1 : l[i].kind = 1
    · refine ip (by rw [h1]; rfl) (cb (text_ev hgi.1) rfl ?_)
      exact push (texS l[i].num) (by unfold telT; rw [if_pos h1]) (by unfold okT; rw [h1]; rfl)
    refine im (by rw [beq_iff_eq]; omega) ?_
    by_cases h2 : l[i].kind = 2
    · have e34 : (⟨#[34]⟩ : ByteArray) = B [34] := rfl
      have e3434 : (⟨#[34, 34]⟩ : ByteArray) = B [34, 34] := rfl
      have hx := hgi.2
      rw [e34, e3434]
      refine ip (by rw [h2]; rfl) (cb (repl_ev l[i].text [34] [34, 34] (by omega) (by simp) (by simp)) rfl ?_)
      rw [rep_dbl]
      have hdl := dbl_len l[i].text
      simp only [ts, B_append, B_size]
      refine ip (by omega) (ip (by simp; omega) ?_)
      exact push (quoL l[i].text) (by unfold telT; rw [if_neg h1, if_pos h2]) (by unfold okT; rw [h2]; rfl)
    refine im (by rw [beq_iff_eq]; omega) ?_
    by_cases h3 : l[i].kind = 3
    · refine ip (by rw [h3]; rfl) ?_
      exact push l[i].text (by unfold telT; rw [if_neg h1, if_neg h2]) (by unfold okT; rw [h3]; rfl)
    refine im (by rw [beq_iff_eq]; omega) ?_
    by_cases h4 : l[i].kind = 4
    · refine ip (by rw [h4]; rfl) ?_
      exact push l[i].text (by unfold telT; rw [if_neg h1, if_neg h2]) (by unfold okT; rw [h4]; rfl)
    refine im (by rw [beq_iff_eq]; omega) ?_
    have hno : ¬ okT l[i] = true := by
      unfold okT
      simp only [Bool.and_eq_true, decide_eq_true_eq]; omega
    rw [if_neg hno, nx hi (by omega)]
    exact ih (i + 1) (by omega)
theorem ltext_ev (l : List Tk) (hl : l.length ≤ 1000) (hg : ∀ t ∈ l, fine t) : D 49 [.lst 4 l.length (fun i => (tp l).getD i .top)] = some (.sc (.string (B (jnB (tolds l))))) := by
  rw [f49_eq 0]
  have := text_a l hl hg l.length 0 (by omega)
  rw [List.drop_zero] at this
  exact this
/-- One behind the other, with what is there already. -/
def catX (acc : List UInt8) (ws : List (List UInt8)) : List UInt8 := acc ++ (ws.map fun w => 32 :: w).flatten
theorem catX_jn : ∀ (ws : List (List UInt8)) (w : List UInt8), catX w ws = jnB (w :: ws)
  | [], w => by unfold catX; rw [jnB]; simp
  | u :: ws, w => by
    rw [jnB, ← catX_jn ws u]
    unfold catX
    simp
theorem rltext_l (l : List Tk) (hl : l.length ≤ 1000) (hg : ∀ t ∈ l, fine t) : ∀ (d i : Nat) (acc : List UInt8) (so : Bool), i + d = l.length → acc.length ≤ i * 603 → (so = false → acc = []) → f50.l0a 0 l.length (fun i => (tp l).getD i .top) (B acc) so (i : Int) = some (.sc (.string (B (if so = true then catX acc (tolds (l.drop i)) else jnB (tolds (l.drop i)))))) := by
  intro d
  induction d with
  | zero =>
    intro i acc so h ha hso
    rw [f50.l0a_eq, List.drop_eq_nil_of_le (by omega)]
    refine im (by rw [decide_eq_true_eq]; omega) ?_
    cases so
    · rw [hso rfl]; rfl
    · rw [if_pos rfl]
      unfold catX
      simp [tolds]
  | succ d ih =>
    intro i acc so h ha hso
    have hi : i < l.length := by omega
    have hgi := hg l[i] (List.getElem_mem hi)
    have htl := telT_len hgi
    have c1 : (0 : Int) ≤ (i : Int) := by omega
    have c2 : (i : Int) < (l.length : Int) := by omega
    have eg : (tp l).getD ((i : Int)).toNat PV.top = tkp l[i] := by
      rw [Int.toNat_natCast]; exact tp_get hi
    have j3 : ∀ (acc2 : List UInt8) (so2 : Bool), acc2.length ≤ (i + 1) * 603 → (so2 = false → acc2 = []) → f50.j3a 0 l.length (fun i => (tp l).getD i .top) (B acc2) so2 (i : Int) = some (.sc (.string (B (if so2 = true then catX acc2 (tolds (l.drop (i + 1))) else jnB (tolds (l.drop (i + 1))))))) := by
      intro acc2 so2 h2 h3
      rw [f50.j3a_eq, nx hi (by omega)]
      exact ih (i + 1) acc2 so2 (by omega) h2 h3
    have j2 : ∀ w, (okT l[i] = true → w = telT l[i]) → f50.j2a 0 l.length (fun i => (tp l).getD i .top) (B acc) so (i : Int) (B w) = some (.sc (.string (B (if so = true then catX acc (tolds (l.drop i)) else jnB (tolds (l.drop i)))))) := by
      intro w hw
      rw [f50.j2a_eq, eg, tkp_0, told_one hi]
      refine ip c1 (ip c2 (ip rfl ?_))
      simp only [if_pos c1, if_pos c2, tkp_sh, if_true, bs, tb, bO]
      by_cases hok : okT l[i] = true
      · have hk := hok
        unfold okT at hk
        simp only [Bool.and_eq_true, decide_eq_true_eq] at hk
        rw [hw hok, if_pos hok]
        refine im (by simp only [Bool.or_eq_true, decide_eq_true_eq]; omega) ?_
        cases so
        · refine im (by decide) (ip (by rw [B_size, B_size]; omega) ?_)
          rw [B_append, j3 _ true (by rw [List.length_append]; omega) (fun h => by cases h), if_pos rfl, hso rfl, List.nil_append, catX_jn]
          rfl
        · refine ip rfl (ip (by rw [B_size]; omega) ?_)
          rw [show (⟨#[32]⟩ : ByteArray) = B [32] from rfl, B_append]
          refine ip (by rw [B_size, B_size, List.length_append]; simp; omega) ?_
          rw [B_append, j3 _ true (by simp only [List.length_append, List.length_cons, List.length_nil]; omega) (fun h => by cases h), if_pos rfl]
          unfold catX
          simp
      · have hk := hok
        unfold okT at hk
        simp only [Bool.and_eq_true, decide_eq_true_eq] at hk
        rw [if_neg hok]
        refine ip (by simp only [Bool.or_eq_true, decide_eq_true_eq]; omega) ?_
        exact j3 acc so (by omega) hso
    have j1 : ∀ w, (okT l[i] = true → l[i].kind ≠ 2 → w = telT l[i]) → f50.j1a 0 l.length (fun i => (tp l).getD i .top) (B acc) so (i : Int) (B w) = some (.sc (.string (B (if so = true then catX acc (tolds (l.drop i)) else jnB (tolds (l.drop i)))))) := by
      intro w hw
      rw [f50.j1a_eq, eg, tkp_0, tkp_2]
      refine ip c1 (ip c2 (ip rfl ?_))
      have hx := hgi.2
      by_cases h2 : l[i].kind = 2
      · refine ip (by rw [h2]; rfl) (ip c1 (ip c2 (ip rfl (cb (rquote_ev l[i].text (by omega)) rfl ?_))))
        exact j2 (quoL l[i].text) (fun _ => by unfold telT; rw [if_neg (by omega), if_pos h2])
      · refine im (by rw [beq_iff_eq]; omega) ?_
        exact j2 w (fun h => hw h h2)
    rw [f50.l0a_eq, eg, tkp_0, tkp_2, tkp_3]
    refine ip (decide_eq_true c2) (ip c1 (ip c2 (ip rfl (ip c1 (ip c2 (ip rfl ?_))))))
    by_cases h1 : l[i].kind = 1
    · refine ip (by rw [h1]; rfl) (ip c1 (ip c2 (ip rfl (cb (rtext_ev hgi.1) rfl ?_))))
      exact j1 (texS l[i].num) (fun _ _ => by unfold telT; rw [if_pos h1])
    · refine im (by rw [beq_iff_eq]; omega) ?_
      exact j1 l[i].text (fun _ h2 => by unfold telT; rw [if_neg h1, if_neg h2])
theorem rltext_ev (l : List Tk) (hl : l.length ≤ 1000) (hg : ∀ t ∈ l, fine t) : D 50 [.lst 4 l.length (fun i => (tp l).getD i .top)] = some (.sc (.string (B (jnB (tolds l))))) := by
  rw [f50_eq 0]
  have := rltext_l l hl hg l.length 0 [] false (by omega) (by simp) (fun _ => rfl)
  rw [List.drop_zero] at this
  exact this
theorem strL_tlen : ∀ (l : List UInt8) (r : List UInt8 × Nat), strL l = some r → r.1.length ≤ l.length
  | [], r, h => by rw [strL] at h; cases h
  | [b], r, h => by
    rw [strL] at h
    split at h
    · cases h
    · split at h
      · cases h; simp
      · cases h
  | b :: c :: l, r, h => by
    rw [strL] at h
    split at h
    · cases h
    · split at h
      · split at h
        · obtain ⟨r', h1, rfl⟩ := Option.map_eq_some_iff.1 h
          have := strL_tlen l r' h1
          simp; omega
        · cases h; simp
      · obtain ⟨r', h1, rfl⟩ := Option.map_eq_some_iff.1 h
        have := strL_tlen (c :: l) r' h1
        simp at this ⊢; omega
theorem next_fine {s : List UInt8} {t : Tk} {n : Nat} (h : nextL s = some (t, n)) (hs : s.length ≤ 250) : fine t := by
  rcases s with _ | ⟨b, l⟩
  · cases h
  rw [nextL] at h
  split at h
  · split at h
    · cases h
      refine ⟨?_, by simp⟩
      unfold leadL
      dsimp only
      split
      · exact read_ok.1
      · unfold I64; dsimp only; omega
    · cases h
  · split at h
    · obtain ⟨r, h1, h2⟩ := Option.map_eq_some_iff.1 h
      cases h2
      have := strL_tlen l r h1
      exact ⟨by unfold I64; dsimp only; omega, by simp at hs; dsimp only; omega⟩
    · split at h
      · cases h
        refine ⟨by unfold I64; dsimp only; omega, ?_⟩
        simp at hs
        dsimp only
        simp; omega
      · obtain ⟨r, h1, h2⟩ := Option.map_eq_some_iff.1 h
        cases h2
        have := (sigs_len (sign_pre h1).2).2
        exact ⟨by unfold I64; dsimp only; omega, by dsimp only; omega⟩
theorem lex_fine (N : Nat) : ∀ (a : Nat) (s : List UInt8) (l : List Tk), s.length ≤ N → s.length ≤ 250 → lexL a s = .inr l → ∀ t ∈ l, fine t := by
  have e5 : ∀ a, fine ⟨5, a, [], 0⟩ := fun a => ⟨by unfold I64; dsimp only; omega, by simp⟩
  induction N with
  | zero =>
    intro a s l h h2 e t ht
    obtain rfl : s = [] := List.eq_nil_of_length_eq_zero (by omega)
    rw [lexL_nil] at e
    cases e
    simp at ht
    subst ht; exact e5 _
  | succ N ih =>
    intro a s l h h2 e t ht
    rcases s with _ | ⟨b, s⟩
    · rw [lexL_nil] at e
      cases e
      simp at ht
      subst ht; exact e5 _
    · have h' := h
      have h2' := h2
      simp at h h2
      by_cases hb : b = 32
      · subst hb
        rw [lexL_blank] at e
        exact ih (a + 1) s l h (by omega) e t ht
      · cases hn : nextL (b :: s) with
        | none => rw [lexL_bad hb hn] at e; cases e
        | some x =>
          obtain ⟨t', n⟩ := x
          have hle := next_le hn
          rw [lexL_tok hb hn] at e
          cases hr : lexL (a + n) ((b :: s).drop n) with
          | inl z => rw [hr] at e; cases e
          | inr r =>
            rw [hr] at e
            cases e
            rcases List.mem_cons.1 ht with rfl | ht
            · have := next_fine hn h2'
              exact ⟨this.1, this.2⟩
            · exact ih (a + n) ((b :: s).drop n) r (by simp; omega) (by simp; omega) hr t ht
end Go.Den.EX
/- The tokens of a text; tokens told are read again: the laws. -/
set_option linter.unusedVariables false
set_option linter.unusedSimpArgs false
set_option maxRecDepth 100000
namespace Go.Den.EX
open Go Go.Proofs
theorem same_l (a : List Tk) (hl : a.length ≤ 100000) : ∀ (d i : Nat), i + d = a.length → f54.l0a 0 a.length (fun i => (tp a).getD i .top) a.length (fun i => (tp a).getD i .top) (a.length : Int) (i : Int) = some (.sc (.bool true)) := by
  intro d
  induction d with
  | zero =>
    intro i hi
    rw [f54.l0a_eq]
    exact im (by rw [decide_eq_true_eq]; omega) rfl
  | succ d ih =>
    intro i hi
    have ha : i < a.length := by omega
    rw [f54.l0a_eq]
    have c1 : (0 : Int) ≤ (i : Int) := by omega
    have c2 : (i : Int) < (a.length : Int) := by omega
    rw [Int.toNat_natCast, tp_get ha]
    refine ip (decide_eq_true c2) (ip c1 (ip c2 (ip rfl (ip c1 (ip c2 (ip rfl ?_))))))
    simp only [tkp_0, tkp_1, tkp_2, tkp_3, if_pos c1, if_pos c2, tkp_sh, if_true, bs, tb, bO, bne_self_eq_false, Bool.false_eq_true, if_false, beq_self_eq_true, Bool.not_true, Bool.or_self]
    rw [nx ha (by omega)]
    exact ih (i + 1) (by omega)
theorem same_ev (a : List Tk) (hl : a.length ≤ 100000) : D 54 [.lst 4 a.length (fun i => (tp a).getD i .top), .lst 4 a.length (fun i => (tp a).getD i .top)] = some (.sc (.bool true)) := by
  refine (f54_eq 0 _ _ _ _).trans ?_
  refine im (by rw [bne_iff_ne]; omega) ?_
  exact same_l a hl a.length 0 (by omega)
theorem same_nil (f g : Nat → PV) : D 54 [.lst 4 0 f, .lst 4 0 g] = some (.sc (.bool true)) := by
  refine (f54_eq 0 _ _ _ _).trans ?_
  refine im (by decide) ?_
  rw [f54.l0a_eq]
  exact im (by decide) rfl
theorem plains_l (s : List UInt8) (hl : s.length ≤ 100000) : ∀ (d i : Nat), i + d = s.length → f55.l0a 0 (B s) (s.length : Int) (i : Int) = some (.sc (.bool ((s.drop i).all plainB))) := by
  intro d
  induction d with
  | zero =>
    intro i h
    rw [f55.l0a_eq, List.drop_eq_nil_of_le (by omega)]
    exact im (by rw [decide_eq_true_eq]; omega) rfl
  | succ d ih =>
    intro i h
    have hi : i < s.length := by omega
    rw [f55.l0a_eq, B_bt hi, List.drop_eq_getElem_cons hi, List.all_cons]
    refine ip (by rw [decide_eq_true_eq]; omega) (ip (by omega) (ip (by rw [B_size]; omega) (cb (plain_ev _) rfl ?_)))
    cases hp : plainB s[i]
    · exact ip rfl rfl
    · refine im (by decide) ?_
      rw [nx hi (by omega), Bool.true_and]
      exact ih (i + 1) (by omega)
theorem plains_ev (s : List UInt8) (hl : s.length ≤ 100000) : D 55 [.sc (.string (B s))] = some (.sc (.bool (s.all plainB))) := by
  rw [f55_eq 0]
  have := plains_l s hl s.length 0 (by omega)
  rw [List.drop_zero] at this
  exact this
theorem take_all (s : List UInt8) (i : Nat) (h : i < s.length) : (s.take (i + 1)).all plainB = ((s.take i).all plainB && plainB s[i]) := by
  rw [List.take_add_one, List.getElem?_eq_getElem h, List.all_append]
  simp
theorem tells_l (s : List UInt8) (hl : s.length ≤ 1000) (n m : Nat) (f g : Nat → PV) (a e : Int) (hs : D 54 [.lst 4 n f, .lst 4 m g] = some (.sc (.bool true))) : ∀ (d i : Nat), i + d = s.length → f8.l0a 0 (B s) n f a e ((s.take i).all plainB) (s.length : Int) (i : Int) m g a e = some (.sc (.bool true)) := by
  intro d
  induction d with
  | zero =>
    intro i h
    rw [f8.l0a_eq, List.take_of_length_le (by omega)]
    refine im (by rw [decide_eq_true_eq]; omega) (cb hs rfl ?_)
    simp only [plains_ev s (by omega), alive21_ev, bs, shb, tb, if_true, beq_self_eq_true]
  | succ d ih =>
    intro i h
    have hi : i < s.length := by omega
    have c1 : (0 : Int) ≤ (i : Int) := by omega
    have c2 : (i : Int) < ((B s).size : Int) := by rw [B_size]; omega
    rw [f8.l0a_eq, B_bt hi, rplain_ev]
    refine ip (by rw [decide_eq_true_eq]; omega) ?_
    simp only [bs, shb, tb, if_true, if_pos c1, if_pos c2, bA]
    rw [← take_all s i hi, nx hi (by omega)]
    exact ih (i + 1) (by omega)
theorem lexTells_D (s : List UInt8) : D 8 [.sc (.string (B s))] = some (.sc (.bool true)) := by
  rw [f8_eq 0]
  by_cases h300 : s.length ≤ 300
  · refine im (by rw [decide_eq_true_eq, B_size]; omega) ?_
    by_cases h : s.length ≤ 200
    · have e1 := lex_ev s
      have e2 := rlex_ev s
      unfold lexS at e1
      unfold rlexS at e2
      rw [if_pos h] at e1 e2
      cases hl : lexL 0 s with
      | inl e =>
        rw [hl] at e1 e2
        refine cb e1 rfl (cb e2 rfl ?_)
        exact tells_l s (by omega) 0 0 _ _ (e : Int) 1 (same_nil _ _) s.length 0 (by omega)
      | inr l =>
        rw [hl] at e1 e2
        have hc := lex_count s.length 0 s l (Nat.le_refl _) hl
        refine cb e1 rfl (cb e2 rfl ?_)
        have eo : lexR [] (.inr l) = okR l := rfl
        have er : rlexR [] (.inr l) = rokR l := rfl
        rw [eo, er]
        have f0 : (cel 0 (okR l).parts).len = l.length := tp_len _
        have f1 : (cel 0 (okR l).parts).at = fun i => (tp l).getD i .top := rfl
        have g0 : (cel 0 (rokR l).cells).len = l.length := tp_len _
        have g1 : (cel 0 (rokR l).cells).at = fun i => (tp l).getD i .top := rfl
        rw [f0, f1, g0, g1]
        exact tells_l s (by omega) l.length l.length _ _ 0 0 (same_ev l (by omega)) s.length 0 (by omega)
    · have e1 := lex_ev s
      have e2 := rlex_ev s
      unfold lexS at e1
      unfold rlexS at e2
      rw [if_neg h] at e1 e2
      refine cb e1 rfl (cb e2 rfl ?_)
      exact tells_l s (by omega) 0 0 _ _ 0 3 (same_nil _ _) s.length 0 (by omega)
  · exact ip (by rw [decide_eq_true_eq, B_size]; omega) (cb alive21_ev rfl rfl)
theorem told_same : ∀ (a b : List Tk), a.map (fun t => t.put 0) = b.map (fun t => t.put 0) → tolds a = tolds b
  | [], [], _ => rfl
  | [], b :: l, h => by simp at h
  | a :: l, [], h => by simp at h
  | a :: l, b :: m, h => by
    rw [List.map_cons, List.map_cons, List.cons.injEq] at h
    have ih := told_same l m h.2
    have e1 : okT a = okT b := by
      have : okT (a.put 0) = okT (b.put 0) := by rw [h.1]
      exact this
    have e2 : telT a = telT b := by
      have : telT (a.put 0) = telT (b.put 0) := by rw [h.1]
      exact this
    rw [tolds_cons, tolds_cons, e1, e2, ih]
theorem told_good : ∀ ts : List Tk, (∀ t ∈ ts, goodT t) → ∀ n, jnB (tolds (ts ++ [⟨5, n, [], 0⟩])) = jnT ts
  | [], _, n => rfl
  | [t], h, n => by
    have ho : okT t = true := by
      have := (h t (by simp)).1
      unfold okT
      simp only [Bool.and_eq_true, decide_eq_true_eq]; exact this
    rw [List.singleton_append, tolds_cons, if_pos ho]; rfl
  | t :: u :: l, h, n => by
    have ho : okT t = true := by
      have := (h t (by simp)).1
      unfold okT
      simp only [Bool.and_eq_true, decide_eq_true_eq]; exact this
    have hu : okT u = true := by
      have := (h u (by simp)).1
      unfold okT
      simp only [Bool.and_eq_true, decide_eq_true_eq]; exact this
    have ih := told_good (u :: l) (fun x hx => h x (List.mem_cons_of_mem _ hx)) n
    rw [List.cons_append, tolds_cons, if_pos hu] at ih
    rw [List.cons_append, List.cons_append, tolds_cons, if_pos ho, tolds_cons, if_pos hu, jnB, ih, jnT]
theorem emp : ((B []).toList == (⟨#[]⟩ : ByteArray).toList) = true := beq_self_eq_true _
theorem lexBack_D (s : List UInt8) : D 7 [.sc (.string (B s))] = some (.sc (.bool true)) := by
  rw [f7_eq 0]
  by_cases h300 : s.length ≤ 300
  · refine im (by rw [decide_eq_true_eq, B_size]; omega) ?_
    have e1 := lex_ev s
    have nilT : D 49 [.lst 4 0 (fun _ => .top)] = some (.sc (.string (B []))) := by
      have := ltext_ev [] (by simp) (by simp)
      have e : (fun i => (tp []).getD i PV.top) = fun _ => PV.top := by funext i; simp [tp]
      rw [e] at this
      exact this
    by_cases h : s.length ≤ 200
    · unfold lexS at e1
      rw [if_pos h] at e1
      cases hl : lexL 0 s with
      | inl e =>
        rw [hl] at e1
        refine cb e1 rfl (ip rfl ?_)
        show Option.bind (α := PV) (Option.bind (α := PV) ((D 49 [.lst 4 0 (fun _ => .top)]).bind fun r3 => if hasSh .str r3 = true then some (.sc (.bool (r3.toStr.toList == (⟨#[]⟩ : ByteArray).toList))) else none) fun r4 => some (.sc (.bool r4.toBool))) _ = _
        rw [nilT]
        simp only [alive21_ev, bs, shb, shs, tb, ts, if_true, emp]
      | inr l =>
        rw [hl] at e1
        have hc := lex_count s.length 0 s l (Nat.le_refl _) hl
        have hf := lex_fine s.length 0 s l (Nat.le_refl _) (by omega) hl
        obtain ⟨tks, hts, hg⟩ := lex_form s.length 0 s l (Nat.le_refl _) hl
        have hg' : ∀ t ∈ tks, goodT t := fun t ht => hg t ht
        have eo : lexR [] (.inr l) = okR l := rfl
        rw [eo] at e1
        have f0 : (cel 0 (okR l).parts).len = l.length := tp_len _
        have f1 : (cel 0 (okR l).parts).at = fun i => (tp l).getD i .top := rfl
        have f2 : (cel 2 (okR l).parts).toInt = 0 := rfl
        have tx := ltext_ev l (by omega) hf
        have rtx := rltext_ev l (by omega) hf
        have ejn : jnB (tolds l) = jnT tks := by rw [hts]; exact told_good tks hg' _
        have e2 := rlex_ev s
        unfold rlexS at e2
        rw [if_pos h, hl] at e2
        have er : rlexR [] (.inr l) = rokR l := rfl
        rw [er] at e2
        have g0 : (cel 0 (rokR l).cells).len = l.length := tp_len _
        have g1 : (cel 0 (rokR l).cells).at = fun i => (tp l).getD i .top := rfl
        have e3 := lex_ev (jnB (tolds l))
        refine cb e1 rfl (im (by rw [f2]; decide) ?_)
        rw [f0, f1]
        refine cb tx rfl (cb e3 ?_ (cb e2 rfl ?_))
        · unfold lexS
          split
          · cases lexL 0 (jnB (tolds l)) <;> rfl
          · rfl
        rw [g0, g1]
        refine cb rtx rfl ?_
        refine im (by simp only [ts, beq_self_eq_true]; decide) ?_
        by_cases hx : (jnB (tolds l)).length ≤ 200
        · refine im (by rw [decide_eq_true_eq]; show ¬ (((B (jnB (tolds l))).size : Int) > 200); rw [B_size]; omega) ?_
          obtain ⟨us, u1, u2⟩ := lex_back tks 0 hg'
          have e4 : lexS (jnB (tolds l)) = okR (us ++ [⟨5, 0 + (jnT tks).length, [], 0⟩]) := by
            unfold lexS
            rw [if_pos hx, ejn, u1]; rfl
          rw [e4]
          generalize hm : us ++ [⟨5, 0 + (jnT tks).length, [], 0⟩] = m at *
          have hmp : l.map (fun t => t.put 0) = m.map (fun t => t.put 0) := by
            rw [hts, ← hm, List.map_append, List.map_append, u2]; rfl
          have hml : m.length = l.length := by
            have := congrArg List.length hmp
            simpa using this.symm
          have hmf : ∀ t ∈ m, fine t := by
            have hlx : lexL 0 (jnB (tolds l)) = .inr m := by rw [ejn]; exact u1
            exact lex_fine _ 0 _ m (Nat.le_refl _) (by omega) hlx
          have tm := ltext_ev m (by omega) hmf
          rw [told_same m l hmp.symm] at tm
          have mv := moved_ev l m hmp (by omega)
          have mv2 : D 52 [.lst 4 l.length (fun i => (tp l).getD i .top), .lst 4 m.length (fun i => (tp m).getD i .top)] = some (.sc (.bool true)) := by
            have e1 := tp_len l
            have e2 := tp_len m
            rw [← e1, ← e2]
            exact mv
          have h0 : (cel 0 (okR m).parts).len = m.length := tp_len _
          have h1 : (cel 0 (okR m).parts).at = fun i => (tp m).getD i .top := rfl
          have h2 : (cel 2 (okR m).parts).toInt = 0 := rfl
          have h3 : (cel 1 (okR m).parts).toInt = 0 := rfl
          rw [h0, h1, h2, h3, mv2, tm]
          simp only [alive21_ev, bs, shb, shs, tb, ts, if_true, beq_self_eq_true]
        · refine ip (by rw [decide_eq_true_eq]; show (((B (jnB (tolds l))).size : Int) > 200); rw [B_size]; omega) ?_
          have e4 : lexS (jnB (tolds l)) = errR 0 3 := by
            unfold lexS
            rw [if_neg hx]
          rw [e4]
          have h2 : (cel 2 (errR 0 3).parts).toInt = 3 := rfl
          rw [h2]
          simp only [alive21_ev, bs, shb, tb, if_true, beq_self_eq_true]
    · unfold lexS at e1
      rw [if_neg h] at e1
      refine cb e1 rfl (ip rfl ?_)
      show Option.bind (α := PV) (Option.bind (α := PV) ((D 49 [.lst 4 0 (fun _ => .top)]).bind fun r3 => if hasSh .str r3 = true then some (.sc (.bool (r3.toStr.toList == (⟨#[]⟩ : ByteArray).toList))) else none) fun r4 => some (.sc (.bool r4.toBool))) _ = _
      rw [nilT]
      simp only [alive21_ev, bs, shb, shs, tb, ts, if_true, emp]
  · exact ip (by rw [decide_eq_true_eq, B_size]; omega) (cb alive21_ev rfl rfl)
theorem lexTells_law (W : World) (vs : List Value) (xs : List PV) (h : Handed Tryz.prog W [9] vs xs) : D 8 xs = some (.sc (.bool true)) := by
  obtain ⟨a, _, _, rfl, ha, h⟩ := handed_cons h
  obtain rfl := handed_nil h
  obtain ⟨t, rfl, _⟩ := of9 ha
  rw [on9]
  obtain ⟨l, rfl⟩ := B_of t
  exact lexTells_D l
theorem lexBack_law (W : World) (vs : List Value) (xs : List PV) (h : Handed Tryz.prog W [9] vs xs) : D 7 xs = some (.sc (.bool true)) := by
  obtain ⟨a, _, _, rfl, ha, h⟩ := handed_cons h
  obtain rfl := handed_nil h
  obtain ⟨t, rfl, _⟩ := of9 ha
  rw [on9]
  obtain ⟨l, rfl⟩ := B_of t
  exact lexBack_D l
end Go.Den.EX
set_option maxRecDepth 100000
namespace Go.Proofs.YtbkdoeghgdbjlaaGreatDoor.lexBack
open Go.ChangeShapes Go.WideShapes Go.ChangeAt Go.RowKit Go.Den
theorem own : ownKnob Tryz.prog.godebug = none := by kernel_rfl
theorem laidOut : laidOutB Tryz.prog = true := by kernel_rfl
theorem good : goodAll Tryz.prog [9] = true := by kernel_rfl
theorem follows : Tryz.prog.follows .mixedOrders = true := by kernel_rfl
theorem tabs_laid {W : World} (h : laidMet Tryz.prog Rows.lexBackRow.laid W) (hS : W.ShapedOpen Tryz.prog) : Tabs2 W := by
  refine ⟨⟨?_, ?_⟩, ?_⟩
  · exact Lib.tabIs_of_head (g := 5) (t := 212) (e := 158) (n := 20) (by kernel_rfl) (by kernel_rfl) (by kernel_rfl) (by kernel_rfl) (by kernel_rfl) (by kernel_rfl) (laidMet.tail (laidMet.tail h))
  · exact Go.Proofs.cell_of_shapedOpen_int (g := 1) (zero := #[.int .i64 0]) (t := 3) hS (of_decide_eq_true (by kernel_rfl)) (by kernel_rfl) rfl (by kernel_rfl) (by kernel_rfl) Tryz.underlying3
  · exact Lib.tabIs_of_head (g := 0) (t := 177) (e := 5) (n := 256) (by kernel_rfl) (by kernel_rfl) (by kernel_rfl) (by kernel_rfl) (by kernel_rfl) (by kernel_rfl) (laidMet.tail (laidMet.tail (laidMet.tail (laidMet.tail (laidMet.tail h)))))
theorem lifted (os : Os) (started : os.Started) (H : Type) (enc : TypeId × Value → H) :
    ReturnsInHanded {} Tryz.checked os 7 .any (fun w args => (Rows.lexBackSpec.pre enc Tryz.prog Tryz.f7 Rows.lexBackRow.domain false w args ∧ laidMetH Tryz.prog Rows.lexBackRow.laid w) ∧ sizedMet enc Tryz.prog Tryz.f7 (OpenSpec.ofChange Rows.lexBackSpec) false w args) (Rows.lexBackSpec.post enc Tryz.prog Tryz.f7 false true false false) := by
  refine returns_and_shaped (C := Tryz.checked) (X := fun w _ => laidMetH Tryz.prog Rows.lexBackRow.laid w) (fun _ _ _ hh h => h.of_heap hh) own started (by kernel_rfl) Tryz.func7
    (ChangeSpec.witness_shaped (enc := enc) (C := Tryz.checked) (os := os) (X := fun w _ => laidMetH Tryz.prog Rows.lexBackRow.laid w) false (World.laidAll Tryz.prog os Rows.lexBackRow.laid) #[.string ⟨#[]⟩] 8 (World.laidAll_os _ _ _)
      (World.shaped_of_ZipB (by kernel_rfl) (by kernel_rfl)) (by kernel_rfl) (by kernel_rfl) (by kernel_rfl)
      (by rw [MakeChecks.laidMetH_plain _ _ _ (by kernel_rfl)]; exact laidMet_laidAll _ (by kernel_rfl) (by kernel_rfl))) ?_
  intro W base args ds gs before hval0 hW hcnd hsz0 hL hS
  have hval : ∀ (j : Nat) t v, Tryz.f7.params[j]? = some t → args[j]? = some v → Value.okWide Tryz.prog W .any base t v := hval0
  have hW' := hW
  obtain ⟨p, q, hA0, hV, rfl, hfz, hnd⟩ := hW
  have hA : DataW.TrodAll enc Tryz.prog W 0 (fun _ => true) true [9] args.toList ds p := hA0
  obtain ⟨rfl, rfl⟩ := trodVars_none hV
  obtain ⟨xs, hH⟩ := open_all good [9] args.toList ds p (by decide) hA (fun j t v ht hv => hval j t v (by rw [Tryz.params7]; simpa using ht) (by simpa using hv)) fun n hn => by
    have hz : (DataW.weightsEach Tryz.prog (Tryz.f7.params.toList ++ Rows.lexBackSpec.plain.varTypes Tryz.prog) (ds ++ [])).all (· ≤ reachBytes) = true := hsz0
    rw [Tryz.params7] at hz
    have := List.all_eq_true.1 hz n (weights_app n hn)
    simpa using this
  have hD := EX.lexBack_law W args.toList xs hH
  have hok := Den.denI_ok (T := Tabs2) follows Tabs2.below EX.ext_ok 7 xs _ hD
  refine (Den.law_calls hok (tabs_laid (by rw [MakeChecks.laidMetH_plain _ _ _ (by kernel_rfl)] at hL; exact hL) hS) hH).mono fun e W' ⟨he, bel⟩ => ?_
  subst he
  have hback := carry_all laidOut bel [9] args.toList ds p (by kernel_rfl) hA
  obtain ⟨v0, vs0, d0, ds0, p0, q0, hargs0, rfl, rfl, h0, r0⟩ := trodAll_cons hA
  obtain ⟨_, rfl, _⟩ := trodAll_nil r0
  exact ⟨_, rfl, _, _, _, [], _, [], hW', trodAll_mk1 (shut_bool Tryz.underlying4 _), hback, rfl, bel.frame _, fun h => by cases h⟩
theorem over : Rows.lexBackRow.holds Tryz.pinned (OpenSpec.ofChange Rows.lexBackSpec) :=
  OpenClaim.holds_of_wide 7 Tryz.f7 rfl rfl rfl rfl rfl rfl rfl ⟨rfl, rfl, rfl, rfl, rfl⟩ rfl rfl rfl rfl rfl (by kernel_rfl) Tryz.func7 (by kernel_rfl)
    (of_decide_eq_true (by kernel_rfl)) (by unfold Func.isWrapper; first | (rw [if_pos (by decide +kernel)]; kernel_rfl) | (rw [if_neg (by decide +kernel)]; exact ⟨rfl, rfl⟩))
    (fun os started H enc _ => lifted os started H enc)
theorem card : Rows.LexBackCardSaid :=
  Claim7.holds_tied_plain_at .later [] [.data, .data, .data, .data, .listed, .data, .pinned] true (true, "659ed9991f33e97e3d8b980347ba9c2a1e08588dd83fbf37082a2ffb49c49e8b") false over (fun _ h => by cases h) (by kernel_rfl) (fun _ h => by cases h) lexBack_row_tie rfl ⟨rfl, rfl⟩ (by kernel_rfl) rfl
    (fun f fn hf hfn => by
      obtain rfl : f = 7 := Option.some.inj ((show Tryz.prog.funcNamed Rows.lexBackRow.func = some 7 by kernel_rfl).symm.trans hf) |>.symm
      obtain rfl : fn = Tryz.f7 := (Option.some.inj (Tryz.func7.symm.trans hfn)).symm
      refine ⟨by kernel_rfl, fun j t ht => ?_⟩
      have hall : (Tryz.f7.params.toList.all fun u => !Tryz.prog.wantsStandIn u) = true := by kernel_rfl
      have hm : t ∈ Tryz.f7.params.toList := by simpa using Array.mem_of_getElem? ht
      exact (show Tryz.prog.wantsStandIn t = false by simpa using List.all_eq_true.1 hall t hm))
    (by kernel_rfl)
end Go.Proofs.YtbkdoeghgdbjlaaGreatDoor.lexBack
namespace Go.Proofs.YtbkdoeghgdbjlaaGreatDoor
theorem lexBack_holds : Rows.LexBackCardSaid := lexBack.card
end Go.Proofs.YtbkdoeghgdbjlaaGreatDoor
