/- Counts as texts; texts cut at blanks: what the program's functions answer. -/
import Derived.Test.YtbkdoeghgdbjlaaDoorDigRM
import Derived.Test.YtbkdoeghgdbjlaaDoorSplL
set_option linter.unusedVariables false
set_option linter.unusedSimpArgs false
set_option maxRecDepth 100000
namespace Go.Den.EM
open Go Go.Proofs
def okS (n : Int) : Bool := decide (0 ≤ n) && decide (n ≤ 1000000000)
def dS (n : Int) : List UInt8 := Lib.decDigits n.toNat
theorem okS_iff {n : Int} : okS n = true ↔ 0 ≤ n ∧ n ≤ 1000000000 := by unfold okS; simp
theorem dS_len {n : Int} (h : okS n = true) : (dS n).length ≤ 10 := by
  rw [okS_iff] at h
  exact dd_len 9 n.toNat (by omega)
theorem okS_bad {n : Int} (h : ¬ okS n = true) : (decide (n < 0) || decide (n > 1000000000)) = true := by
  rw [okS_iff] at h
  rw [Bool.or_eq_true, decide_eq_true_eq, decide_eq_true_eq]; omega
theorem okS_good {n : Int} (h : okS n = true) : ¬ (decide (n < 0) || decide (n > 1000000000)) = true := by
  rw [okS_iff] at h
  rw [Bool.or_eq_true, decide_eq_true_eq, decide_eq_true_eq]; omega
theorem text_okS {n : Int} (h : okS n = true) : D 18 [.sc (.int .i64 (IntKind.i64.wrap (n * 10000)))] = some (.sc (.string (B (dS n)))) := by
  rw [okS_iff] at h
  exact count_ev h.1 h.2
theorem digits_okS {n : Int} (h : okS n = true) : D 25 [.sc (.int .i64 n)] = some (.sc (.string (B (dS n)))) := by
  rw [okS_iff] at h
  exact digits_ev h.1 (by omega)
theorem tex_dS {n : Int} (h : okS n = true) : texS (n * 10000) = dS n := by
  rw [okS_iff] at h
  have e1 : (n * 10000).natAbs / 10000 = n.toNat := by omega
  have e2 : (n * 10000).natAbs % 10000 = 0 := by omega
  unfold texS texL
  rw [if_pos (by unfold May; omega), if_neg (by omega), List.nil_append, e1, e2]
  simp [fracS, dS]
theorem dS_no (n : Int) : (32 : UInt8) ∉ dS n := dd_no _
theorem dS_inj {a b : Int} (ha : okS a = true) (hb : okS b = true) (h : dS a = dS b) : a = b := by
  rw [okS_iff] at ha hb
  have h1 := dd_val a.toNat
  have h2 := dd_val b.toNat
  have : a.toNat = b.toNat := by rw [← h1, ← h2]; exact congrArg (fun z => valL z 0) h
  omega
/-- A count that is read. -/
theorem cnt_read (w : List UInt8) (hw : w.length ≤ 1000000) : ∃ g : Int × Bool, D 21 [.sc (.string (B w))] = some (pvG g) ∧ ((g.2 = true ∧ 0 ≤ g.1 ∧ g.1.tmod 10000 = 0 ∧ (0 ≤ g.1.tdiv 10000 ∧ g.1.tdiv 10000 ≤ 922337203685477) ∧ ∀ n, okS n = true → w = dS n → g.1.tdiv 10000 = n) ∨ ((g.2 = false ∨ g.1 < 0 ∨ g.1.tmod 10000 ≠ 0) ∧ ∀ n, okS n = true → w ≠ dS n)) := by
  refine ⟨parseL w, parse_ev hw, ?_⟩
  have key : ∀ n, okS n = true → w = dS n → parseL w = (n * 10000, true) := by
    intro n hn e
    have h := hn
    rw [okS_iff] at h
    rw [e, ← tex_dS hn, parse_texS (by unfold I64; omega), if_pos (by unfold May; omega)]
  by_cases h : (parseL w).2 = true ∧ 0 ≤ (parseL w).1 ∧ (parseL w).1.tmod 10000 = 0
  · left
    obtain ⟨h1, h2, h3⟩ := h
    have hm : (parseL w).1 ≤ 9223372036854775807 := by
      unfold parseL at h1 ⊢
      split at h1
      · rename_i hh
        rw [if_pos hh]
        exact (read_ok (l := w)).1.2
      · cases h1
    have e := Int.tdiv_eq_ediv_of_nonneg (b := 10000) h2
    refine ⟨h1, h2, h3, by rw [e]; omega, ?_⟩
    intro n hn hw
    rw [key n hn hw]
    show Int.tdiv (n * 10000) 10000 = n
    rw [okS_iff] at hn
    rw [Int.tdiv_eq_ediv_of_nonneg (by omega)]; omega
  · right
    refine ⟨?_, ?_⟩
    · by_cases h1 : (parseL w).2 = true
      · right
        by_cases h2 : 0 ≤ (parseL w).1
        · right; intro h3; exact h ⟨h1, h2, h3⟩
        · left; omega
      · left; simpa using h1
    · intro n hn e
      have k := key n hn e
      rw [k] at h
      rw [okS_iff] at hn
      refine h ⟨rfl, by show 0 ≤ n * 10000; omega, ?_⟩
      show Int.tmod (n * 10000) 10000 = 0
      rw [Int.tmod_eq_emod_of_nonneg (by omega)]; omega
def wp (ws : List (List UInt8)) : List PV := ws.map fun w => .sc (.string (B w))
theorem wp_len (ws : List (List UInt8)) : (wp ws).length = ws.length := by simp [wp]
theorem wp_get {ws : List (List UInt8)} {i : Nat} (h : i < ws.length) : (wp ws).getD i .top = .sc (.string (B ws[i])) := by simp [wp, h]
theorem wp_sh {ws : List (List UInt8)} {i : Nat} (h : i < ws.length) : hasSh .str ((wp ws).getD i .top) = true := by rw [wp_get h]; rfl
theorem split_ev (l : List UInt8) (hl : l.length ≤ 1000000) : D 20 [.sc (.string (B l)), .sc (.string (⟨#[32]⟩ : ByteArray))] = some (frozen 1 (wp (spl l))) := by
  have e : D 20 [.sc (.string (B l)), .sc (.string (⟨#[32]⟩ : ByteArray))] = xSplit [.sc (.string (B l)), .sc (.string (⟨#[32]⟩ : ByteArray))] := (denI_eq 0 _ _).trans (by kernel_rfl)
  rw [e]
  refine (if_pos ⟨by rw [B_size]; omega, by decide⟩).trans ?_
  show some (strs (Lib.splitB (B [32]) 0 (Lib.countB (B l) (B [32])) (B l))) = _
  rw [splitB_spl]
  unfold strs wp
  rw [List.map_map]
  rfl
theorem bt32w {l : List UInt8} {i : Nat} (h : i < l.length) : (bt (B l) (i : Int) == 32) = (l[i] == 32) := by
  rw [B_bt h, Bool.eq_iff_iff, beq_iff_eq, beq_iff_eq]
  constructor
  · intro e; exact UInt8.toNat_inj.1 (by show l[i].toNat = 32; omega)
  · intro e; rw [e]; rfl
theorem acc_step {l : List UInt8} {fr i : Nat} (hf : fr ≤ i) (hi : i < l.length) : (l.drop fr).take (i + 1 - fr) = (l.drop fr).take (i - fr) ++ [l[i]] := by
  rw [show i + 1 - fr = (i - fr) + 1 by omega, List.take_add_one, List.getElem?_drop, show fr + (i - fr) = i by omega, List.getElem?_eq_getElem hi]; rfl
theorem words_b (l : List UInt8) (hl : l.length ≤ 1000000) : ∀ (d fr i : Nat) (ws : List (List UInt8)), i + d = l.length → fr ≤ i → ws.length ≤ i → f23.l0b 0 (B l) (fr : Int) (i : Int) (wp ws) = some (frozen 1 (wp (ws ++ spA ((l.drop fr).take (i - fr)) (l.drop i)))) := by
  intro d
  induction d with
  | zero =>
    intro fr i ws h hf hw
    rw [f23.l0b_eq]
    have hi : i = l.length := by omega
    refine ip (by rw [decide_eq_true_eq, B_size]; omega) ?_
    have c : ((i : Int) == ((B l).size : Int)) = true := by rw [beq_iff_eq, B_size]; omega
    rw [c]
    simp only [if_true, bs, tb]
    have ex : (B l).extract (fr : Int).toNat (i : Int).toNat = B ((l.drop fr).take (i - fr)) := by rw [Int.toNat_natCast, Int.toNat_natCast, B_extract]
    refine ip (by omega) (ip (by rw [B_size]; omega) (ip (by omega) (ip (by omega) ?_)))
    refine ip (by rw [wp_len]; simp; omega) ?_
    rw [w64 (by omega) (by omega), f23.l0b_eq]
    refine im (by rw [decide_eq_true_eq, B_size]; omega) ?_
    rw [ex, List.drop_eq_nil_of_le (show l.length ≤ i by omega), spA_end]
    unfold wp
    rw [List.map_append]; rfl
  | succ d ih =>
    intro fr i ws h hf hw
    have hi : i < l.length := by omega
    rw [f23.l0b_eq]
    refine ip (by rw [decide_eq_true_eq, B_size]; omega) ?_
    have c : ((i : Int) == ((B l).size : Int)) = false := by rw [beq_eq_false_iff_ne, B_size]; omega
    have c1 : (0 : Int) ≤ (i : Int) := by omega
    have c2 : (i : Int) < ((B l).size : Int) := by rw [B_size]; omega
    rw [c]
    simp only [if_pos c1, if_pos c2, bs, tb, bt32w hi]
    have ex : (B l).extract (fr : Int).toNat (i : Int).toNat = B ((l.drop fr).take (i - fr)) := by rw [Int.toNat_natCast, Int.toNat_natCast, B_extract]
    rw [List.drop_eq_getElem_cons hi]
    by_cases hb : l[i] = 32
    · refine ip (by simp [hb]) (ip (by rw [B_size]; omega) (ip (by omega) (ip (by omega) ?_)))
      refine ip (by rw [wp_len]; simp; omega) ?_
      rw [w64 (by omega) (by omega), ex, hb, spA_blank]
      have := ih (i + 1) (i + 1) (ws ++ [(l.drop fr).take (i - fr)]) (by omega) (Nat.le_refl _) (by simp; omega)
      rw [Nat.sub_self, List.take_zero, spA_nil] at this
      rw [List.append_assoc] at this
      refine Eq.trans ?_ this
      unfold wp
      rw [List.map_append]; rfl
    · refine im (by simp [hb]) ?_
      rw [w64 (by omega) (by omega), spA_cons _ hb, ← acc_step hf hi]
      exact ih fr (i + 1) ws (by omega) (by omega) (by omega)
theorem words_a (l : List UInt8) (hl : l.length ≤ 1000000) : ∀ (d i : Nat), i + d = l.length → f23.l0a 0 (B l) 0 (i : Int) = some (frozen 1 (wp (spA (l.take i) (l.drop i)))) := by
  intro d
  induction d with
  | zero =>
    intro i h
    rw [f23.l0a_eq]
    have hi : i = l.length := by omega
    refine ip (by rw [decide_eq_true_eq, B_size]; omega) ?_
    have c : ((i : Int) == ((B l).size : Int)) = true := by rw [beq_iff_eq, B_size]; omega
    rw [c]
    simp only [if_true, bs, tb]
    have ex : (B l).extract (0 : Int).toNat (i : Int).toNat = B (l.take i) := by rw [Int.toNat_natCast, B_extract]; rfl
    refine ip (by omega) (ip (by rw [B_size]; omega) (ip (by omega) (ip (by omega) ?_)))
    refine ip (by simp) ?_
    rw [w64 (by omega) (by omega), f23.l0b_eq]
    refine im (by rw [decide_eq_true_eq, B_size]; omega) ?_
    rw [ex, List.drop_eq_nil_of_le (show l.length ≤ i by omega), spA_end]
    rfl
  | succ d ih =>
    intro i h
    have hi : i < l.length := by omega
    rw [f23.l0a_eq]
    refine ip (by rw [decide_eq_true_eq, B_size]; omega) ?_
    have c : ((i : Int) == ((B l).size : Int)) = false := by rw [beq_eq_false_iff_ne, B_size]; omega
    have c1 : (0 : Int) ≤ (i : Int) := by omega
    have c2 : (i : Int) < ((B l).size : Int) := by rw [B_size]; omega
    rw [c]
    simp only [if_pos c1, if_pos c2, bs, tb, bt32w hi]
    have ex : (B l).extract (0 : Int).toNat (i : Int).toNat = B (l.take i) := by rw [Int.toNat_natCast, B_extract]; rfl
    rw [List.drop_eq_getElem_cons hi]
    by_cases hb : l[i] = 32
    · refine ip (by simp [hb]) (ip (by rw [B_size]; omega) (ip (by decide) ?_))
      refine ip (by simp) ?_
      rw [w64 (by omega) (by omega), ex, hb, spA_blank]
      have := words_b l hl d (i + 1) (i + 1) [l.take i] (by omega) (Nat.le_refl _) (by simp)
      rw [Nat.sub_self, List.take_zero, spA_nil] at this
      exact this
    · refine im (by simp [hb]) ?_
      rw [w64 (by omega) (by omega), spA_cons _ hb]
      have e : l.take i ++ [l[i]] = l.take (i + 1) := by rw [List.take_add_one, List.getElem?_eq_getElem hi]; rfl
      rw [e]
      exact ih (i + 1) (by omega)
theorem words_ev (l : List UInt8) (hl : l.length ≤ 1000000) : D 23 [.sc (.string (B l))] = some (frozen 1 (wp (spl l))) := by
  rw [f23_eq 0]
  have := words_a l hl l.length 0 (by omega)
  rw [List.take_zero, List.drop_zero, spA_nil] at this
  exact this
end Go.Den.EM
