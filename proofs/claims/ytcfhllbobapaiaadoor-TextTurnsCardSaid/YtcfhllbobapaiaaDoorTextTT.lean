/- Letters that are turned, blanks that are needless: the law. -/
import Derived.Test.YtcfhllbobapaiaaDoorFoldAT
import Derived.Test.YtcfhllbobapaiaaDoorTyT
import Derived.Lib.Split
import Derived.Lib.SplitLaws
set_option linter.unusedVariables false
set_option linter.unusedSimpArgs false
set_option maxRecDepth 100000
namespace Go.Den.ET
open Go Go.Proofs
theorem alive14_ev : D 47 [] = some (.sc (.bool true)) := denI_of (k := 80) (by kernel_rfl)
theorem byte_all {p : UInt8 → Bool} (h : (List.range 256).all (fun n => p (UInt8.ofNat n)) = true) (b : UInt8) : p b = true := by
  have := List.all_eq_true.1 h b.toNat (List.mem_range.2 b.toNat_lt)
  simpa using this
def up (b : UInt8) : UInt8 := UInt8.ofNat (Go.bits .andNot .u8 (b.toNat : Int) 32).toNat
def low (b : UInt8) : UInt8 := UInt8.ofNat (Go.bits .or .u8 (Go.bits .andNot .u8 (b.toNat : Int) 32) 32).toNat
def ltr (b : UInt8) : Bool := !(decide (Go.bits .andNot .u8 (b.toNat : Int) 32 < 65) || decide (Go.bits .andNot .u8 (b.toNat : Int) 32 > 90))
theorem up_n (b : UInt8) : Go.bits .andNot .u8 (b.toNat : Int) 32 = ((up b).toNat : Int) := by
  have := byte_all (p := fun b => Go.bits .andNot .u8 (b.toNat : Int) 32 == ((up b).toNat : Int)) (by kernel_rfl) b
  simpa using this
theorem low_n (b : UInt8) : Go.bits .or .u8 (Go.bits .andNot .u8 (b.toNat : Int) 32) 32 = ((low b).toNat : Int) := by
  have := byte_all (p := fun b => Go.bits .or .u8 (Go.bits .andNot .u8 (b.toNat : Int) 32) 32 == ((low b).toNat : Int)) (by kernel_rfl) b
  simpa using this
theorem ltr_r (b : UInt8) : ((decide ((b.toNat : Int) ≥ 65) && decide ((b.toNat : Int) ≤ 90)) || (decide ((b.toNat : Int) ≥ 97) && decide ((b.toNat : Int) ≤ 122))) = ltr b := by
  have := byte_all (p := fun b => ((decide ((b.toNat : Int) ≥ 65) && decide ((b.toNat : Int) ≤ 90)) || (decide ((b.toNat : Int) ≥ 97) && decide ((b.toNat : Int) ≤ 122))) == ltr b) (by kernel_rfl) b
  simpa only [beq_iff_eq] using this
theorem down_r (b : UInt8) : (if (decide ((b.toNat : Int) ≥ 65) && decide ((b.toNat : Int) ≤ 90)) = true then IntKind.u8.wrap ((b.toNat : Int) + 32) else (b.toNat : Int)) = ((if ltr b = true then low b else b).toNat : Int) := by
  have := byte_all (p := fun b => (if (decide ((b.toNat : Int) ≥ 65) && decide ((b.toNat : Int) ≤ 90)) = true then IntKind.u8.wrap ((b.toNat : Int) + 32) else (b.toNat : Int)) == ((if ltr b = true then low b else b).toNat : Int)) (by kernel_rfl) b
  simpa only [beq_iff_eq] using this
theorem up_r (b : UInt8) : (if (decide ((b.toNat : Int) ≥ 97) && decide ((b.toNat : Int) ≤ 122)) = true then IntKind.u8.wrap ((b.toNat : Int) - 32) else (b.toNat : Int)) = ((if ltr b = true then up b else b).toNat : Int) := by
  have := byte_all (p := fun b => (if (decide ((b.toNat : Int) ≥ 97) && decide ((b.toNat : Int) ≤ 122)) = true then IntKind.u8.wrap ((b.toNat : Int) - 32) else (b.toNat : Int)) == ((if ltr b = true then up b else b).toNat : Int)) (by kernel_rfl) b
  simpa only [beq_iff_eq] using this
theorem twice (b : UInt8) : (ltr b = true → ltr (up b) = true ∧ ltr (low b) = true) ∧ up (up b) = up b ∧ up (low b) = up b ∧ low (up b) = low b ∧ low (low b) = low b := by
  have := byte_all (p := fun b => (!ltr b || (ltr (up b) && ltr (low b))) && up (up b) == up b && up (low b) == up b && low (up b) == low b && low (low b) == low b) (by kernel_rfl) b
  simp only [Bool.and_eq_true, Bool.or_eq_true, Bool.not_eq_true', beq_iff_eq] at this
  obtain ⟨⟨⟨⟨h1, h2⟩, h3⟩, h4⟩, h5⟩ := this
  refine ⟨fun h => ?_, h2, h3, h4, h5⟩
  rw [h] at h1
  exact h1.resolve_left (by decide)
/-- A letter, turned. -/
def one (way : Int) (ins : Bool) (b : UInt8) : UInt8 := if ltr b = true then (if (way == 1 || (way == 2 && ins)) = true then low b else up b) else b
def trn (way : Int) : Bool → List UInt8 → List UInt8
  | _, [] => []
  | ins, b :: l => one way ins b :: trn way (ltr b) l
theorem ltr_one (way : Int) (ins : Bool) (b : UInt8) : ltr (one way ins b) = ltr b := by
  unfold one
  by_cases h : ltr b = true
  · rw [if_pos h, h]
    have := (twice b).1 h
    split
    · exact this.2
    · exact this.1
  · rw [if_neg h]
theorem one_one (w w' : Int) (i j : Bool) (b : UInt8) : one w i (one w' j b) = one w i b := by
  have hl := ltr_one w' j b
  unfold one at hl ⊢
  by_cases h : ltr b = true
  · simp only [h, if_true] at hl ⊢
    rw [if_pos hl]
    obtain ⟨_, a1, a2, a3, a4⟩ := twice b
    split <;> split <;> assumption
  · simp only [h, Bool.false_eq_true, if_false]
theorem trn_trn (w w' : Int) : ∀ (l : List UInt8) (i j : Bool), trn w i (trn w' j l) = trn w i l
  | [], _, _ => rfl
  | b :: l, i, j => by
    show one w i (one w' j b) :: trn w (ltr (one w' j b)) (trn w' (ltr b) l) = _
    rw [one_one, ltr_one, trn_trn w w' l]
    rfl
theorem trn_len (w : Int) : ∀ (l : List UInt8) (i : Bool), (trn w i l).length = l.length
  | [], _ => rfl
  | b :: l, i => by rw [trn, List.length_cons, trn_len w l, List.length_cons]
theorem sb (l : List UInt8) : strB (B l) = l.map fun b => .sc (.int .u8 b.toNat) := rfl
theorem sb_len (l : List UInt8) : (strB (B l)).length = l.length := by rw [sb, List.length_map]
theorem sb_get {l : List UInt8} {i : Nat} (h : i < l.length) : (strB (B l)).getD i .top = .sc (.int .u8 (l[i].toNat : Int)) := by rw [sb]; simp [h]
theorem sb_set (l : List UInt8) (i : Nat) (b : UInt8) : (strB (B l)).set i (.sc (.int .u8 (b.toNat : Int))) = strB (B (l.set i b)) := by rw [sb, sb, List.map_set]
theorem sb_sh (s : ByteArray) : (strB s).all (hasSh (.int .u8)) = true := by
  unfold strB
  rw [List.all_eq_true]
  intro x hx
  obtain ⟨b, _, rfl⟩ := List.mem_map.1 hx
  rfl
theorem sb_snoc (l : List UInt8) (b : UInt8) : strB (B l) ++ [.sc (.int .u8 (b.toNat : Int))] = strB (B (l ++ [b])) := by rw [sb, sb]; simp
theorem turn_l (way : Int) (n : Nat) (hn : n ≤ 1000) : ∀ (m i : Nat) (L : List UInt8) (ins : Bool), L.length = n → i + m = n →
    f113.l0a 0 way ins (n : Int) (i : Int) (strB (B L)) = some (.sc (.string (B (L.take i ++ trn way ins (L.drop i))))) := by
  intro m
  induction m with
  | zero =>
    intro i L ins hL he
    rw [f113.l0a_eq, List.drop_eq_nil_of_le (by omega), List.take_of_length_le (by omega)]
    refine im (by rw [decide_eq_true_eq]; omega) (ip (sb_sh _) ?_)
    rw [bytesOf_strB, trn, List.append_nil]
  | succ m ih =>
    intro i L ins hL he
    have hi : i < L.length := by omega
    have c1 : (0 : Int) ≤ (i : Int) := by omega
    have c2 : (i : Int) < ((strB (B L)).length : Int) := by rw [sb_len]; omega
    have c3 : i < (strB (B L)).length := by rw [sb_len]; omega
    rw [f113.l0a_eq]
    refine ip (by rw [decide_eq_true_eq]; omega) (ip c1 (ip c2 (ip (by rw [Int.toNat_natCast, sb_get hi]; rfl) ?_)))
    rw [bO]
    simp only [Int.toNat_natCast, sb_get hi, ti, tb, nx (n := n) (i := i) (by omega) (by omega)]
    rw [drop_at hi, trn]
    have tk : ∀ (L2 : List UInt8) (b : UInt8), L2.length = n → L2.take i = L.take i → L2[i]? = some b → L2.take (i + 1) = L.take i ++ [b] := by
      intro L2 b h1 h2 h3
      rw [List.take_add_one, h2, h3]; rfl
    by_cases h : ltr L[i] = true
    · have hn : ¬ (decide (Go.bits .andNot .u8 (L[i].toNat : Int) 32 < 65) || decide (Go.bits .andNot .u8 (L[i].toNat : Int) 32 > 90)) = true := by
        unfold ltr at h
        rw [Bool.not_eq_true'] at h
        rw [h]; decide
      refine im hn (ip c1 (ip c2 (ip rfl (ip c3 ?_))))
      simp only [bA, bO, bs, tb]
      rw [h]
      have hl1 : (L.set i (up L[i])).length = n := by rw [List.length_set]; exact hL
      by_cases hw : (way == 1 || (way == 2 && ins)) = true
      · refine ip hw ?_
        have e1 : one way ins L[i] = low L[i] := by unfold one; rw [if_pos h, if_pos hw]
        rw [e1]
        rw [up_n, ← up_n, low_n]
        have hset : (strB (B L)).set i (.sc (.int .u8 (Go.bits .andNot .u8 (L[i].toNat : Int) 32))) = strB (B (L.set i (up L[i]))) := by rw [up_n, sb_set]
        rw [hset]
        refine ip c1 (ip (by rw [sb_len]; omega) (ip (by rw [sb_get (by omega)]; rfl) (ip (by rw [sb_len]; omega) ?_)))
        rw [sb_set, List.set_set]
        have := ih (i + 1) (L.set i (low L[i])) true (by rw [List.length_set]; exact hL) (by omega)
        rw [tk (L.set i (low L[i])) (low L[i]) (by rw [List.length_set]; exact hL) (by rw [List.take_set_of_le (by omega)]) (by rw [List.getElem?_set_self hi]), List.drop_set_of_lt (by omega), List.append_assoc] at this
        exact this
      · refine im hw ?_
        have e1 : one way ins L[i] = up L[i] := by unfold one; rw [if_pos h, if_neg hw]
        rw [e1, up_n, sb_set]
        have := ih (i + 1) (L.set i (up L[i])) true hl1 (by omega)
        rw [tk (L.set i (up L[i])) (up L[i]) hl1 (by rw [List.take_set_of_le (by omega)]) (by rw [List.getElem?_set_self hi]), List.drop_set_of_lt (by omega), List.append_assoc] at this
        exact this
    · have hf : ltr L[i] = false := by simpa using h
      have hn : (decide (Go.bits .andNot .u8 (L[i].toNat : Int) 32 < 65) || decide (Go.bits .andNot .u8 (L[i].toNat : Int) 32 > 90)) = true := by
        unfold ltr at hf
        simpa only [Bool.not_eq_false'] using hf
      refine ip hn ?_
      have e1 : one way ins L[i] = L[i] := by unfold one; rw [if_neg h]
      rw [e1, hf]
      have := ih (i + 1) L false hL (by omega)
      rw [tk L L[i] hL rfl (List.getElem?_eq_getElem hi), List.append_assoc] at this
      exact this
theorem turn_ev (l : List UInt8) (way : Int) (hl : l.length ≤ 1000) : D 113 [.sc (.string (B l)), .sc (.int .i64 way)] = some (.sc (.string (B (trn way false l)))) := by
  rw [f113_eq 0, sb_len]
  have := turn_l way l.length hl l.length 0 l false rfl (by omega)
  rw [List.take_zero, List.nil_append, List.drop_zero] at this
  exact this
theorem letter_ev (b : UInt8) : D 119 [.sc (.int .u8 (b.toNat : Int))] = some (.sc (.bool (ltr b))) := by
  rw [f119_eq 0, ← ltr_r]
  simp only [bA, bO, bs, tb]
theorem down_ev (b : UInt8) : D 120 [.sc (.int .u8 (b.toNat : Int))] = some (.sc (.int .u8 ((if ltr b = true then low b else b).toNat : Int))) := by
  rw [f120_eq 0, ← down_r, bA]
  by_cases h : (decide ((b.toNat : Int) ≥ 65) && decide ((b.toNat : Int) ≤ 90)) = true
  · rw [if_pos h]; exact ip h rfl
  · rw [if_neg h]; exact im h rfl
theorem rup_ev (b : UInt8) : D 121 [.sc (.int .u8 (b.toNat : Int))] = some (.sc (.int .u8 ((if ltr b = true then up b else b).toNat : Int))) := by
  rw [f121_eq 0, ← up_r, bA]
  by_cases h : (decide ((b.toNat : Int) ≥ 97) && decide ((b.toNat : Int) ≤ 122)) = true
  · rw [if_pos h]; exact ip h rfl
  · rw [if_neg h]; exact im h rfl
def insAt (l : List UInt8) (i : Nat) : Bool := match i with
  | 0 => false
  | i + 1 => match l[i]? with
    | some b => ltr b
    | none => false
theorem rturn_l (l : List UInt8) (way : Int) (hl : l.length ≤ 1000) : ∀ (m i : Nat) (out : List UInt8), i + m = l.length → out.length ≤ i →
    f58.l0a 0 (B l) way (i : Int) (strB (B out)) = some (.sc (.string (B (out ++ trn way (insAt l i) (l.drop i))))) := by
  intro m
  induction m with
  | zero =>
    intro i out he ho
    rw [f58.l0a_eq, List.drop_eq_nil_of_le (by omega)]
    refine im (by rw [decide_eq_true_eq, B_size]; omega) (ip (sb_sh _) ?_)
    rw [bytesOf_strB, trn, List.append_nil]
  | succ m ih =>
    intro i out he ho
    have hi : i < l.length := by omega
    rw [f58.l0a_eq]
    refine ip (by rw [decide_eq_true_eq, B_size]; omega) ?_
    have hins2 : ∀ (G : PV → Option PV), Option.bind (α := PV) (if decide ((i : Int) > 0) = true then
        Option.bind (α := PV) (Option.bind (α := PV) (Option.bind (α := PV) (if 0 ≤ IntKind.i64.wrap ((i : Int) - 1) then if IntKind.i64.wrap ((i : Int) - 1) < ((B l).size : Int) then
          Option.bind (α := PV) ((D 119 [.sc (.int .u8 (bt (B l) (IntKind.i64.wrap ((i : Int) - 1))))]).bind fun r1 => if hasSh .bool r1 = true then some (.sc (.bool (r1.toBool))) else none) fun r2 => some (.sc (.bool (r2.toBool))) else none else none) fun r3 => some (.sc (.bool (r3.toBool)))) fun r4 => some (.sc (.bool (r4.toBool)))) fun r5 => some (.sc (.bool (r5.toBool))) else some (.sc (.bool false))) G = G (.sc (.bool (insAt l i))) := by
      intro G
      cases i with
      | zero => rfl
      | succ j =>
        have hj : j < l.length := by omega
        have ew : IntKind.i64.wrap (((j + 1 : Nat) : Int) - 1) = (j : Int) := by rw [w64 (by omega) (by omega)]; omega
        rw [ew, B_bt hj, letter_ev, if_pos (show decide (((j + 1 : Nat) : Int) > 0) = true by rw [decide_eq_true_eq]; omega), if_pos (show (0 : Int) ≤ (j : Int) by omega), if_pos (show (j : Int) < ((B l).size : Int) by rw [B_size]; omega)]
        simp only [insAt, List.getElem?_eq_getElem hj, bs, shb, if_true, tb]
    refine (hins2 _).trans ?_
    simp only [bA, bO, bs, tb]
    rw [drop_at hi, trn]
    have hnext : insAt l (i + 1) = ltr l[i] := by simp only [insAt, List.getElem?_eq_getElem hi]
    have c1 : (0 : Int) ≤ (i : Int) := by omega
    have c2 : (i : Int) < ((B l).size : Int) := by rw [B_size]; omega
    have go : ∀ b : UInt8, f58.l0a 0 (B l) way (IntKind.i64.wrap ((i : Int) + 1)) (strB (B out) ++ [.sc (.int .u8 (b.toNat : Int))]) = some (.sc (.string (B (out ++ b :: trn way (ltr l[i]) (l.drop (i + 1)))))) := by
      intro b
      rw [sb_snoc, nx hi (by omega), ih (i + 1) (out ++ [b]) (by omega) (by simp; omega), hnext, List.append_assoc]
      rfl
    by_cases hw : (way == 1 || (way == 2 && insAt l i)) = true
    · refine ip hw (ip c1 (ip c2 ?_))
      rw [B_bt hi]
      refine cb (down_ev _) rfl (ip (by rw [sb_len]; simp; omega) ?_)
      have e1 : one way (insAt l i) l[i] = if ltr l[i] = true then low l[i] else l[i] := by unfold one; simp only [hw, if_true]
      rw [e1]
      exact go _
    · refine im hw (ip c1 (ip c2 ?_))
      rw [B_bt hi]
      refine cb (rup_ev _) rfl (ip (by rw [sb_len]; simp; omega) ?_)
      have e1 : one way (insAt l i) l[i] = if ltr l[i] = true then up l[i] else l[i] := by unfold one; simp only [hw, if_false, Bool.false_eq_true]
      rw [e1]
      exact go _
theorem rturn_ev (l : List UInt8) (way : Int) (hl : l.length ≤ 1000) : D 58 [.sc (.string (B l)), .sc (.int .i64 way)] = some (.sc (.string (B (trn way false l)))) := by
  rw [f58_eq 0]
  have := rturn_l l way hl l.length 0 [] (by omega) (by simp)
  rw [List.nil_append, List.drop_zero] at this
  exact this
end Go.Den.ET
