/- Texts within marks: both. -/
import Derived.Test.YtbkdoeghgdbjlaaDoorDigTL
import Derived.Test.YtbkdoeghgdbjlaaDoorRepL
set_option linter.unusedVariables false
set_option linter.unusedSimpArgs false
set_option maxRecDepth 100000
namespace Go.Den.EL
open Go Go.Proofs
theorem strB_L (l : List UInt8) : strB (B l) = l.map fun b => .sc (.int .u8 b.toNat) := rfl
theorem strB_add (l : List UInt8) (b : UInt8) : strB (B l) ++ [.sc (.int .u8 (b.toNat : Int))] = strB (B (l ++ [b])) := by rw [strB_L, strB_L]; simp
theorem strB_34 (l : List UInt8) : strB (B l) ++ [.sc (.int .u8 34)] = strB (B (l ++ [34])) := strB_add l 34
theorem strB_shp (s : ByteArray) : (strB s).all (hasSh (.int .u8)) = true := by
  rw [List.all_eq_true]
  intro x hx
  unfold strB at hx
  obtain ⟨b, _, rfl⟩ := List.mem_map.1 hx
  rfl
theorem strB_ln (l : List UInt8) : (strB (B l)).length = l.length := by rw [strB_L, List.length_map]
theorem bytes_str (l : List UInt8) : bytesOf (strB (B l)) = B l := by
  have h : ∀ s : ByteArray, bytesOf (strB s) = s := by
    intro s
    unfold bytesOf strB
    rw [List.map_map]
    have e : ((fun x : PV => UInt8.ofNat x.toInt.toNat) ∘ fun b : UInt8 => PV.sc (.int .u8 (b.toNat : Int))) = id := by
      funext b
      show UInt8.ofNat ((b.toNat : Int)).toNat = b
      rw [Int.toNat_natCast]; exact UInt8.ofNat_toNat
    rw [e, List.map_id]
  exact h _
theorem repl_ev (s o n : List UInt8) (hs : s.length ≤ 1000) (hn : n.length ≤ 1000) (ho : o ≠ []) : D 45 [.sc (.string (B s)), .sc (.string (B o)), .sc (.string (B n))] = some (.sc (.string (B (repR o n s)))) := by
  have e : D 45 [.sc (.string (B s)), .sc (.string (B o)), .sc (.string (B n))] = xReplaceAll [.sc (.string (B s)), .sc (.string (B o)), .sc (.string (B n))] := (denI_eq 0 _ _).trans (by kernel_rfl)
  rw [e]
  have hp : 0 < o.length := List.length_pos_iff.2 ho
  have hc : Lib.count s o * n.length ≤ 1001 * 1000 := Nat.mul_le_mul (by have := Lib.count_le s o; omega) hn
  have hcond : (B s).size < 4294967281 ∧ 1 ≤ (B o).size ∧ (B s).size + Lib.countB (B s) (B o) * (B n).size ≤ 140737488355328 := by
    refine ⟨by rw [B_size]; omega, by rw [B_size]; omega, ?_⟩
    rw [B_size, B_size]
    show s.length + Lib.count s o * n.length ≤ _
    omega
  refine (if_pos hcond).trans ?_
  · show some (PV.sc (.string (B (Lib.replaceAll s o n)))) = _
    have e2 : Lib.replaceAll s o n = repR o n s := by
      unfold Lib.replaceAll Lib.replace
      by_cases h : (o == n) = true
      · rw [if_pos h]
        have : o = n := by simpa using h
        subst this
        exact (rep_same ho s).symm
      · rw [if_neg h]
        unfold repR Lib.replaceNum
        rw [if_pos (.inl (by decide))]
    rw [e2]
theorem bt34 {l : List UInt8} {i : Nat} (h : i < l.length) : ((bt (B l) (i : Int)) == 34) = decide (l[i] = 34) := by
  rw [B_bt h, Bool.eq_iff_iff, beq_iff_eq, decide_eq_true_eq]
  constructor
  · intro h2
    have : l[i].toNat = (34 : UInt8).toNat := by have : (34 : UInt8).toNat = 34 := rfl; omega
    exact UInt8.toNat_inj.1 this
  · intro h2; rw [h2]; rfl
end Go.Den.EL
