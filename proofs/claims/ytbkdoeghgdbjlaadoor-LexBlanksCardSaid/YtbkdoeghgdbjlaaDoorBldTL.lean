/- strings.Builder: what is written. -/
import Derived.Test.YtbkdoeghgdbjlaaDoorDigTL
set_option linter.unusedVariables false
set_option linter.unusedSimpArgs false
set_option maxRecDepth 100000
namespace Go.Den.EL
open Go Go.Proofs
def bld (xs : List PV) : List PV := [.iptr (.ptr 71 0 :: [.selfp 0, .buf 1 0]), .tup (.ptr 5 0 :: xs)]
theorem sb (l : List UInt8) : strB (B l) = l.map fun b => .sc (.int .u8 b.toNat) := rfl
theorem sb_len (l : List UInt8) : (strB (B l)).length = l.length := by rw [sb, List.length_map]
theorem sb_snoc (l : List UInt8) (b : UInt8) : strB (B l) ++ [.sc (.int .u8 (b.toNat : Int))] = strB (B (l ++ [b])) := by rw [sb, sb]; simp
theorem bcheck_ev (xs : List PV) : D 52 [.hp (bld xs), .ptr 0 0] = some (.tup [.hp (bld xs), .tup []]) := by
  have e : D 52 [.hp (bld xs), .ptr 0 0] = xCopyCheck [.hp (bld xs), .ptr 0 0] := (denI_eq 0 _ _).trans (by kernel_rfl)
  rw [e]
  rfl
theorem byteOk_strB (s : ByteArray) : (strB s).all byteOk = true := by
  unfold strB
  rw [List.all_eq_true]
  intro x hx
  obtain ⟨b, _, rfl⟩ := List.mem_map.1 hx
  have := b.toNat_lt
  simp [byteOk]
  omega
theorem bytesOf_strB (s : ByteArray) : bytesOf (strB s) = s := by
  obtain ⟨l, rfl⟩ := B_of s
  have h : ∀ l : List UInt8, (l.map fun b => PV.sc (.int .u8 (b.toNat : Int))).map (fun x => UInt8.ofNat x.toInt.toNat) = l := by
    intro l
    induction l with
    | nil => rfl
    | cons b l ih =>
      rw [List.map_cons, List.map_cons, ih]
      congr 1
      show UInt8.ofNat ((b.toNat : Int)).toNat = b
      simp
  unfold bytesOf strB
  rw [B_data, h]
  rfl
theorem strB_append (s t : ByteArray) : strB s ++ strB t = strB (s ++ t) := by
  obtain ⟨l, rfl⟩ := B_of s
  obtain ⟨m, rfl⟩ := B_of t
  rw [B_append]
  simp [strB, B]
theorem bwb_ev (s : List UInt8) (b : UInt8) (h : s.length ≤ 1000000) : D 63 [.hp (bld (strB (B s))), .ptr 0 0, .sc (.int .u8 (b.toNat : Int))] = some (.tup [.hp (bld (strB (B (s ++ [b])))), .top]) := by
  refine (f63h_eq 0 (b.toNat : Int) (strB (B s))).trans (hb (bcheck_ev (strB (B s))) rfl rfl ?_)
  have e := sb_len s
  refine ip (by show ((strB (B s)).length + 1) * 1 ≤ _ ∧ (strB (B s)).length + 1 ≤ _; omega) ?_
  show some (PV.tup [.hp (bld (strB (B s) ++ [.sc (.int .u8 (b.toNat : Int))])), .top]) = _
  rw [sb_snoc]
theorem bstr_ev (l : List UInt8) : D 38 [.hp (bld (strB (B l))), .ptr 0 0] = some (.tup [.hp [.top, .top], .sc (.string (B l))]) := by
  have e : D 38 [.hp (bld (strB (B l))), .ptr 0 0] = xBString [.hp (bld (strB (B l))), .ptr 0 0] := (denI_eq 0 _ _).trans (by kernel_rfl)
  rw [e]
  refine (if_pos ⟨rfl, rfl, byteOk_strB (B l)⟩).trans ?_
  rw [bytesOf_strB]
end Go.Den.EL
