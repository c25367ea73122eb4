/- What the cells of the laws' arguments are. -/
import Derived.Test.YtbkdoeghgdbjlaaDoorDenV
set_option linter.unusedVariables false
set_option maxRecDepth 100000
namespace Go.Den.EL
open Go Go.Proofs
-- LexBlanks: function 4, types [9, 3, 5]
theorem on9 (x : PV) : ofCells Tryd.prog 9 [x] = x := by unfold ofCells; rw [Tryd.underlying9]; rfl
theorem ce9 : Tryd.prog.cellsOf 9 = 1 := by kernel_rfl
theorem by9 : Tryd.prog.bytesOf 9 = 16 := by kernel_rfl
theorem of9 {xs : List PV} (h : Ty Tryd.prog 9 xs) : ∃ (a : ByteArray), xs = [.sc (.string a)] ∧ a.size ≤ 140737488351232 := by
  exact ty_str h Tryd.underlying9
theorem on3 (x : PV) : ofCells Tryd.prog 3 [x] = x := by unfold ofCells; rw [Tryd.underlying3]; rfl
theorem ce3 : Tryd.prog.cellsOf 3 = 1 := by kernel_rfl
theorem by3 : Tryd.prog.bytesOf 3 = 8 := by kernel_rfl
theorem of3 {xs : List PV} (h : Ty Tryd.prog 3 xs) : ∃ (a : Int), xs = [.sc (.int .i64 a)] ∧ (-9223372036854775808 ≤ a ∧ a ≤ 9223372036854775807) := by
  obtain ⟨a, e, w⟩ := ty_i64 h Tryd.underlying3
  exact ⟨a, e, w⟩
theorem on5 (x : PV) : ofCells Tryd.prog 5 [x] = x := by unfold ofCells; rw [Tryd.underlying5]; rfl
theorem ce5 : Tryd.prog.cellsOf 5 = 1 := by kernel_rfl
theorem by5 : Tryd.prog.bytesOf 5 = 1 := by kernel_rfl
theorem of5 {xs : List PV} (h : Ty Tryd.prog 5 xs) : ∃ (a : Int), xs = [.sc (.int .u8 a)] ∧ (0 ≤ a ∧ a ≤ 255) := by
  obtain ⟨a, e, w⟩ := ty_u8 h Tryd.underlying5
  exact ⟨a, e, w⟩
end Go.Den.EL
