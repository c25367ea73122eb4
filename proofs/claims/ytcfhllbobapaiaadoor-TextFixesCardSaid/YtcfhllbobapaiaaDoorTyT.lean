/- What the cells of the laws' arguments are. -/
import Derived.Test.YtcfhllbobapaiaaDoorDenV
set_option linter.unusedVariables false
set_option maxRecDepth 100000
namespace Go.Den.ET
open Go Go.Proofs
-- TextPuts: function 11, types [9, 63, 3]
-- TextFixes: function 12, types [2, 3]
-- TextTurns: function 13, types [9]
-- TextJoins: function 14, types [77, 3]
theorem on9 (x : PV) : ofCells Tryd.prog 9 [x] = x := by unfold ofCells; rw [Tryd.underlying9]; rfl
theorem ce9 : Tryd.prog.cellsOf 9 = 1 := by kernel_rfl
theorem by9 : Tryd.prog.bytesOf 9 = 16 := by kernel_rfl
theorem of9 {xs : List PV} (h : Ty Tryd.prog 9 xs) : ∃ (a : ByteArray), xs = [.sc (.string a)] ∧ a.size ≤ 140737488351232 := by
  exact ty_str h Tryd.underlying9
theorem ag63 (a : List PV) : ofCells Tryd.prog 63 a = .agg a := by unfold ofCells; rw [Tryd.underlying63]; rfl
theorem ce63 : Tryd.prog.cellsOf 63 = 2 := by kernel_rfl
theorem by63 : Tryd.prog.bytesOf 63 = 32 := by kernel_rfl
theorem of63 {xs : List PV} (h : Ty Tryd.prog 63 xs) : ∃ (a_0 : ByteArray) (a_1 : ByteArray), xs = [.sc (.string a_0), .sc (.string a_1)] ∧ a_0.size ≤ 140737488351232 ∧ a_1.size ≤ 140737488351232 := by
  obtain ⟨hl, hx⟩ := ty_array h Tryd.underlying63
  rw [ce63] at hl
  obtain ⟨x0, x1, rfl⟩ : ∃ x0 x1, xs = [x0, x1] := by
    match xs, hl with
    | [x0, x1], _ => exact ⟨x0, x1, rfl⟩
  have h0 : Ty Tryd.prog 9 [x0] := by
    have h := hx 0 (by decide)
    first | (simp only [ce9] at h; exact h) | exact h
  obtain ⟨a_0, e0, w0_0⟩ := of9 h0
  simp only [List.cons.injEq, and_true] at e0
  subst e0
  have h1 : Ty Tryd.prog 9 [x1] := by
    have h := hx 1 (by decide)
    first | (simp only [ce9] at h; exact h) | exact h
  obtain ⟨a_1, e1, w1_0⟩ := of9 h1
  simp only [List.cons.injEq, and_true] at e1
  subst e1
  exact ⟨a_0, a_1, rfl, w0_0, w1_0⟩
theorem on3 (x : PV) : ofCells Tryd.prog 3 [x] = x := by unfold ofCells; rw [Tryd.underlying3]; rfl
theorem ce3 : Tryd.prog.cellsOf 3 = 1 := by kernel_rfl
theorem by3 : Tryd.prog.bytesOf 3 = 8 := by kernel_rfl
theorem of3 {xs : List PV} (h : Ty Tryd.prog 3 xs) : ∃ (a : Int), xs = [.sc (.int .i64 a)] ∧ (-9223372036854775808 ≤ a ∧ a ≤ 9223372036854775807) := by
  obtain ⟨a, e, w⟩ := ty_i64 h Tryd.underlying3
  exact ⟨a, e, w⟩
theorem on2 (x : PV) : ofCells Tryd.prog 2 [x] = x := by unfold ofCells; rw [Tryd.underlying2]; rfl
theorem ce2 : Tryd.prog.cellsOf 2 = 1 := by kernel_rfl
theorem by2 : Tryd.prog.bytesOf 2 = 8 := by kernel_rfl
theorem of2 {xs : List PV} (h : Ty Tryd.prog 2 xs) : ∃ (a : Int), xs = [.sc (.int .i64 a)] ∧ (-9223372036854775808 ≤ a ∧ a ≤ 9223372036854775807) := by
  obtain ⟨a, e, w⟩ := ty_i64 h Tryd.underlying2
  exact ⟨a, e, w⟩
theorem on77 (x : PV) : ofCells Tryd.prog 77 [x] = x := by unfold ofCells; rw [Tryd.underlying77]; rfl
theorem ce77 : Tryd.prog.cellsOf 77 = 1 := by kernel_rfl
theorem by77 : Tryd.prog.bytesOf 77 = 24 := by kernel_rfl
theorem of77 {xs : List PV} (h : Ty Tryd.prog 77 xs) : ∃ (a : List PV), xs = [frozen 1 a] ∧ (a.length * 16 ≤ 140737488351232 ∧ a.length ≤ 9223372036854775807 ∧ ∀ x, x ∈ a → Ty Tryd.prog 9 x.cells ∧ x = ofCells Tryd.prog 9 x.cells) := by
  obtain ⟨l, e, h1, h2, h3⟩ := ty_slice h Tryd.underlying77
  rw [ce9] at e; rw [by9] at h1
  exact ⟨l, e, h1, h2, h3⟩
end Go.Den.ET
