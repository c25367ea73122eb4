/- What the cells of the laws' arguments are. -/
import Derived.Test.YtbkdoeghgdbjlaaGreatDoorDenV
set_option linter.unusedVariables false
set_option maxRecDepth 100000
namespace Go.Den.EV
open Go Go.Proofs
-- ValueTurns: function 3, types [23]
theorem on3 (x : PV) : ofCells Tryz.prog 3 [x] = x := by unfold ofCells; rw [Tryz.underlying3]; rfl
theorem ce3 : Tryz.prog.cellsOf 3 = 1 := by kernel_rfl
theorem by3 : Tryz.prog.bytesOf 3 = 8 := by kernel_rfl
theorem of3 {xs : List PV} (h : Ty Tryz.prog 3 xs) : ∃ (a : Int), xs = [.sc (.int .i64 a)] ∧ (-9223372036854775808 ≤ a ∧ a ≤ 9223372036854775807) := by
  obtain ⟨a, e, w⟩ := ty_i64 h Tryz.underlying3
  exact ⟨a, e, w⟩
theorem on2 (x : PV) : ofCells Tryz.prog 2 [x] = x := by unfold ofCells; rw [Tryz.underlying2]; rfl
theorem ce2 : Tryz.prog.cellsOf 2 = 1 := by kernel_rfl
theorem by2 : Tryz.prog.bytesOf 2 = 8 := by kernel_rfl
theorem of2 {xs : List PV} (h : Ty Tryz.prog 2 xs) : ∃ (a : Int), xs = [.sc (.int .i64 a)] ∧ (-9223372036854775808 ≤ a ∧ a ≤ 9223372036854775807) := by
  obtain ⟨a, e, w⟩ := ty_i64 h Tryz.underlying2
  exact ⟨a, e, w⟩
theorem on9 (x : PV) : ofCells Tryz.prog 9 [x] = x := by unfold ofCells; rw [Tryz.underlying9]; rfl
theorem ce9 : Tryz.prog.cellsOf 9 = 1 := by kernel_rfl
theorem by9 : Tryz.prog.bytesOf 9 = 16 := by kernel_rfl
theorem of9 {xs : List PV} (h : Ty Tryz.prog 9 xs) : ∃ (a : ByteArray), xs = [.sc (.string a)] ∧ a.size ≤ 140737488351232 := by
  exact ty_str h Tryz.underlying9
theorem ag23 (a : List PV) : ofCells Tryz.prog 23 a = .agg a := by unfold ofCells; rw [Tryz.underlying23]; rfl
theorem ce23 : Tryz.prog.cellsOf 23 = 3 := by kernel_rfl
theorem by23 : Tryz.prog.bytesOf 23 = 32 := by kernel_rfl
theorem of23 {xs : List PV} (h : Ty Tryz.prog 23 xs) : ∃ (a_0 : Int) (a_1 : Int) (a_2 : ByteArray), xs = [.sc (.int .i64 a_0), .sc (.int .i64 a_1), .sc (.string a_2)] ∧ (-9223372036854775808 ≤ a_0 ∧ a_0 ≤ 9223372036854775807) ∧ (-9223372036854775808 ≤ a_1 ∧ a_1 ≤ 9223372036854775807) ∧ a_2.size ≤ 140737488351232 := by
  obtain ⟨hl, hx⟩ := ty_struct h Tryz.underlying23
  rw [ce23] at hl
  obtain ⟨x0, x1, x2, rfl⟩ : ∃ x0 x1 x2, xs = [x0, x1, x2] := by
    match xs, hl with
    | [x0, x1, x2], _ => exact ⟨x0, x1, x2, rfl⟩
  have h0 : Ty Tryz.prog 3 [x0] := by
    have h := hx _ (List.mem_cons_self)
    first | (simp only [ce3] at h; exact h) | exact h
  obtain ⟨a_0, e0, w0_0⟩ := of3 h0
  simp only [List.cons.injEq, and_true] at e0
  subst e0
  have h1 : Ty Tryz.prog 2 [x1] := by
    have h := hx _ (List.mem_cons_of_mem _ (List.mem_cons_self))
    first | (simp only [ce2] at h; exact h) | exact h
  obtain ⟨a_1, e1, w1_0⟩ := of2 h1
  simp only [List.cons.injEq, and_true] at e1
  subst e1
  have h2 : Ty Tryz.prog 9 [x2] := by
    have h := hx _ (List.mem_cons_of_mem _ (List.mem_cons_of_mem _ (List.mem_cons_self)))
    first | (simp only [ce9] at h; exact h) | exact h
  obtain ⟨a_2, e2, w2_0⟩ := of9 h2
  simp only [List.cons.injEq, and_true] at e2
  subst e2
  exact ⟨a_0, a_1, a_2, rfl, w0_0, w1_0, w2_0⟩
end Go.Den.EV
