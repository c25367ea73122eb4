/- What the cells of the laws' arguments are. -/
import Derived.Test.YtbkdoeghgdbjlaaDoorDenV
set_option linter.unusedVariables false
set_option maxRecDepth 100000
namespace Go.Den.EM
open Go Go.Proofs
-- MeterText: function 3, types [23, 9]
theorem on3 (x : PV) : ofCells Tryd.prog 3 [x] = x := by unfold ofCells; rw [Tryd.underlying3]; rfl
theorem ce3 : Tryd.prog.cellsOf 3 = 1 := by kernel_rfl
theorem by3 : Tryd.prog.bytesOf 3 = 8 := by kernel_rfl
theorem of3 {xs : List PV} (h : Ty Tryd.prog 3 xs) : ∃ (a : Int), xs = [.sc (.int .i64 a)] ∧ (-9223372036854775808 ≤ a ∧ a ≤ 9223372036854775807) := by
  obtain ⟨a, e, w⟩ := ty_i64 h Tryd.underlying3
  exact ⟨a, e, w⟩
theorem ag23 (a : List PV) : ofCells Tryd.prog 23 a = .agg a := by unfold ofCells; rw [Tryd.underlying23]; rfl
theorem ce23 : Tryd.prog.cellsOf 23 = 5 := by kernel_rfl
theorem by23 : Tryd.prog.bytesOf 23 = 40 := by kernel_rfl
theorem of23 {xs : List PV} (h : Ty Tryd.prog 23 xs) : ∃ (a_0 : Int) (a_1 : Int) (a_2 : Int) (a_3 : Int) (a_4 : Int), xs = [.sc (.int .i64 a_0), .sc (.int .i64 a_1), .sc (.int .i64 a_2), .sc (.int .i64 a_3), .sc (.int .i64 a_4)] ∧ (-9223372036854775808 ≤ a_0 ∧ a_0 ≤ 9223372036854775807) ∧ (-9223372036854775808 ≤ a_1 ∧ a_1 ≤ 9223372036854775807) ∧ (-9223372036854775808 ≤ a_2 ∧ a_2 ≤ 9223372036854775807) ∧ (-9223372036854775808 ≤ a_3 ∧ a_3 ≤ 9223372036854775807) ∧ (-9223372036854775808 ≤ a_4 ∧ a_4 ≤ 9223372036854775807) := by
  obtain ⟨hl, hx⟩ := ty_struct h Tryd.underlying23
  rw [ce23] at hl
  obtain ⟨x0, x1, x2, x3, x4, rfl⟩ : ∃ x0 x1 x2 x3 x4, xs = [x0, x1, x2, x3, x4] := by
    match xs, hl with
    | [x0, x1, x2, x3, x4], _ => exact ⟨x0, x1, x2, x3, x4, rfl⟩
  have h0 : Ty Tryd.prog 3 [x0] := by
    have h := hx _ (List.mem_cons_self)
    first | (simp only [ce3] at h; exact h) | exact h
  obtain ⟨a_0, e0, w0_0⟩ := of3 h0
  simp only [List.cons.injEq, and_true] at e0
  subst e0
  have h1 : Ty Tryd.prog 3 [x1] := by
    have h := hx _ (List.mem_cons_of_mem _ (List.mem_cons_self))
    first | (simp only [ce3] at h; exact h) | exact h
  obtain ⟨a_1, e1, w1_0⟩ := of3 h1
  simp only [List.cons.injEq, and_true] at e1
  subst e1
  have h2 : Ty Tryd.prog 3 [x2] := by
    have h := hx _ (List.mem_cons_of_mem _ (List.mem_cons_of_mem _ (List.mem_cons_self)))
    first | (simp only [ce3] at h; exact h) | exact h
  obtain ⟨a_2, e2, w2_0⟩ := of3 h2
  simp only [List.cons.injEq, and_true] at e2
  subst e2
  have h3 : Ty Tryd.prog 3 [x3] := by
    have h := hx _ (List.mem_cons_of_mem _ (List.mem_cons_of_mem _ (List.mem_cons_of_mem _ (List.mem_cons_self))))
    first | (simp only [ce3] at h; exact h) | exact h
  obtain ⟨a_3, e3, w3_0⟩ := of3 h3
  simp only [List.cons.injEq, and_true] at e3
  subst e3
  have h4 : Ty Tryd.prog 3 [x4] := by
    have h := hx _ (List.mem_cons_of_mem _ (List.mem_cons_of_mem _ (List.mem_cons_of_mem _ (List.mem_cons_of_mem _ (List.mem_cons_self)))))
    first | (simp only [ce3] at h; exact h) | exact h
  obtain ⟨a_4, e4, w4_0⟩ := of3 h4
  simp only [List.cons.injEq, and_true] at e4
  subst e4
  exact ⟨a_0, a_1, a_2, a_3, a_4, rfl, w0_0, w1_0, w2_0, w3_0, w4_0⟩
theorem on9 (x : PV) : ofCells Tryd.prog 9 [x] = x := by unfold ofCells; rw [Tryd.underlying9]; rfl
theorem ce9 : Tryd.prog.cellsOf 9 = 1 := by kernel_rfl
theorem by9 : Tryd.prog.bytesOf 9 = 16 := by kernel_rfl
theorem of9 {xs : List PV} (h : Ty Tryd.prog 9 xs) : ∃ (a : ByteArray), xs = [.sc (.string a)] ∧ a.size ≤ 140737488351232 := by
  exact ty_str h Tryd.underlying9
end Go.Den.EM
