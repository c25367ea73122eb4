/- What the cells of the laws' arguments are. -/
import Derived.Test.YtcncojlgapknpaaDoorDenV
set_option linter.unusedVariables false
set_option maxRecDepth 100000
namespace Go.Den.EM
open Go Go.Proofs
-- MeterFits: function 7, types [81, 81, 91]
-- MeterText: function 6, types [81, 9]
theorem on3 (x : PV) : ofCells Tryd.prog 3 [x] = x := by unfold ofCells; rw [Tryd.underlying3]; rfl
theorem ce3 : Tryd.prog.cellsOf 3 = 1 := by kernel_rfl
theorem by3 : Tryd.prog.bytesOf 3 = 8 := by kernel_rfl
theorem of3 {xs : List PV} (h : Ty Tryd.prog 3 xs) : ∃ (a : Int), xs = [.sc (.int .i64 a)] ∧ (-9223372036854775808 ≤ a ∧ a ≤ 9223372036854775807) := by
  obtain ⟨a, e, w⟩ := ty_i64 h Tryd.underlying3
  exact ⟨a, e, w⟩
theorem ag81 (a : List PV) : ofCells Tryd.prog 81 a = .agg a := by unfold ofCells; rw [Tryd.underlying81]; rfl
theorem ce81 : Tryd.prog.cellsOf 81 = 5 := by kernel_rfl
theorem by81 : Tryd.prog.bytesOf 81 = 40 := by kernel_rfl
theorem of81 {xs : List PV} (h : Ty Tryd.prog 81 xs) : ∃ (a_0 : Int) (a_1 : Int) (a_2 : Int) (a_3 : Int) (a_4 : Int), xs = [.sc (.int .i64 a_0), .sc (.int .i64 a_1), .sc (.int .i64 a_2), .sc (.int .i64 a_3), .sc (.int .i64 a_4)] ∧ (-9223372036854775808 ≤ a_0 ∧ a_0 ≤ 9223372036854775807) ∧ (-9223372036854775808 ≤ a_1 ∧ a_1 ≤ 9223372036854775807) ∧ (-9223372036854775808 ≤ a_2 ∧ a_2 ≤ 9223372036854775807) ∧ (-9223372036854775808 ≤ a_3 ∧ a_3 ≤ 9223372036854775807) ∧ (-9223372036854775808 ≤ a_4 ∧ a_4 ≤ 9223372036854775807) := by
  obtain ⟨hl, hx⟩ := ty_struct h Tryd.underlying81
  rw [ce81] at hl
  obtain ⟨x0, x1, x2, x3, x4, rfl⟩ : ∃ x0 x1 x2 x3 x4, xs = [x0, x1, x2, x3, x4] := by
    match xs, hl with
    | [x0, x1, x2, x3, x4], _ => exact ⟨x0, x1, x2, x3, x4, rfl⟩
  have h0 : Ty Tryd.prog 3 [x0] := by
    have h := hx _ (List.mem_cons_self)
    first | (simp only [ce3] at h; exact h) | exact h
  obtain ⟨a_0, e0, w0_0⟩ := of3 h0
  simp only [List.cons.injEq, and_true] at e0
  subst e0
  have h1 : Ty Tryd.prog 3 [x1] := by
    have h := hx _ (List.mem_cons_of_mem _ (List.mem_cons_self))
    first | (simp only [ce3] at h; exact h) | exact h
  obtain ⟨a_1, e1, w1_0⟩ := of3 h1
  simp only [List.cons.injEq, and_true] at e1
  subst e1
  have h2 : Ty Tryd.prog 3 [x2] := by
    have h := hx _ (List.mem_cons_of_mem _ (List.mem_cons_of_mem _ (List.mem_cons_self)))
    first | (simp only [ce3] at h; exact h) | exact h
  obtain ⟨a_2, e2, w2_0⟩ := of3 h2
  simp only [List.cons.injEq, and_true] at e2
  subst e2
  have h3 : Ty Tryd.prog 3 [x3] := by
    have h := hx _ (List.mem_cons_of_mem _ (List.mem_cons_of_mem _ (List.mem_cons_of_mem _ (List.mem_cons_self))))
    first | (simp only [ce3] at h; exact h) | exact h
  obtain ⟨a_3, e3, w3_0⟩ := of3 h3
  simp only [List.cons.injEq, and_true] at e3
  subst e3
  have h4 : Ty Tryd.prog 3 [x4] := by
    have h := hx _ (List.mem_cons_of_mem _ (List.mem_cons_of_mem _ (List.mem_cons_of_mem _ (List.mem_cons_of_mem _ (List.mem_cons_self)))))
    first | (simp only [ce3] at h; exact h) | exact h
  obtain ⟨a_4, e4, w4_0⟩ := of3 h4
  simp only [List.cons.injEq, and_true] at e4
  subst e4
  exact ⟨a_0, a_1, a_2, a_3, a_4, rfl, w0_0, w1_0, w2_0, w3_0, w4_0⟩
theorem ag90 (a : List PV) : ofCells Tryd.prog 90 a = .agg a := by unfold ofCells; rw [Tryd.underlying90]; rfl
theorem ce90 : Tryd.prog.cellsOf 90 = 5 := by kernel_rfl
theorem by90 : Tryd.prog.bytesOf 90 = 40 := by kernel_rfl
theorem of90 {xs : List PV} (h : Ty Tryd.prog 90 xs) : ∃ (a_0 : Int) (a_1 : Int) (a_2 : Int) (a_3 : Int) (a_4 : Int), xs = [.sc (.int .i64 a_0), .sc (.int .i64 a_1), .sc (.int .i64 a_2), .sc (.int .i64 a_3), .sc (.int .i64 a_4)] ∧ (-9223372036854775808 ≤ a_0 ∧ a_0 ≤ 9223372036854775807) ∧ (-9223372036854775808 ≤ a_1 ∧ a_1 ≤ 9223372036854775807) ∧ (-9223372036854775808 ≤ a_2 ∧ a_2 ≤ 9223372036854775807) ∧ (-9223372036854775808 ≤ a_3 ∧ a_3 ≤ 9223372036854775807) ∧ (-9223372036854775808 ≤ a_4 ∧ a_4 ≤ 9223372036854775807) := by
  obtain ⟨hl, hx⟩ := ty_struct h Tryd.underlying90
  rw [ce90] at hl
  obtain ⟨x0, x1, x2, x3, x4, rfl⟩ : ∃ x0 x1 x2 x3 x4, xs = [x0, x1, x2, x3, x4] := by
    match xs, hl with
    | [x0, x1, x2, x3, x4], _ => exact ⟨x0, x1, x2, x3, x4, rfl⟩
  have h0 : Ty Tryd.prog 3 [x0] := by
    have h := hx _ (List.mem_cons_self)
    first | (simp only [ce3] at h; exact h) | exact h
  obtain ⟨a_0, e0, w0_0⟩ := of3 h0
  simp only [List.cons.injEq, and_true] at e0
  subst e0
  have h1 : Ty Tryd.prog 3 [x1] := by
    have h := hx _ (List.mem_cons_of_mem _ (List.mem_cons_self))
    first | (simp only [ce3] at h; exact h) | exact h
  obtain ⟨a_1, e1, w1_0⟩ := of3 h1
  simp only [List.cons.injEq, and_true] at e1
  subst e1
  have h2 : Ty Tryd.prog 3 [x2] := by
    have h := hx _ (List.mem_cons_of_mem _ (List.mem_cons_of_mem _ (List.mem_cons_self)))
    first | (simp only [ce3] at h; exact h) | exact h
  obtain ⟨a_2, e2, w2_0⟩ := of3 h2
  simp only [List.cons.injEq, and_true] at e2
  subst e2
  have h3 : Ty Tryd.prog 3 [x3] := by
    have h := hx _ (List.mem_cons_of_mem _ (List.mem_cons_of_mem _ (List.mem_cons_of_mem _ (List.mem_cons_self))))
    first | (simp only [ce3] at h; exact h) | exact h
  obtain ⟨a_3, e3, w3_0⟩ := of3 h3
  simp only [List.cons.injEq, and_true] at e3
  subst e3
  have h4 : Ty Tryd.prog 3 [x4] := by
    have h := hx _ (List.mem_cons_of_mem _ (List.mem_cons_of_mem _ (List.mem_cons_of_mem _ (List.mem_cons_of_mem _ (List.mem_cons_self)))))
    first | (simp only [ce3] at h; exact h) | exact h
  obtain ⟨a_4, e4, w4_0⟩ := of3 h4
  simp only [List.cons.injEq, and_true] at e4
  subst e4
  exact ⟨a_0, a_1, a_2, a_3, a_4, rfl, w0_0, w1_0, w2_0, w3_0, w4_0⟩
theorem ag91 (a : List PV) : ofCells Tryd.prog 91 a = .agg a := by unfold ofCells; rw [Tryd.underlying91]; rfl
theorem ce91 : Tryd.prog.cellsOf 91 = 10 := by kernel_rfl
theorem by91 : Tryd.prog.bytesOf 91 = 80 := by kernel_rfl
theorem of91 {xs : List PV} (h : Ty Tryd.prog 91 xs) : ∃ (a_0_0 : Int) (a_0_1 : Int) (a_0_2 : Int) (a_0_3 : Int) (a_0_4 : Int) (a_1_0 : Int) (a_1_1 : Int) (a_1_2 : Int) (a_1_3 : Int) (a_1_4 : Int), xs = [.sc (.int .i64 a_0_0), .sc (.int .i64 a_0_1), .sc (.int .i64 a_0_2), .sc (.int .i64 a_0_3), .sc (.int .i64 a_0_4), .sc (.int .i64 a_1_0), .sc (.int .i64 a_1_1), .sc (.int .i64 a_1_2), .sc (.int .i64 a_1_3), .sc (.int .i64 a_1_4)] ∧ (-9223372036854775808 ≤ a_0_0 ∧ a_0_0 ≤ 9223372036854775807) ∧ (-9223372036854775808 ≤ a_0_1 ∧ a_0_1 ≤ 9223372036854775807) ∧ (-9223372036854775808 ≤ a_0_2 ∧ a_0_2 ≤ 9223372036854775807) ∧ (-9223372036854775808 ≤ a_0_3 ∧ a_0_3 ≤ 9223372036854775807) ∧ (-9223372036854775808 ≤ a_0_4 ∧ a_0_4 ≤ 9223372036854775807) ∧ (-9223372036854775808 ≤ a_1_0 ∧ a_1_0 ≤ 9223372036854775807) ∧ (-9223372036854775808 ≤ a_1_1 ∧ a_1_1 ≤ 9223372036854775807) ∧ (-9223372036854775808 ≤ a_1_2 ∧ a_1_2 ≤ 9223372036854775807) ∧ (-9223372036854775808 ≤ a_1_3 ∧ a_1_3 ≤ 9223372036854775807) ∧ (-9223372036854775808 ≤ a_1_4 ∧ a_1_4 ≤ 9223372036854775807) := by
  obtain ⟨hl, hx⟩ := ty_array h Tryd.underlying91
  rw [ce91] at hl
  obtain ⟨x0, x1, x2, x3, x4, x5, x6, x7, x8, x9, rfl⟩ : ∃ x0 x1 x2 x3 x4 x5 x6 x7 x8 x9, xs = [x0, x1, x2, x3, x4, x5, x6, x7, x8, x9] := by
    match xs, hl with
    | [x0, x1, x2, x3, x4, x5, x6, x7, x8, x9], _ => exact ⟨x0, x1, x2, x3, x4, x5, x6, x7, x8, x9, rfl⟩
  have h0 : Ty Tryd.prog 90 [x0, x1, x2, x3, x4] := by
    have h := hx 0 (by decide)
    first | (simp only [ce90] at h; exact h) | exact h
  obtain ⟨a_0_0, a_0_1, a_0_2, a_0_3, a_0_4, e0, w0_0, w0_1, w0_2, w0_3, w0_4⟩ := of90 h0
  simp only [List.cons.injEq, and_true] at e0
  obtain ⟨rfl, rfl, rfl, rfl, rfl⟩ := e0
  have h1 : Ty Tryd.prog 90 [x5, x6, x7, x8, x9] := by
    have h := hx 1 (by decide)
    first | (simp only [ce90] at h; exact h) | exact h
  obtain ⟨a_1_0, a_1_1, a_1_2, a_1_3, a_1_4, e1, w1_0, w1_1, w1_2, w1_3, w1_4⟩ := of90 h1
  simp only [List.cons.injEq, and_true] at e1
  obtain ⟨rfl, rfl, rfl, rfl, rfl⟩ := e1
  exact ⟨a_0_0, a_0_1, a_0_2, a_0_3, a_0_4, a_1_0, a_1_1, a_1_2, a_1_3, a_1_4, rfl, w0_0, w0_1, w0_2, w0_3, w0_4, w1_0, w1_1, w1_2, w1_3, w1_4⟩
theorem on9 (x : PV) : ofCells Tryd.prog 9 [x] = x := by unfold ofCells; rw [Tryd.underlying9]; rfl
theorem ce9 : Tryd.prog.cellsOf 9 = 1 := by kernel_rfl
theorem by9 : Tryd.prog.bytesOf 9 = 16 := by kernel_rfl
theorem of9 {xs : List PV} (h : Ty Tryd.prog 9 xs) : ∃ (a : ByteArray), xs = [.sc (.string a)] ∧ a.size ≤ 140737488351232 := by
  exact ty_str h Tryd.underlying9
end Go.Den.EM
