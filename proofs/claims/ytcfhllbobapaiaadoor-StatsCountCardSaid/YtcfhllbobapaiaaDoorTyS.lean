/- What the cells of the laws' arguments are. -/
import Derived.Test.YtcfhllbobapaiaaDoorDenV
set_option linter.unusedVariables false
set_option maxRecDepth 100000
namespace Go.Den.ES
open Go Go.Proofs
-- StatsAdd: function 7, types [37, 37]
-- StatsCount: function 6, types [37, 39]
theorem on3 (x : PV) : ofCells Tryd.prog 3 [x] = x := by unfold ofCells; rw [Tryd.underlying3]; rfl
theorem ce3 : Tryd.prog.cellsOf 3 = 1 := by kernel_rfl
theorem by3 : Tryd.prog.bytesOf 3 = 8 := by kernel_rfl
theorem of3 {xs : List PV} (h : Ty Tryd.prog 3 xs) : ∃ (a : Int), xs = [.sc (.int .i64 a)] ∧ (-9223372036854775808 ≤ a ∧ a ≤ 9223372036854775807) := by
  obtain ⟨a, e, w⟩ := ty_i64 h Tryd.underlying3
  exact ⟨a, e, w⟩
theorem ag49 (a : List PV) : ofCells Tryd.prog 49 a = .agg a := by unfold ofCells; rw [Tryd.underlying49]; rfl
theorem ce49 : Tryd.prog.cellsOf 49 = 2 := by kernel_rfl
theorem by49 : Tryd.prog.bytesOf 49 = 16 := by kernel_rfl
theorem of49 {xs : List PV} (h : Ty Tryd.prog 49 xs) : ∃ (a_0 : Int) (a_1 : Int), xs = [.sc (.int .i64 a_0), .sc (.int .i64 a_1)] ∧ (-9223372036854775808 ≤ a_0 ∧ a_0 ≤ 9223372036854775807) ∧ (-9223372036854775808 ≤ a_1 ∧ a_1 ≤ 9223372036854775807) := by
  obtain ⟨hl, hx⟩ := ty_struct h Tryd.underlying49
  rw [ce49] at hl
  obtain ⟨x0, x1, rfl⟩ : ∃ x0 x1, xs = [x0, x1] := by
    match xs, hl with
    | [x0, x1], _ => exact ⟨x0, x1, rfl⟩
  have h0 : Ty Tryd.prog 3 [x0] := by
    have h := hx _ (List.mem_cons_self)
    first | (simp only [ce3] at h; exact h) | exact h
  obtain ⟨a_0, e0, w0_0⟩ := of3 h0
  simp only [List.cons.injEq, and_true] at e0
  subst e0
  have h1 : Ty Tryd.prog 3 [x1] := by
    have h := hx _ (List.mem_cons_of_mem _ (List.mem_cons_self))
    first | (simp only [ce3] at h; exact h) | exact h
  obtain ⟨a_1, e1, w1_0⟩ := of3 h1
  simp only [List.cons.injEq, and_true] at e1
  subst e1
  exact ⟨a_0, a_1, rfl, w0_0, w1_0⟩
theorem on9 (x : PV) : ofCells Tryd.prog 9 [x] = x := by unfold ofCells; rw [Tryd.underlying9]; rfl
theorem ce9 : Tryd.prog.cellsOf 9 = 1 := by kernel_rfl
theorem by9 : Tryd.prog.bytesOf 9 = 16 := by kernel_rfl
theorem of9 {xs : List PV} (h : Ty Tryd.prog 9 xs) : ∃ (a : ByteArray), xs = [.sc (.string a)] ∧ a.size ≤ 140737488351232 := by
  exact ty_str h Tryd.underlying9
theorem on4 (x : PV) : ofCells Tryd.prog 4 [x] = x := by unfold ofCells; rw [Tryd.underlying4]; rfl
theorem ce4 : Tryd.prog.cellsOf 4 = 1 := by kernel_rfl
theorem by4 : Tryd.prog.bytesOf 4 = 1 := by kernel_rfl
theorem of4 {xs : List PV} (h : Ty Tryd.prog 4 xs) : ∃ (a : Bool), xs = [.sc (.bool a)] := by
  exact ty_bool h Tryd.underlying4
theorem on2 (x : PV) : ofCells Tryd.prog 2 [x] = x := by unfold ofCells; rw [Tryd.underlying2]; rfl
theorem ce2 : Tryd.prog.cellsOf 2 = 1 := by kernel_rfl
theorem by2 : Tryd.prog.bytesOf 2 = 8 := by kernel_rfl
theorem of2 {xs : List PV} (h : Ty Tryd.prog 2 xs) : ∃ (a : Int), xs = [.sc (.int .i64 a)] ∧ (-9223372036854775808 ≤ a ∧ a ≤ 9223372036854775807) := by
  obtain ⟨a, e, w⟩ := ty_i64 h Tryd.underlying2
  exact ⟨a, e, w⟩
theorem ag51 (a : List PV) : ofCells Tryd.prog 51 a = .agg a := by unfold ofCells; rw [Tryd.underlying51]; rfl
theorem ce51 : Tryd.prog.cellsOf 51 = 3 := by kernel_rfl
theorem by51 : Tryd.prog.bytesOf 51 = 32 := by kernel_rfl
theorem of51 {xs : List PV} (h : Ty Tryd.prog 51 xs) : ∃ (a_0 : Int) (a_1 : Int) (a_2 : ByteArray), xs = [.sc (.int .i64 a_0), .sc (.int .i64 a_1), .sc (.string a_2)] ∧ (-9223372036854775808 ≤ a_0 ∧ a_0 ≤ 9223372036854775807) ∧ (-9223372036854775808 ≤ a_1 ∧ a_1 ≤ 9223372036854775807) ∧ a_2.size ≤ 140737488351232 := by
  obtain ⟨hl, hx⟩ := ty_struct h Tryd.underlying51
  rw [ce51] at hl
  obtain ⟨x0, x1, x2, rfl⟩ : ∃ x0 x1 x2, xs = [x0, x1, x2] := by
    match xs, hl with
    | [x0, x1, x2], _ => exact ⟨x0, x1, x2, rfl⟩
  have h0 : Ty Tryd.prog 3 [x0] := by
    have h := hx _ (List.mem_cons_self)
    first | (simp only [ce3] at h; exact h) | exact h
  obtain ⟨a_0, e0, w0_0⟩ := of3 h0
  simp only [List.cons.injEq, and_true] at e0
  subst e0
  have h1 : Ty Tryd.prog 2 [x1] := by
    have h := hx _ (List.mem_cons_of_mem _ (List.mem_cons_self))
    first | (simp only [ce2] at h; exact h) | exact h
  obtain ⟨a_1, e1, w1_0⟩ := of2 h1
  simp only [List.cons.injEq, and_true] at e1
  subst e1
  have h2 : Ty Tryd.prog 9 [x2] := by
    have h := hx _ (List.mem_cons_of_mem _ (List.mem_cons_of_mem _ (List.mem_cons_self)))
    first | (simp only [ce9] at h; exact h) | exact h
  obtain ⟨a_2, e2, w2_0⟩ := of9 h2
  simp only [List.cons.injEq, and_true] at e2
  subst e2
  exact ⟨a_0, a_1, a_2, rfl, w0_0, w1_0, w2_0⟩
theorem ag53 (a : List PV) : ofCells Tryd.prog 53 a = .agg a := by unfold ofCells; rw [Tryd.underlying53]; rfl
theorem ce53 : Tryd.prog.cellsOf 53 = 7 := by kernel_rfl
theorem by53 : Tryd.prog.bytesOf 53 = 72 := by kernel_rfl
theorem of53 {xs : List PV} (h : Ty Tryd.prog 53 xs) : ∃ (a_0_0 : Int) (a_0_1 : Int) (a_1 : ByteArray) (a_2 : Bool) (a_3_0 : Int) (a_3_1 : Int) (a_3_2 : ByteArray), xs = [.sc (.int .i64 a_0_0), .sc (.int .i64 a_0_1), .sc (.string a_1), .sc (.bool a_2), .sc (.int .i64 a_3_0), .sc (.int .i64 a_3_1), .sc (.string a_3_2)] ∧ (-9223372036854775808 ≤ a_0_0 ∧ a_0_0 ≤ 9223372036854775807) ∧ (-9223372036854775808 ≤ a_0_1 ∧ a_0_1 ≤ 9223372036854775807) ∧ a_1.size ≤ 140737488351232 ∧ (-9223372036854775808 ≤ a_3_0 ∧ a_3_0 ≤ 9223372036854775807) ∧ (-9223372036854775808 ≤ a_3_1 ∧ a_3_1 ≤ 9223372036854775807) ∧ a_3_2.size ≤ 140737488351232 := by
  obtain ⟨hl, hx⟩ := ty_struct h Tryd.underlying53
  rw [ce53] at hl
  obtain ⟨x0, x1, x2, x3, x4, x5, x6, rfl⟩ : ∃ x0 x1 x2 x3 x4 x5 x6, xs = [x0, x1, x2, x3, x4, x5, x6] := by
    match xs, hl with
    | [x0, x1, x2, x3, x4, x5, x6], _ => exact ⟨x0, x1, x2, x3, x4, x5, x6, rfl⟩
  have h0 : Ty Tryd.prog 49 [x0, x1] := by
    have h := hx _ (List.mem_cons_self)
    first | (simp only [ce49] at h; exact h) | exact h
  obtain ⟨a_0_0, a_0_1, e0, w0_0, w0_1⟩ := of49 h0
  simp only [List.cons.injEq, and_true] at e0
  obtain ⟨rfl, rfl⟩ := e0
  have h1 : Ty Tryd.prog 9 [x2] := by
    have h := hx _ (List.mem_cons_of_mem _ (List.mem_cons_self))
    first | (simp only [ce9] at h; exact h) | exact h
  obtain ⟨a_1, e1, w1_0⟩ := of9 h1
  simp only [List.cons.injEq, and_true] at e1
  subst e1
  have h2 : Ty Tryd.prog 4 [x3] := by
    have h := hx _ (List.mem_cons_of_mem _ (List.mem_cons_of_mem _ (List.mem_cons_self)))
    first | (simp only [ce4] at h; exact h) | exact h
  obtain ⟨a_2, e2⟩ := of4 h2
  simp only [List.cons.injEq, and_true] at e2
  subst e2
  have h3 : Ty Tryd.prog 51 [x4, x5, x6] := by
    have h := hx _ (List.mem_cons_of_mem _ (List.mem_cons_of_mem _ (List.mem_cons_of_mem _ (List.mem_cons_self))))
    first | (simp only [ce51] at h; exact h) | exact h
  obtain ⟨a_3_0, a_3_1, a_3_2, e3, w3_0, w3_1, w3_2⟩ := of51 h3
  simp only [List.cons.injEq, and_true] at e3
  obtain ⟨rfl, rfl, rfl⟩ := e3
  exact ⟨a_0_0, a_0_1, a_1, a_2, a_3_0, a_3_1, a_3_2, rfl, w0_0, w0_1, w1_0, w3_0, w3_1, w3_2⟩
theorem on37 (x : PV) : ofCells Tryd.prog 37 [x] = x := by unfold ofCells; rw [Tryd.underlying37]; rfl
theorem ce37 : Tryd.prog.cellsOf 37 = 1 := by kernel_rfl
theorem by37 : Tryd.prog.bytesOf 37 = 24 := by kernel_rfl
theorem of37 {xs : List PV} (h : Ty Tryd.prog 37 xs) : ∃ (a : List PV), xs = [frozen 7 a] ∧ (a.length * 72 ≤ 140737488351232 ∧ a.length ≤ 9223372036854775807 ∧ ∀ x, x ∈ a → Ty Tryd.prog 53 x.cells ∧ x = ofCells Tryd.prog 53 x.cells) := by
  obtain ⟨l, e, h1, h2, h3⟩ := ty_slice h Tryd.underlying37
  rw [ce53] at e; rw [by53] at h1
  exact ⟨l, e, h1, h2, h3⟩
theorem ag39 (a : List PV) : ofCells Tryd.prog 39 a = .agg a := by unfold ofCells; rw [Tryd.underlying39]; rfl
theorem ce39 : Tryd.prog.cellsOf 39 = 8 := by kernel_rfl
theorem by39 : Tryd.prog.bytesOf 39 = 64 := by kernel_rfl
theorem of39 {xs : List PV} (h : Ty Tryd.prog 39 xs) : ∃ (a_0 : Int) (a_1 : Int) (a_2 : Int) (a_3 : Int) (a_4 : Int) (a_5 : Int) (a_6 : Int) (a_7 : Int), xs = [.sc (.int .i64 a_0), .sc (.int .i64 a_1), .sc (.int .i64 a_2), .sc (.int .i64 a_3), .sc (.int .i64 a_4), .sc (.int .i64 a_5), .sc (.int .i64 a_6), .sc (.int .i64 a_7)] ∧ (-9223372036854775808 ≤ a_0 ∧ a_0 ≤ 9223372036854775807) ∧ (-9223372036854775808 ≤ a_1 ∧ a_1 ≤ 9223372036854775807) ∧ (-9223372036854775808 ≤ a_2 ∧ a_2 ≤ 9223372036854775807) ∧ (-9223372036854775808 ≤ a_3 ∧ a_3 ≤ 9223372036854775807) ∧ (-9223372036854775808 ≤ a_4 ∧ a_4 ≤ 9223372036854775807) ∧ (-9223372036854775808 ≤ a_5 ∧ a_5 ≤ 9223372036854775807) ∧ (-9223372036854775808 ≤ a_6 ∧ a_6 ≤ 9223372036854775807) ∧ (-9223372036854775808 ≤ a_7 ∧ a_7 ≤ 9223372036854775807) := by
  obtain ⟨hl, hx⟩ := ty_struct h Tryd.underlying39
  rw [ce39] at hl
  obtain ⟨x0, x1, x2, x3, x4, x5, x6, x7, rfl⟩ : ∃ x0 x1 x2 x3 x4 x5 x6 x7, xs = [x0, x1, x2, x3, x4, x5, x6, x7] := by
    match xs, hl with
    | [x0, x1, x2, x3, x4, x5, x6, x7], _ => exact ⟨x0, x1, x2, x3, x4, x5, x6, x7, rfl⟩
  have h0 : Ty Tryd.prog 3 [x0] := by
    have h := hx _ (List.mem_cons_self)
    first | (simp only [ce3] at h; exact h) | exact h
  obtain ⟨a_0, e0, w0_0⟩ := of3 h0
  simp only [List.cons.injEq, and_true] at e0
  subst e0
  have h1 : Ty Tryd.prog 3 [x1] := by
    have h := hx _ (List.mem_cons_of_mem _ (List.mem_cons_self))
    first | (simp only [ce3] at h; exact h) | exact h
  obtain ⟨a_1, e1, w1_0⟩ := of3 h1
  simp only [List.cons.injEq, and_true] at e1
  subst e1
  have h2 : Ty Tryd.prog 3 [x2] := by
    have h := hx _ (List.mem_cons_of_mem _ (List.mem_cons_of_mem _ (List.mem_cons_self)))
    first | (simp only [ce3] at h; exact h) | exact h
  obtain ⟨a_2, e2, w2_0⟩ := of3 h2
  simp only [List.cons.injEq, and_true] at e2
  subst e2
  have h3 : Ty Tryd.prog 3 [x3] := by
    have h := hx _ (List.mem_cons_of_mem _ (List.mem_cons_of_mem _ (List.mem_cons_of_mem _ (List.mem_cons_self))))
    first | (simp only [ce3] at h; exact h) | exact h
  obtain ⟨a_3, e3, w3_0⟩ := of3 h3
  simp only [List.cons.injEq, and_true] at e3
  subst e3
  have h4 : Ty Tryd.prog 3 [x4] := by
    have h := hx _ (List.mem_cons_of_mem _ (List.mem_cons_of_mem _ (List.mem_cons_of_mem _ (List.mem_cons_of_mem _ (List.mem_cons_self)))))
    first | (simp only [ce3] at h; exact h) | exact h
  obtain ⟨a_4, e4, w4_0⟩ := of3 h4
  simp only [List.cons.injEq, and_true] at e4
  subst e4
  have h5 : Ty Tryd.prog 3 [x5] := by
    have h := hx _ (List.mem_cons_of_mem _ (List.mem_cons_of_mem _ (List.mem_cons_of_mem _ (List.mem_cons_of_mem _ (List.mem_cons_of_mem _ (List.mem_cons_self))))))
    first | (simp only [ce3] at h; exact h) | exact h
  obtain ⟨a_5, e5, w5_0⟩ := of3 h5
  simp only [List.cons.injEq, and_true] at e5
  subst e5
  have h6 : Ty Tryd.prog 3 [x6] := by
    have h := hx _ (List.mem_cons_of_mem _ (List.mem_cons_of_mem _ (List.mem_cons_of_mem _ (List.mem_cons_of_mem _ (List.mem_cons_of_mem _ (List.mem_cons_of_mem _ (List.mem_cons_self)))))))
    first | (simp only [ce3] at h; exact h) | exact h
  obtain ⟨a_6, e6, w6_0⟩ := of3 h6
  simp only [List.cons.injEq, and_true] at e6
  subst e6
  have h7 : Ty Tryd.prog 3 [x7] := by
    have h := hx _ (List.mem_cons_of_mem _ (List.mem_cons_of_mem _ (List.mem_cons_of_mem _ (List.mem_cons_of_mem _ (List.mem_cons_of_mem _ (List.mem_cons_of_mem _ (List.mem_cons_of_mem _ (List.mem_cons_self))))))))
    first | (simp only [ce3] at h; exact h) | exact h
  obtain ⟨a_7, e7, w7_0⟩ := of3 h7
  simp only [List.cons.injEq, and_true] at e7
  subst e7
  exact ⟨a_0, a_1, a_2, a_3, a_4, a_5, a_6, a_7, rfl, w0_0, w1_0, w2_0, w3_0, w4_0, w5_0, w6_0, w7_0⟩
end Go.Den.ES
