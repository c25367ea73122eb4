import Derived.Test.YtcfhllbobapaiaaDoorESh
import Derived.KernelRfl
set_option maxRecDepth 100000
set_option linter.unusedVariables false
namespace Go.Den
open Go Go.Proofs
namespace ES
-- oculus/stats.Add
noncomputable def f31.l0a (k : Nat) (t16 t16_1 t16_2 t16_3 t16_4 t16_5 t16_6 t16_7 n_ n__1 n__2 n__3 n__4 n__5 n__6 n__7 : Int) : Option PV := loopAt Tryd.prog 6 ext hint k 31 [1, 1, 1, 0, 1, 0] ⟨[.top, .top, .top, .top, .ptr 0 0, .top, .ptr 1 0, .top, .top, .top, .top, .top, .top, .top, .top, .top, .agg [.sc (.int .i64 t16), .sc (.int .i64 t16_1), .sc (.int .i64 t16_2), .sc (.int .i64 t16_3), .sc (.int .i64 t16_4), .sc (.int .i64 t16_5), .sc (.int .i64 t16_6), .sc (.int .i64 t16_7)], .sc (.int .i64 0), .top, .top, .top, .top, .top, .top, .top, .top, .top, .top, .top, .top, .top, .top, .top, .top, .top, .top, .top, .top, .top, .top, .top, .top, .top, .top, .top], [.cells [.sc (.int .i64 0), .sc (.int .i64 0), .sc (.int .i64 0), .sc (.int .i64 0), .sc (.int .i64 0), .sc (.int .i64 0), .sc (.int .i64 0), .sc (.int .i64 0)], .cells [.sc (.int .i64 n_), .sc (.int .i64 n__1), .sc (.int .i64 n__2), .sc (.int .i64 n__3), .sc (.int .i64 n__4), .sc (.int .i64 n__5), .sc (.int .i64 n__6), .sc (.int .i64 n__7)]]⟩
noncomputable def f31.l0b (k : Nat) (t16 t16_1 t16_2 t16_3 t16_4 t16_5 t16_6 t16_7 n_ n__1 n__2 n__3 n__4 n__5 n__6 n__7 : Int) : Option PV := loopAt Tryd.prog 6 ext hint k 31 [1, 1, 1, 0, 1, 0] ⟨[.top, .top, .top, .top, .ptr 0 0, .top, .ptr 1 0, .top, .top, .top, .top, .top, .top, .top, .top, .top, .agg [.sc (.int .i64 t16), .sc (.int .i64 t16_1), .sc (.int .i64 t16_2), .sc (.int .i64 t16_3), .sc (.int .i64 t16_4), .sc (.int .i64 t16_5), .sc (.int .i64 t16_6), .sc (.int .i64 t16_7)], .sc (.int .i64 1), .top, .top, .top, .top, .top, .top, .top, .top, .top, .top, .top, .top, .top, .top, .top, .top, .top, .top, .top, .top, .top, .top, .top, .top, .top, .top, .top], [.cells [.sc (.int .i64 0), .sc (.int .i64 0), .sc (.int .i64 0), .sc (.int .i64 0), .sc (.int .i64 0), .sc (.int .i64 0), .sc (.int .i64 0), .sc (.int .i64 0)], .cells [.sc (.int .i64 n_), .sc (.int .i64 n__1), .sc (.int .i64 n__2), .sc (.int .i64 n__3), .sc (.int .i64 n__4), .sc (.int .i64 n__5), .sc (.int .i64 n__6), .sc (.int .i64 n__7)]]⟩
noncomputable def f31.l0c (k : Nat) (t16 t16_1 t16_2 t16_3 t16_4 t16_5 t16_6 t16_7 n_ n__1 n__2 n__3 n__4 n__5 n__6 n__7 : Int) : Option PV := loopAt Tryd.prog 6 ext hint k 31 [1, 1, 1, 0, 1, 0] ⟨[.top, .top, .top, .top, .ptr 0 0, .top, .ptr 1 0, .top, .top, .top, .top, .top, .top, .top, .top, .top, .agg [.sc (.int .i64 t16), .sc (.int .i64 t16_1), .sc (.int .i64 t16_2), .sc (.int .i64 t16_3), .sc (.int .i64 t16_4), .sc (.int .i64 t16_5), .sc (.int .i64 t16_6), .sc (.int .i64 t16_7)], .sc (.int .i64 2), .top, .top, .top, .top, .top, .top, .top, .top, .top, .top, .top, .top, .top, .top, .top, .top, .top, .top, .top, .top, .top, .top, .top, .top, .top, .top, .top], [.cells [.sc (.int .i64 0), .sc (.int .i64 0), .sc (.int .i64 0), .sc (.int .i64 0), .sc (.int .i64 0), .sc (.int .i64 0), .sc (.int .i64 0), .sc (.int .i64 0)], .cells [.sc (.int .i64 n_), .sc (.int .i64 n__1), .sc (.int .i64 n__2), .sc (.int .i64 n__3), .sc (.int .i64 n__4), .sc (.int .i64 n__5), .sc (.int .i64 n__6), .sc (.int .i64 n__7)]]⟩
noncomputable def f31.l0d (k : Nat) (t16 t16_1 t16_2 t16_3 t16_4 t16_5 t16_6 t16_7 n_ n__1 n__2 n__3 n__4 n__5 n__6 n__7 : Int) : Option PV := loopAt Tryd.prog 6 ext hint k 31 [1, 1, 1, 0, 1, 0] ⟨[.top, .top, .top, .top, .ptr 0 0, .top, .ptr 1 0, .top, .top, .top, .top, .top, .top, .top, .top, .top, .agg [.sc (.int .i64 t16), .sc (.int .i64 t16_1), .sc (.int .i64 t16_2), .sc (.int .i64 t16_3), .sc (.int .i64 t16_4), .sc (.int .i64 t16_5), .sc (.int .i64 t16_6), .sc (.int .i64 t16_7)], .sc (.int .i64 3), .top, .top, .top, .top, .top, .top, .top, .top, .top, .top, .top, .top, .top, .top, .top, .top, .top, .top, .top, .top, .top, .top, .top, .top, .top, .top, .top], [.cells [.sc (.int .i64 0), .sc (.int .i64 0), .sc (.int .i64 0), .sc (.int .i64 0), .sc (.int .i64 0), .sc (.int .i64 0), .sc (.int .i64 0), .sc (.int .i64 0)], .cells [.sc (.int .i64 n_), .sc (.int .i64 n__1), .sc (.int .i64 n__2), .sc (.int .i64 n__3), .sc (.int .i64 n__4), .sc (.int .i64 n__5), .sc (.int .i64 n__6), .sc (.int .i64 n__7)]]⟩
noncomputable def f31.l0e (k : Nat) (t16 t16_1 t16_2 t16_3 t16_4 t16_5 t16_6 t16_7 n_ n__1 n__2 n__3 n__4 n__5 n__6 n__7 : Int) : Option PV := loopAt Tryd.prog 6 ext hint k 31 [1, 1, 1, 0, 1, 0] ⟨[.top, .top, .top, .top, .ptr 0 0, .top, .ptr 1 0, .top, .top, .top, .top, .top, .top, .top, .top, .top, .agg [.sc (.int .i64 t16), .sc (.int .i64 t16_1), .sc (.int .i64 t16_2), .sc (.int .i64 t16_3), .sc (.int .i64 t16_4), .sc (.int .i64 t16_5), .sc (.int .i64 t16_6), .sc (.int .i64 t16_7)], .sc (.int .i64 4), .top, .top, .top, .top, .top, .top, .top, .top, .top, .top, .top, .top, .top, .top, .top, .top, .top, .top, .top, .top, .top, .top, .top, .top, .top, .top, .top], [.cells [.sc (.int .i64 0), .sc (.int .i64 0), .sc (.int .i64 0), .sc (.int .i64 0), .sc (.int .i64 0), .sc (.int .i64 0), .sc (.int .i64 0), .sc (.int .i64 0)], .cells [.sc (.int .i64 n_), .sc (.int .i64 n__1), .sc (.int .i64 n__2), .sc (.int .i64 n__3), .sc (.int .i64 n__4), .sc (.int .i64 n__5), .sc (.int .i64 n__6), .sc (.int .i64 n__7)]]⟩
noncomputable def f31.l0f (k : Nat) (t16 t16_1 t16_2 t16_3 t16_4 t16_5 t16_6 t16_7 n_ n__1 n__2 n__3 n__4 n__5 n__6 n__7 : Int) : Option PV := loopAt Tryd.prog 6 ext hint k 31 [1, 1, 1, 0, 1, 0] ⟨[.top, .top, .top, .top, .ptr 0 0, .top, .ptr 1 0, .top, .top, .top, .top, .top, .top, .top, .top, .top, .agg [.sc (.int .i64 t16), .sc (.int .i64 t16_1), .sc (.int .i64 t16_2), .sc (.int .i64 t16_3), .sc (.int .i64 t16_4), .sc (.int .i64 t16_5), .sc (.int .i64 t16_6), .sc (.int .i64 t16_7)], .sc (.int .i64 5), .top, .top, .top, .top, .top, .top, .top, .top, .top, .top, .top, .top, .top, .top, .top, .top, .top, .top, .top, .top, .top, .top, .top, .top, .top, .top, .top], [.cells [.sc (.int .i64 0), .sc (.int .i64 0), .sc (.int .i64 0), .sc (.int .i64 0), .sc (.int .i64 0), .sc (.int .i64 0), .sc (.int .i64 0), .sc (.int .i64 0)], .cells [.sc (.int .i64 n_), .sc (.int .i64 n__1), .sc (.int .i64 n__2), .sc (.int .i64 n__3), .sc (.int .i64 n__4), .sc (.int .i64 n__5), .sc (.int .i64 n__6), .sc (.int .i64 n__7)]]⟩
noncomputable def f31.l0g (k : Nat) (t16 t16_1 t16_2 t16_3 t16_4 t16_5 t16_6 t16_7 n_ n__1 n__2 n__3 n__4 n__5 n__6 n__7 : Int) : Option PV := loopAt Tryd.prog 6 ext hint k 31 [1, 1, 1, 0, 1, 0] ⟨[.top, .top, .top, .top, .ptr 0 0, .top, .ptr 1 0, .top, .top, .top, .top, .top, .top, .top, .top, .top, .agg [.sc (.int .i64 t16), .sc (.int .i64 t16_1), .sc (.int .i64 t16_2), .sc (.int .i64 t16_3), .sc (.int .i64 t16_4), .sc (.int .i64 t16_5), .sc (.int .i64 t16_6), .sc (.int .i64 t16_7)], .sc (.int .i64 6), .top, .top, .top, .top, .top, .top, .top, .top, .top, .top, .top, .top, .top, .top, .top, .top, .top, .top, .top, .top, .top, .top, .top, .top, .top, .top, .top], [.cells [.sc (.int .i64 0), .sc (.int .i64 0), .sc (.int .i64 0), .sc (.int .i64 0), .sc (.int .i64 0), .sc (.int .i64 0), .sc (.int .i64 0), .sc (.int .i64 0)], .cells [.sc (.int .i64 n_), .sc (.int .i64 n__1), .sc (.int .i64 n__2), .sc (.int .i64 n__3), .sc (.int .i64 n__4), .sc (.int .i64 n__5), .sc (.int .i64 n__6), .sc (.int .i64 n__7)]]⟩
noncomputable def f31.l0h (k : Nat) (t16 t16_1 t16_2 t16_3 t16_4 t16_5 t16_6 t16_7 n_ n__1 n__2 n__3 n__4 n__5 n__6 n__7 : Int) : Option PV := loopAt Tryd.prog 6 ext hint k 31 [1, 1, 1, 0, 1, 0] ⟨[.top, .top, .top, .top, .ptr 0 0, .top, .ptr 1 0, .top, .top, .top, .top, .top, .top, .top, .top, .top, .agg [.sc (.int .i64 t16), .sc (.int .i64 t16_1), .sc (.int .i64 t16_2), .sc (.int .i64 t16_3), .sc (.int .i64 t16_4), .sc (.int .i64 t16_5), .sc (.int .i64 t16_6), .sc (.int .i64 t16_7)], .sc (.int .i64 7), .top, .top, .top, .top, .top, .top, .top, .top, .top, .top, .top, .top, .top, .top, .top, .top, .top, .top, .top, .top, .top, .top, .top, .top, .top, .top, .top], [.cells [.sc (.int .i64 0), .sc (.int .i64 0), .sc (.int .i64 0), .sc (.int .i64 0), .sc (.int .i64 0), .sc (.int .i64 0), .sc (.int .i64 0), .sc (.int .i64 0)], .cells [.sc (.int .i64 n_), .sc (.int .i64 n__1), .sc (.int .i64 n__2), .sc (.int .i64 n__3), .sc (.int .i64 n__4), .sc (.int .i64 n__5), .sc (.int .i64 n__6), .sc (.int .i64 n__7)]]⟩
noncomputable def f31.l0i (k : Nat) (t16 t16_1 t16_2 t16_3 t16_4 t16_5 t16_6 t16_7 n_ n__1 n__2 n__3 n__4 n__5 n__6 n__7 : Int) : Option PV := loopAt Tryd.prog 6 ext hint k 31 [1, 1, 1, 0, 1, 0] ⟨[.top, .top, .top, .top, .ptr 0 0, .top, .ptr 1 0, .top, .top, .top, .top, .top, .top, .top, .top, .top, .agg [.sc (.int .i64 t16), .sc (.int .i64 t16_1), .sc (.int .i64 t16_2), .sc (.int .i64 t16_3), .sc (.int .i64 t16_4), .sc (.int .i64 t16_5), .sc (.int .i64 t16_6), .sc (.int .i64 t16_7)], .sc (.int .i64 8), .top, .top, .top, .top, .top, .top, .top, .top, .top, .top, .top, .top, .top, .top, .top, .top, .top, .top, .top, .top, .top, .top, .top, .top, .top, .top, .top], [.cells [.sc (.int .i64 0), .sc (.int .i64 0), .sc (.int .i64 0), .sc (.int .i64 0), .sc (.int .i64 0), .sc (.int .i64 0), .sc (.int .i64 0), .sc (.int .i64 0)], .cells [.sc (.int .i64 n_), .sc (.int .i64 n__1), .sc (.int .i64 n__2), .sc (.int .i64 n__3), .sc (.int .i64 n__4), .sc (.int .i64 n__5), .sc (.int .i64 n__6), .sc (.int .i64 n__7)]]⟩
theorem f31_eq (k : Nat) (a a_1 a_2 a_3 a_4 a_5 a_6 a_7 b b_1 b_2 b_3 b_4 b_5 b_6 b_7 : Int) : D 31 [.agg [.sc (.int .i64 a), .sc (.int .i64 a_1), .sc (.int .i64 a_2), .sc (.int .i64 a_3), .sc (.int .i64 a_4), .sc (.int .i64 a_5), .sc (.int .i64 a_6), .sc (.int .i64 a_7)], .agg [.sc (.int .i64 b), .sc (.int .i64 b_1), .sc (.int .i64 b_2), .sc (.int .i64 b_3), .sc (.int .i64 b_4), .sc (.int .i64 b_5), .sc (.int .i64 b_6), .sc (.int .i64 b_7)]] =
  (D 78 [.agg [.sc (.int .i64 a), .sc (.int .i64 a_1), .sc (.int .i64 a_2), .sc (.int .i64 a_3), .sc (.int .i64 a_4), .sc (.int .i64 a_5), .sc (.int .i64 a_6), .sc (.int .i64 a_7)]]).bind fun r1 => if hasSh (.agg [(.int .i64), (.int .i64), (.int .i64), (.int .i64), (.int .i64), (.int .i64), (.int .i64), (.int .i64)]) r1 = true then
  (D 78 [.agg [.sc (.int .i64 b), .sc (.int .i64 b_1), .sc (.int .i64 b_2), .sc (.int .i64 b_3), .sc (.int .i64 b_4), .sc (.int .i64 b_5), .sc (.int .i64 b_6), .sc (.int .i64 b_7)]]).bind fun r2 => if hasSh (.agg [(.int .i64), (.int .i64), (.int .i64), (.int .i64), (.int .i64), (.int .i64), (.int .i64), (.int .i64)]) r2 = true then
  f31.l0a k ((cel 0 r2.cells).toInt) ((cel 1 r2.cells).toInt) ((cel 2 r2.cells).toInt) ((cel 3 r2.cells).toInt) ((cel 4 r2.cells).toInt) ((cel 5 r2.cells).toInt) ((cel 6 r2.cells).toInt) ((cel 7 r2.cells).toInt) ((cel 0 r1.cells).toInt) ((cel 1 r1.cells).toInt) ((cel 2 r1.cells).toInt) ((cel 3 r1.cells).toInt) ((cel 4 r1.cells).toInt) ((cel 5 r1.cells).toInt) ((cel 6 r1.cells).toInt) ((cel 7 r1.cells).toInt)
  else none
  else none :=
  (denI_eq k _ _).trans (by kernel_rfl)
theorem f31.l0a_eq (k : Nat) (t16 t16_1 t16_2 t16_3 t16_4 t16_5 t16_6 t16_7 n_ n__1 n__2 n__3 n__4 n__5 n__6 n__7 : Int) : f31.l0a k t16 t16_1 t16_2 t16_3 t16_4 t16_5 t16_6 t16_7 n_ n__1 n__2 n__3 n__4 n__5 n__6 n__7 =
  f31.l0b k t16 t16_1 t16_2 t16_3 t16_4 t16_5 t16_6 t16_7 (IntKind.i64.wrap (n_ + t16)) n__1 n__2 n__3 n__4 n__5 n__6 n__7 :=
  (loopAt_eq _ _ _ _).trans (by kernel_rfl)
theorem f31.l0b_eq (k : Nat) (t16 t16_1 t16_2 t16_3 t16_4 t16_5 t16_6 t16_7 n_ n__1 n__2 n__3 n__4 n__5 n__6 n__7 : Int) : f31.l0b k t16 t16_1 t16_2 t16_3 t16_4 t16_5 t16_6 t16_7 n_ n__1 n__2 n__3 n__4 n__5 n__6 n__7 =
  f31.l0c k t16 t16_1 t16_2 t16_3 t16_4 t16_5 t16_6 t16_7 n_ (IntKind.i64.wrap (n__1 + t16_1)) n__2 n__3 n__4 n__5 n__6 n__7 :=
  (loopAt_eq _ _ _ _).trans (by kernel_rfl)
theorem f31.l0c_eq (k : Nat) (t16 t16_1 t16_2 t16_3 t16_4 t16_5 t16_6 t16_7 n_ n__1 n__2 n__3 n__4 n__5 n__6 n__7 : Int) : f31.l0c k t16 t16_1 t16_2 t16_3 t16_4 t16_5 t16_6 t16_7 n_ n__1 n__2 n__3 n__4 n__5 n__6 n__7 =
  f31.l0d k t16 t16_1 t16_2 t16_3 t16_4 t16_5 t16_6 t16_7 n_ n__1 (IntKind.i64.wrap (n__2 + t16_2)) n__3 n__4 n__5 n__6 n__7 :=
  (loopAt_eq _ _ _ _).trans (by kernel_rfl)
theorem f31.l0d_eq (k : Nat) (t16 t16_1 t16_2 t16_3 t16_4 t16_5 t16_6 t16_7 n_ n__1 n__2 n__3 n__4 n__5 n__6 n__7 : Int) : f31.l0d k t16 t16_1 t16_2 t16_3 t16_4 t16_5 t16_6 t16_7 n_ n__1 n__2 n__3 n__4 n__5 n__6 n__7 =
  f31.l0e k t16 t16_1 t16_2 t16_3 t16_4 t16_5 t16_6 t16_7 n_ n__1 n__2 (IntKind.i64.wrap (n__3 + t16_3)) n__4 n__5 n__6 n__7 :=
  (loopAt_eq _ _ _ _).trans (by kernel_rfl)
theorem f31.l0e_eq (k : Nat) (t16 t16_1 t16_2 t16_3 t16_4 t16_5 t16_6 t16_7 n_ n__1 n__2 n__3 n__4 n__5 n__6 n__7 : Int) : f31.l0e k t16 t16_1 t16_2 t16_3 t16_4 t16_5 t16_6 t16_7 n_ n__1 n__2 n__3 n__4 n__5 n__6 n__7 =
  f31.l0f k t16 t16_1 t16_2 t16_3 t16_4 t16_5 t16_6 t16_7 n_ n__1 n__2 n__3 (IntKind.i64.wrap (n__4 + t16_4)) n__5 n__6 n__7 :=
  (loopAt_eq _ _ _ _).trans (by kernel_rfl)
theorem f31.l0f_eq (k : Nat) (t16 t16_1 t16_2 t16_3 t16_4 t16_5 t16_6 t16_7 n_ n__1 n__2 n__3 n__4 n__5 n__6 n__7 : Int) : f31.l0f k t16 t16_1 t16_2 t16_3 t16_4 t16_5 t16_6 t16_7 n_ n__1 n__2 n__3 n__4 n__5 n__6 n__7 =
  f31.l0g k t16 t16_1 t16_2 t16_3 t16_4 t16_5 t16_6 t16_7 n_ n__1 n__2 n__3 n__4 (IntKind.i64.wrap (n__5 + t16_5)) n__6 n__7 :=
  (loopAt_eq _ _ _ _).trans (by kernel_rfl)
theorem f31.l0g_eq (k : Nat) (t16 t16_1 t16_2 t16_3 t16_4 t16_5 t16_6 t16_7 n_ n__1 n__2 n__3 n__4 n__5 n__6 n__7 : Int) : f31.l0g k t16 t16_1 t16_2 t16_3 t16_4 t16_5 t16_6 t16_7 n_ n__1 n__2 n__3 n__4 n__5 n__6 n__7 =
  f31.l0h k t16 t16_1 t16_2 t16_3 t16_4 t16_5 t16_6 t16_7 n_ n__1 n__2 n__3 n__4 n__5 (IntKind.i64.wrap (n__6 + t16_6)) n__7 :=
  (loopAt_eq _ _ _ _).trans (by kernel_rfl)
theorem f31.l0h_eq (k : Nat) (t16 t16_1 t16_2 t16_3 t16_4 t16_5 t16_6 t16_7 n_ n__1 n__2 n__3 n__4 n__5 n__6 n__7 : Int) : f31.l0h k t16 t16_1 t16_2 t16_3 t16_4 t16_5 t16_6 t16_7 n_ n__1 n__2 n__3 n__4 n__5 n__6 n__7 =
  f31.l0i k t16 t16_1 t16_2 t16_3 t16_4 t16_5 t16_6 t16_7 n_ n__1 n__2 n__3 n__4 n__5 n__6 (IntKind.i64.wrap (n__7 + t16_7)) :=
  (loopAt_eq _ _ _ _).trans (by kernel_rfl)
theorem f31.l0i_eq (k : Nat) (t16 t16_1 t16_2 t16_3 t16_4 t16_5 t16_6 t16_7 n_ n__1 n__2 n__3 n__4 n__5 n__6 n__7 : Int) : f31.l0i k t16 t16_1 t16_2 t16_3 t16_4 t16_5 t16_6 t16_7 n_ n__1 n__2 n__3 n__4 n__5 n__6 n__7 =
  some (.agg [.sc (.int .i64 n_), .sc (.int .i64 n__1), .sc (.int .i64 n__2), .sc (.int .i64 n__3), .sc (.int .i64 n__4), .sc (.int .i64 n__5), .sc (.int .i64 n__6), .sc (.int .i64 n__7)]) :=
  (loopAt_eq _ _ _ _).trans (by kernel_rfl)
-- oculus/value.Num
theorem f75_eq (k : Nat) (x_ : Int) : D 75 [.sc (.int .i64 x_)] =
  (D 132 [.agg [.sc (.int .i64 1), .sc (.int .i64 x_), .sc (.string (⟨#[]⟩ : ByteArray))], .sc (.int .i64 4)]).bind fun r1 => if hasSh (.agg [(.int .i64), (.int .i64), .str]) r1 = true then
  some (.agg [.sc (.int .i64 ((cel 0 r1.cells).toInt)), .sc (.int .i64 ((cel 1 r1.cells).toInt)), .sc (.string ((cel 2 r1.cells).toStr))])
  else none :=
  (denI_eq k _ _).trans (by kernel_rfl)
-- oculus/value.made
theorem f132_eq (k : Nat) (v_ v__1 : Int) (v__2 : ByteArray) (code : Int) : D 132 [.agg [.sc (.int .i64 v_), .sc (.int .i64 v__1), .sc (.string v__2)], .sc (.int .i64 code)] =
  (D 167 [.agg [.sc (.int .i64 v_), .sc (.int .i64 v__1), .sc (.string v__2)]]).bind fun r1 => if hasSh .bool r1 = true then
  if (!r1.toBool) = true then
    some (.agg [.sc (.int .i64 4), .sc (.int .i64 code), .sc (.string (⟨#[]⟩ : ByteArray))])
  else
    some (.agg [.sc (.int .i64 v_), .sc (.int .i64 v__1), .sc (.string v__2)])
  else none :=
  (denI_eq k _ _).trans (by kernel_rfl)
-- oculus/value.May
theorem f167_eq (k : Nat) (v_ v__1 : Int) (v__2 : ByteArray) : D 167 [.agg [.sc (.int .i64 v_), .sc (.int .i64 v__1), .sc (.string v__2)]] =
  if (v_ == 0) = true then
    Option.bind (α := PV) (
      if (v__1 == 0) = true then
        some (.sc (.bool (v__2.toList == (⟨#[]⟩ : ByteArray).toList)))
      else
        some (.sc (.bool false))) fun r1 =>
    some (.sc (.bool r1.toBool))
  else
    if (v_ == 1) = true then
      (D 62 [.sc (.int .i64 v__1)]).bind fun r2 => if hasSh .bool r2 = true then
      Option.bind (α := PV) (
        if r2.toBool = true then
          some (.sc (.bool (v__2.toList == (⟨#[]⟩ : ByteArray).toList)))
        else
          some (.sc (.bool false))) fun r3 =>
      some (.sc (.bool r3.toBool))
      else none
    else
      if (v_ == 2) = true then
        Option.bind (α := PV) (
          if (v__1 == 0) = true then
            some (.sc (.bool (decide ((v__2.size : Int) ≤ 256))))
          else
            some (.sc (.bool false))) fun r4 =>
        some (.sc (.bool r4.toBool))
      else
        if (v_ == 3) = true then
          Option.bind (α := PV) (
            if (v__1 == 0) = true then
              some (.sc (.bool true))
            else
              some (.sc (.bool (v__1 == 1)))) fun r5 =>
          Option.bind (α := PV) (
            if r5.toBool = true then
              some (.sc (.bool (v__2.toList == (⟨#[]⟩ : ByteArray).toList)))
            else
              some (.sc (.bool false))) fun r6 =>
          some (.sc (.bool r6.toBool))
        else
          if (v_ == 4) = true then
            Option.bind (α := PV) (
              if decide (v__1 ≥ 1) = true then
                some (.sc (.bool (decide (v__1 ≤ 7))))
              else
                some (.sc (.bool false))) fun r7 =>
            Option.bind (α := PV) (
              if r7.toBool = true then
                some (.sc (.bool (v__2.toList == (⟨#[]⟩ : ByteArray).toList)))
              else
                some (.sc (.bool false))) fun r8 =>
            some (.sc (.bool r8.toBool))
          else
            some (.sc (.bool false)) :=
  (denI_eq k _ _).trans (by kernel_rfl)
-- oculus/value.Bad
theorem f76_eq (k : Nat) (code : Int) : D 76 [.sc (.int .i64 code)] =
  (D 132 [.agg [.sc (.int .i64 4), .sc (.int .i64 code), .sc (.string (⟨#[]⟩ : ByteArray))], .sc (.int .i64 2)]).bind fun r1 => if hasSh (.agg [(.int .i64), (.int .i64), .str]) r1 = true then
  some (.agg [.sc (.int .i64 ((cel 0 r1.cells).toInt)), .sc (.int .i64 ((cel 1 r1.cells).toInt)), .sc (.string ((cel 2 r1.cells).toStr))])
  else none :=
  (denI_eq k _ _).trans (by kernel_rfl)
-- oculus/oculuslaw43.same
noncomputable def f26.l0a (k : Nat) (bn : Nat) (bf : Nat → PV) (t12n : Nat) (t12f : Nat → PV) (t13 t14 : Int) : Option PV := loopAt Tryd.prog 6 ext hint k 26 [1, 1, 0, 1, 0] ⟨[.top, .lst 1 bn bf, .top, .top, .top, .top, .top, .top, .top, .top, .top, .top, .lst 1 t12n t12f, .sc (.int .i64 t13), .sc (.int .i64 t14), .top, .top, .top, .top, .top, .top, .top, .top, .top, .top, .top], []⟩
theorem f26_eq (k : Nat) (an : Nat) (af : Nat → PV) (bn : Nat) (bf : Nat → PV) : D 26 [.lst 1 an af, .lst 1 bn bf] =
  if ((an : Int) != (bn : Int)) = true then
    some (.sc (.bool false))
  else
    f26.l0a k bn bf an af (an : Int) 0 :=
  (denI_eq k _ _).trans (by kernel_rfl)
theorem f26.l0a_eq (k : Nat) (bn : Nat) (bf : Nat → PV) (t12n : Nat) (t12f : Nat → PV) (t13 t14 : Int) : f26.l0a k bn bf t12n t12f t13 t14 =
  if decide (t14 < t13) = true then
    if 0 ≤ t14 then
      if t14 < (t12n : Int) then
        if hasSh (.int .i64) (t12f t14.toNat) = true then
          if 0 ≤ t14 then
            if t14 < (bn : Int) then
              if hasSh (.int .i64) (bf t14.toNat) = true then
                if (((t12f t14.toNat).toInt) != ((bf t14.toNat).toInt)) = true then
                  some (.sc (.bool false))
                else
                  f26.l0a k bn bf t12n t12f t13 (IntKind.i64.wrap (t14 + 1))
              else none
            else none
          else none
        else none
      else none
    else none
  else
    some (.sc (.bool true)) :=
  (loopAt_eq _ _ _ _).trans (by kernel_rfl)
-- oculus/oculuslaw43.list
theorem f27_eq (k : Nat) (s_ s__1 s__2 s__3 s__4 s__5 s__6 s__7 : Int) : D 27 [.agg [.sc (.int .i64 s_), .sc (.int .i64 s__1), .sc (.int .i64 s__2), .sc (.int .i64 s__3), .sc (.int .i64 s__4), .sc (.int .i64 s__5), .sc (.int .i64 s__6), .sc (.int .i64 s__7)]] =
  some (frozen 1 ([.sc (.int .i64 s_), .sc (.int .i64 s__1), .sc (.int .i64 s__2), .sc (.int .i64 s__3), .sc (.int .i64 s__4), .sc (.int .i64 s__5), .sc (.int .i64 s__6), .sc (.int .i64 s__7)] : List PV)) :=
  (denI_eq k _ _).trans (by kernel_rfl)
-- oculus/oculusref43.Counts
noncomputable def f28.l0a (k : Nat) (ln : Nat) (lf : Nat → PV) (k_ : Int) (out : List PV) : Option PV := loopAt Tryd.prog 6 ext hint k 28 [1, 1, 0, 1, 0] ⟨[.lst 7 ln lf, .top, .top, .buf 0 0, .sc (.int .i64 k_), .top, .top, .top, .top, .top, .top, .top, .top, .top, .top, .top, .top, .top, .top], [.buf 3 0 out]⟩
theorem f28_eq (k : Nat) (ln : Nat) (lf : Nat → PV) : D 28 [.lst 7 ln lf] =
  f28.l0a k ln lf 1 ([.sc (.int .i64 (ln : Int))] : List PV) :=
  (denI_eq k _ _).trans (by kernel_rfl)
theorem f28.l0a_eq (k : Nat) (ln : Nat) (lf : Nat → PV) (k_ : Int) (out : List PV) : f28.l0a k ln lf k_ out =
  if decide (k_ < 8) = true then
    (D 77 [.lst 7 ln lf, .sc (.int .i64 k_)]).bind fun r1 => if hasSh (.int .i64) r1 = true then
    if (out.length + ([.sc (.int .i64 r1.toInt)] : List PV).length) * 8 ≤ 140737488355328 ∧ out.length + ([.sc (.int .i64 r1.toInt)] : List PV).length ≤ 140737488355328 then
      f28.l0a k ln lf (IntKind.i64.wrap (k_ + 1)) (out ++ ([.sc (.int .i64 r1.toInt)] : List PV))
    else none
    else none
  else
    some (frozen 1 out) :=
  (loopAt_eq _ _ _ _).trans (by kernel_rfl)
-- oculus/oculusref43.Many
noncomputable def f77.l0a (k : Nat) (ln : Nat) (lf : Nat → PV) (k_ n_ i : Int) : Option PV := loopAt Tryd.prog 6 ext hint k 77 [1, 1, 0, 1, 0] ⟨[.lst 7 ln lf, .sc (.int .i64 k_), .top, .top, .top, .sc (.int .i64 n_), .sc (.int .i64 i), .top, .top, .top, .top, .top, .top, .top, .top, .top, .top, .top, .top, .top, .top, .top, .top], []⟩
theorem f77_eq (k : Nat) (ln : Nat) (lf : Nat → PV) (k_ : Int) : D 77 [.lst 7 ln lf, .sc (.int .i64 k_)] =
  f77.l0a k ln lf k_ 0 0 :=
  (denI_eq k _ _).trans (by kernel_rfl)
theorem f77.l0a_eq (k : Nat) (ln : Nat) (lf : Nat → PV) (k_ n_ i : Int) : f77.l0a k ln lf k_ n_ i =
  if decide (i < (ln : Int)) = true then
    if 0 ≤ i then
      if i < (ln : Int) then
        if hasSh (.agg [(.int .i64), (.int .i64), .str, .bool, (.int .i64), (.int .i64), .str]) (lf i.toNat) = true then
          (D 133 [.agg [.sc (.int .i64 ((cel 0 (lf i.toNat).cells).toInt)), .sc (.int .i64 ((cel 1 (lf i.toNat).cells).toInt)), .sc (.string ((cel 2 (lf i.toNat).cells).toStr)), .sc (.bool ((cel 3 (lf i.toNat).cells).toBool)), .sc (.int .i64 ((cel 4 (lf i.toNat).cells).toInt)), .sc (.int .i64 ((cel 5 (lf i.toNat).cells).toInt)), .sc (.string ((cel 6 (lf i.toNat).cells).toStr))]]).bind fun r1 => if hasSh (.int .i64) r1 = true then
          if (r1.toInt == k_) = true then
            f77.l0a k ln lf k_ (IntKind.i64.wrap (n_ + 1)) (IntKind.i64.wrap (i + 1))
          else
            f77.l0a k ln lf k_ n_ (IntKind.i64.wrap (i + 1))
          else none
        else none
      else none
    else none
  else
    some (.sc (.int .i64 n_)) :=
  (loopAt_eq _ _ _ _).trans (by kernel_rfl)
-- oculus/oculusref43.kind
theorem f133_eq (k : Nat) (r r_1 : Int) (r_2 : ByteArray) (r_3 : Bool) (r_4 r_5 : Int) (r_6 : ByteArray) : D 133 [.agg [.sc (.int .i64 r), .sc (.int .i64 r_1), .sc (.string r_2), .sc (.bool r_3), .sc (.int .i64 r_4), .sc (.int .i64 r_5), .sc (.string r_6)]] =
  if r_3 = true then
    some (.sc (.int .i64 1))
  else
    Option.bind (α := PV) (
      if (r_4 == 4) = true then
        some (.sc (.bool (r_5 == 7)))
      else
        some (.sc (.bool false))) fun r1 =>
    if r1.toBool = true then
      some (.sc (.int .i64 7))
    else
      Option.bind (α := PV) (
        if decide (r_4 ≥ 0) = true then
          some (.sc (.bool (decide (r_4 ≤ 4))))
        else
          some (.sc (.bool false))) fun r2 =>
      if r2.toBool = true then
        some (.sc (.int .i64 (IntKind.i64.wrap (r_4 + 2))))
      else
        some (.sc (.int .i64 0)) :=
  (denI_eq k _ _).trans (by kernel_rfl)
-- oculus/oculusref43.Text
noncomputable def f30.l0a (k : Nat) (nn : Nat) (nf : Nat → PV) (out : ByteArray) (i : Int) (names : List PV) : Option PV := loopAt Tryd.prog 6 ext hint k 30 [1, 1, 1, 0, 1, 0] ⟨[.lst 1 nn nf, .top, .top, .buf 0 0, .sc (.string out), .sc (.int .i64 i), .top, .top, .top, .top, .top, .top, .top, .top, .top, .top, .top, .top, .top, .top, .top, .top, .top, .top, .top, .top, .top, .top, .top, .top, .top, .top, .top, .top, .top, .top, .top, .top, .top, .top, .top], [.buf 9 0 names]⟩
noncomputable def f30.j1a (k : Nat) (nn : Nat) (nf : Nat → PV) (out : ByteArray) (i : Int) (names : List PV) : Option PV := gateK k (placeAt Tryd.prog 6 ext hint k 30 [1, 1, 1, 0, 1, 0, 0, 1, 0, 0, 1, 1]) ⟨[.lst 1 nn nf, .top, .top, .buf 0 0, .sc (.string out), .sc (.int .i64 i), .top, .top, .top, .top, .top, .top, .top, .top, .top, .top, .top, .top, .top, .top, .top, .top, .top, .top, .top, .top, .top, .top, .top, .top, .top, .top, .top, .top, .top, .top, .top, .top, .top, .top, .top], [.buf 9 0 names]⟩
theorem f30_eq (k : Nat) (nn : Nat) (nf : Nat → PV) : D 30 [.lst 1 nn nf] =
  f30.l0a k nn nf (⟨#[]⟩ : ByteArray) 0 ([.sc (.string (⟨#[99, 101, 108, 108, 115]⟩ : ByteArray)), .sc (.string (⟨#[104, 105, 100, 100, 101, 110]⟩ : ByteArray)), .sc (.string (⟨#[98, 108, 97, 110, 107, 115]⟩ : ByteArray)), .sc (.string (⟨#[110, 117, 109, 98, 101, 114, 115]⟩ : ByteArray)), .sc (.string (⟨#[116, 101, 120, 116, 115]⟩ : ByteArray)), .sc (.string (⟨#[116, 114, 117, 116, 104, 115]⟩ : ByteArray)), .sc (.string (⟨#[102, 97, 117, 108, 116, 115]⟩ : ByteArray)), .sc (.string (⟨#[99, 121, 99, 108, 101, 115]⟩ : ByteArray))] : List PV) :=
  (denI_eq k _ _).trans (by kernel_rfl)
theorem f30.l0a_eq (k : Nat) (nn : Nat) (nf : Nat → PV) (out : ByteArray) (i : Int) (names : List PV) : f30.l0a k nn nf out i names =
  if decide (i < 8) = true then
    if 0 ≤ i then
      if i < (nn : Int) then
        if hasSh (.int .i64) (nf i.toNat) = true then
          Option.bind (α := PV) (
            if decide (((nf i.toNat).toInt) < 0) = true then
              some (.sc (.bool true))
            else
              Option.bind (α := PV) (
                Option.bind (α := PV) (
                  if 0 ≤ i then
                    if i < (nn : Int) then
                      if hasSh (.int .i64) (nf i.toNat) = true then
                        some (.sc (.bool (decide (((nf i.toNat).toInt) > 1000000000))))
                      else none
                    else none
                  else none) fun r1 =>
                some (.sc (.bool r1.toBool))) fun r2 =>
              some (.sc (.bool r2.toBool))) fun r3 =>
          if r3.toBool = true then
            some (.sc (.string (⟨#[]⟩ : ByteArray)))
          else
            if decide (i > 0) = true then
              if out.size + 1 ≤ 9223372036854775807 then
                f30.j1a k nn nf (out ++ (⟨#[32]⟩ : ByteArray)) i names
              else none
            else
              f30.j1a k nn nf out i names
        else none
      else none
    else none
  else
    some (.sc (.string out)) :=
  (loopAt_eq _ _ _ _).trans (by kernel_rfl)
theorem f30.j1a_eq (k : Nat) (nn : Nat) (nf : Nat → PV) (out : ByteArray) (i : Int) (names : List PV) : f30.j1a k nn nf out i names =
  if 0 ≤ i then
    if i < (names.length : Int) then
      if hasSh .str (names.getD i.toNat .top) = true then
        if out.size + ((names.getD i.toNat .top).toStr).size ≤ 9223372036854775807 then
          if (out ++ ((names.getD i.toNat .top).toStr)).size + 1 ≤ 9223372036854775807 then
            if 0 ≤ i then
              if i < (nn : Int) then
                if hasSh (.int .i64) (nf i.toNat) = true then
                  (D 81 [.sc (.int .i64 ((nf i.toNat).toInt))]).bind fun r4 => if hasSh .str r4 = true then
                  if ((out ++ ((names.getD i.toNat .top).toStr)) ++ (⟨#[32]⟩ : ByteArray)).size + r4.toStr.size ≤ 9223372036854775807 then
                    f30.l0a k nn nf (((out ++ ((names.getD i.toNat .top).toStr)) ++ (⟨#[32]⟩ : ByteArray)) ++ r4.toStr) (IntKind.i64.wrap (i + 1)) names
                  else none
                  else none
                else none
              else none
            else none
          else none
        else none
      else none
    else none
  else none :=
  (gateK_open _ _ _).trans (by kernel_rfl)
-- oculus/oculusref01.Digits
noncomputable def f81.l0a (k : Nat) (n_ : Int) (s_ : ByteArray) : Option PV := loopAt Tryd.prog 6 ext hint k 81 [1, 1, 0, 1, 0] ⟨[.sc (.int .i64 n_), .top, .top, .sc (.string s_), .top, .top, .top, .top, .top, .top, .top, .top, .top, .top, .top, .top, .top, .top, .top, .top, .top, .top, .top, .top, .top], []⟩
theorem f81_eq (k : Nat) (n_ : Int) : D 81 [.sc (.int .i64 n_)] =
  if ([.sc (.int .u8 (IntKind.u8.wrap (IntKind.i64.wrap ((48 : Int) + (n_.tmod 10)))))] : List PV).all (hasSh (.int .u8)) = true then
    f81.l0a k (IntKind.i64.wrap (n_.tdiv 10)) (bytesOf ([.sc (.int .u8 (IntKind.u8.wrap (IntKind.i64.wrap ((48 : Int) + (n_.tmod 10)))))] : List PV))
  else none :=
  (denI_eq k _ _).trans (by kernel_rfl)
theorem f81.l0a_eq (k : Nat) (n_ : Int) (s_ : ByteArray) : f81.l0a k n_ s_ =
  if decide (n_ > 0) = true then
    if ([.sc (.int .u8 (IntKind.u8.wrap (IntKind.i64.wrap ((48 : Int) + (n_.tmod 10)))))] : List PV).all (hasSh (.int .u8)) = true then
      if (bytesOf ([.sc (.int .u8 (IntKind.u8.wrap (IntKind.i64.wrap ((48 : Int) + (n_.tmod 10)))))] : List PV)).size + s_.size ≤ 9223372036854775807 then
        f81.l0a k (IntKind.i64.wrap (n_.tdiv 10)) ((bytesOf ([.sc (.int .u8 (IntKind.u8.wrap (IntKind.i64.wrap ((48 : Int) + (n_.tmod 10)))))] : List PV)) ++ s_)
      else none
    else none
  else
    some (.sc (.string s_)) :=
  (loopAt_eq _ _ _ _).trans (by kernel_rfl)
end ES
end Go.Den
