import Derived.Test.YtbkdoeghgdbjlaaGreatDoorEBh
import Derived.KernelRfl
set_option maxRecDepth 100000
set_option linter.unusedVariables false
namespace Go.Den
open Go Go.Proofs
namespace EB
-- oculus/meter.Parse
noncomputable def f87.l0a (k : Nat) (t : ByteArray) (ln : Nat) (lf : Nat → PV) : Option PV := loopAt Tryz.prog cf ext hint k 87 [1, 1, 1, 1, 0, 1, 0] ⟨[.sc (.string t), .top, .ptr 0 0, .top, .ptr 1 0, .lst 1 ln lf, .top, .top, .top, .top, .top, .top, .top, .top, .top, .top, .sc (.int .i64 0), .top, .top, .top, .top, .top, .top, .top, .top, .top, .top, .top, .top, .top, .top, .top, .top, .top, .top, .top, .top, .top, .top, .top, .top, .top, .top, .top, .top, .top, .top, .top, .top, .top, .top, .top, .top, .top], [.cells 56 [.sc (.int .i64 0), .sc (.int .i64 0), .sc (.int .i64 0), .sc (.int .i64 0), .sc (.int .i64 0)], .cells 149 [.sc (.int .i64 0), .sc (.int .i64 0), .sc (.int .i64 0), .sc (.int .i64 0), .sc (.int .i64 0)]], none⟩
noncomputable def f87.l0b (k : Nat) (t : ByteArray) (ln : Nat) (lf : Nat → PV) (n_ : Int) : Option PV := loopAt Tryz.prog cf ext hint k 87 [1, 1, 1, 1, 0, 1, 0] ⟨[.sc (.string t), .top, .ptr 0 0, .top, .ptr 1 0, .lst 1 ln lf, .top, .top, .top, .top, .top, .top, .top, .top, .top, .top, .sc (.int .i64 1), .top, .top, .top, .top, .top, .top, .top, .top, .top, .top, .top, .top, .top, .top, .top, .top, .top, .top, .top, .top, .top, .top, .top, .top, .top, .top, .top, .top, .top, .top, .top, .top, .top, .top, .top, .top, .top], [.cells 56 [.sc (.int .i64 0), .sc (.int .i64 0), .sc (.int .i64 0), .sc (.int .i64 0), .sc (.int .i64 0)], .cells 149 [.sc (.int .i64 n_), .sc (.int .i64 0), .sc (.int .i64 0), .sc (.int .i64 0), .sc (.int .i64 0)]], none⟩
noncomputable def f87.l0c (k : Nat) (t : ByteArray) (ln : Nat) (lf : Nat → PV) (n_ n__1 : Int) : Option PV := loopAt Tryz.prog cf ext hint k 87 [1, 1, 1, 1, 0, 1, 0] ⟨[.sc (.string t), .top, .ptr 0 0, .top, .ptr 1 0, .lst 1 ln lf, .top, .top, .top, .top, .top, .top, .top, .top, .top, .top, .sc (.int .i64 2), .top, .top, .top, .top, .top, .top, .top, .top, .top, .top, .top, .top, .top, .top, .top, .top, .top, .top, .top, .top, .top, .top, .top, .top, .top, .top, .top, .top, .top, .top, .top, .top, .top, .top, .top, .top, .top], [.cells 56 [.sc (.int .i64 0), .sc (.int .i64 0), .sc (.int .i64 0), .sc (.int .i64 0), .sc (.int .i64 0)], .cells 149 [.sc (.int .i64 n_), .sc (.int .i64 n__1), .sc (.int .i64 0), .sc (.int .i64 0), .sc (.int .i64 0)]], none⟩
noncomputable def f87.l0d (k : Nat) (t : ByteArray) (ln : Nat) (lf : Nat → PV) (n_ n__1 n__2 : Int) : Option PV := loopAt Tryz.prog cf ext hint k 87 [1, 1, 1, 1, 0, 1, 0] ⟨[.sc (.string t), .top, .ptr 0 0, .top, .ptr 1 0, .lst 1 ln lf, .top, .top, .top, .top, .top, .top, .top, .top, .top, .top, .sc (.int .i64 3), .top, .top, .top, .top, .top, .top, .top, .top, .top, .top, .top, .top, .top, .top, .top, .top, .top, .top, .top, .top, .top, .top, .top, .top, .top, .top, .top, .top, .top, .top, .top, .top, .top, .top, .top, .top, .top], [.cells 56 [.sc (.int .i64 0), .sc (.int .i64 0), .sc (.int .i64 0), .sc (.int .i64 0), .sc (.int .i64 0)], .cells 149 [.sc (.int .i64 n_), .sc (.int .i64 n__1), .sc (.int .i64 n__2), .sc (.int .i64 0), .sc (.int .i64 0)]], none⟩
noncomputable def f87.l0e (k : Nat) (t : ByteArray) (ln : Nat) (lf : Nat → PV) (n_ n__1 n__2 n__3 : Int) : Option PV := loopAt Tryz.prog cf ext hint k 87 [1, 1, 1, 1, 0, 1, 0] ⟨[.sc (.string t), .top, .ptr 0 0, .top, .ptr 1 0, .lst 1 ln lf, .top, .top, .top, .top, .top, .top, .top, .top, .top, .top, .sc (.int .i64 4), .top, .top, .top, .top, .top, .top, .top, .top, .top, .top, .top, .top, .top, .top, .top, .top, .top, .top, .top, .top, .top, .top, .top, .top, .top, .top, .top, .top, .top, .top, .top, .top, .top, .top, .top, .top, .top], [.cells 56 [.sc (.int .i64 0), .sc (.int .i64 0), .sc (.int .i64 0), .sc (.int .i64 0), .sc (.int .i64 0)], .cells 149 [.sc (.int .i64 n_), .sc (.int .i64 n__1), .sc (.int .i64 n__2), .sc (.int .i64 n__3), .sc (.int .i64 0)]], none⟩
noncomputable def f87.l0f (k : Nat) (t : ByteArray) (ln : Nat) (lf : Nat → PV) (n_ n__1 n__2 n__3 n__4 : Int) : Option PV := loopAt Tryz.prog cf ext hint k 87 [1, 1, 1, 1, 0, 1, 0] ⟨[.sc (.string t), .top, .ptr 0 0, .top, .ptr 1 0, .lst 1 ln lf, .top, .top, .top, .top, .top, .top, .top, .top, .top, .top, .sc (.int .i64 5), .top, .top, .top, .top, .top, .top, .top, .top, .top, .top, .top, .top, .top, .top, .top, .top, .top, .top, .top, .top, .top, .top, .top, .top, .top, .top, .top, .top, .top, .top, .top, .top, .top, .top, .top, .top, .top], [.cells 56 [.sc (.int .i64 0), .sc (.int .i64 0), .sc (.int .i64 0), .sc (.int .i64 0), .sc (.int .i64 0)], .cells 149 [.sc (.int .i64 n_), .sc (.int .i64 n__1), .sc (.int .i64 n__2), .sc (.int .i64 n__3), .sc (.int .i64 n__4)]], none⟩
theorem f87_eq (k : Nat) (t : ByteArray) : D 87 [.sc (.string t)] =
  (D 123 [.sc (.string t), .sc (.string (⟨#[32]⟩ : ByteArray))]).bind fun r1 => if hasSh (.lst 1) r1 = true then
  if ((r1.len : Int) != 10) = true then
    some (.tup [.agg [.sc (.int .i64 0), .sc (.int .i64 0), .sc (.int .i64 0), .sc (.int .i64 0), .sc (.int .i64 0)], .sc (.bool false)])
  else
    f87.l0a k t r1.len r1.at
  else none :=
  (denI_eq k _ _).trans (by kernel_rfl)
theorem f87.l0a_eq (k : Nat) (t : ByteArray) (ln : Nat) (lf : Nat → PV) : f87.l0a k t ln lf =
  if 1 < (ln : Int) then
    if hasSh .str (lf 1) = true then
      (D 85 [.sc (.string ((lf 1).toStr))]).bind fun r2 => if hasSh (.tup [(.int .i64), .bool]) r2 = true then
      Option.bind (α := PV) (
        if (!((cel 1 r2.parts).toBool)) = true then
          some (.sc (.bool true))
        else
          some (.sc (.bool (decide (((cel 0 r2.parts).toInt) < 0))))) fun r3 =>
      Option.bind (α := PV) (
        if r3.toBool = true then
          some (.sc (.bool true))
        else
          some (.sc (.bool ((((cel 0 r2.parts).toInt).tmod 10000) != 0)))) fun r4 =>
      if r4.toBool = true then
        some (.tup [.agg [.sc (.int .i64 0), .sc (.int .i64 0), .sc (.int .i64 0), .sc (.int .i64 0), .sc (.int .i64 0)], .sc (.bool false)])
      else
        f87.l0b k t ln lf (IntKind.i64.wrap (((cel 0 r2.parts).toInt).tdiv 10000))
      else none
    else none
  else none :=
  (loopAt_eq _ _ _ _).trans (by kernel_rfl)
theorem f87.l0b_eq (k : Nat) (t : ByteArray) (ln : Nat) (lf : Nat → PV) (n_ : Int) : f87.l0b k t ln lf n_ =
  if 3 < (ln : Int) then
    if hasSh .str (lf 3) = true then
      (D 85 [.sc (.string ((lf 3).toStr))]).bind fun r5 => if hasSh (.tup [(.int .i64), .bool]) r5 = true then
      Option.bind (α := PV) (
        if (!((cel 1 r5.parts).toBool)) = true then
          some (.sc (.bool true))
        else
          some (.sc (.bool (decide (((cel 0 r5.parts).toInt) < 0))))) fun r6 =>
      Option.bind (α := PV) (
        if r6.toBool = true then
          some (.sc (.bool true))
        else
          some (.sc (.bool ((((cel 0 r5.parts).toInt).tmod 10000) != 0)))) fun r7 =>
      if r7.toBool = true then
        some (.tup [.agg [.sc (.int .i64 0), .sc (.int .i64 0), .sc (.int .i64 0), .sc (.int .i64 0), .sc (.int .i64 0)], .sc (.bool false)])
      else
        f87.l0c k t ln lf n_ (IntKind.i64.wrap (((cel 0 r5.parts).toInt).tdiv 10000))
      else none
    else none
  else none :=
  (loopAt_eq _ _ _ _).trans (by kernel_rfl)
theorem f87.l0c_eq (k : Nat) (t : ByteArray) (ln : Nat) (lf : Nat → PV) (n_ n__1 : Int) : f87.l0c k t ln lf n_ n__1 =
  if 5 < (ln : Int) then
    if hasSh .str (lf 5) = true then
      (D 85 [.sc (.string ((lf 5).toStr))]).bind fun r8 => if hasSh (.tup [(.int .i64), .bool]) r8 = true then
      Option.bind (α := PV) (
        if (!((cel 1 r8.parts).toBool)) = true then
          some (.sc (.bool true))
        else
          some (.sc (.bool (decide (((cel 0 r8.parts).toInt) < 0))))) fun r9 =>
      Option.bind (α := PV) (
        if r9.toBool = true then
          some (.sc (.bool true))
        else
          some (.sc (.bool ((((cel 0 r8.parts).toInt).tmod 10000) != 0)))) fun r10 =>
      if r10.toBool = true then
        some (.tup [.agg [.sc (.int .i64 0), .sc (.int .i64 0), .sc (.int .i64 0), .sc (.int .i64 0), .sc (.int .i64 0)], .sc (.bool false)])
      else
        f87.l0d k t ln lf n_ n__1 (IntKind.i64.wrap (((cel 0 r8.parts).toInt).tdiv 10000))
      else none
    else none
  else none :=
  (loopAt_eq _ _ _ _).trans (by kernel_rfl)
theorem f87.l0d_eq (k : Nat) (t : ByteArray) (ln : Nat) (lf : Nat → PV) (n_ n__1 n__2 : Int) : f87.l0d k t ln lf n_ n__1 n__2 =
  if 7 < (ln : Int) then
    if hasSh .str (lf 7) = true then
      (D 85 [.sc (.string ((lf 7).toStr))]).bind fun r11 => if hasSh (.tup [(.int .i64), .bool]) r11 = true then
      Option.bind (α := PV) (
        if (!((cel 1 r11.parts).toBool)) = true then
          some (.sc (.bool true))
        else
          some (.sc (.bool (decide (((cel 0 r11.parts).toInt) < 0))))) fun r12 =>
      Option.bind (α := PV) (
        if r12.toBool = true then
          some (.sc (.bool true))
        else
          some (.sc (.bool ((((cel 0 r11.parts).toInt).tmod 10000) != 0)))) fun r13 =>
      if r13.toBool = true then
        some (.tup [.agg [.sc (.int .i64 0), .sc (.int .i64 0), .sc (.int .i64 0), .sc (.int .i64 0), .sc (.int .i64 0)], .sc (.bool false)])
      else
        f87.l0e k t ln lf n_ n__1 n__2 (IntKind.i64.wrap (((cel 0 r11.parts).toInt).tdiv 10000))
      else none
    else none
  else none :=
  (loopAt_eq _ _ _ _).trans (by kernel_rfl)
theorem f87.l0e_eq (k : Nat) (t : ByteArray) (ln : Nat) (lf : Nat → PV) (n_ n__1 n__2 n__3 : Int) : f87.l0e k t ln lf n_ n__1 n__2 n__3 =
  if 9 < (ln : Int) then
    if hasSh .str (lf 9) = true then
      (D 85 [.sc (.string ((lf 9).toStr))]).bind fun r14 => if hasSh (.tup [(.int .i64), .bool]) r14 = true then
      Option.bind (α := PV) (
        if (!((cel 1 r14.parts).toBool)) = true then
          some (.sc (.bool true))
        else
          some (.sc (.bool (decide (((cel 0 r14.parts).toInt) < 0))))) fun r15 =>
      Option.bind (α := PV) (
        if r15.toBool = true then
          some (.sc (.bool true))
        else
          some (.sc (.bool ((((cel 0 r14.parts).toInt).tmod 10000) != 0)))) fun r16 =>
      if r16.toBool = true then
        some (.tup [.agg [.sc (.int .i64 0), .sc (.int .i64 0), .sc (.int .i64 0), .sc (.int .i64 0), .sc (.int .i64 0)], .sc (.bool false)])
      else
        f87.l0f k t ln lf n_ n__1 n__2 n__3 (IntKind.i64.wrap (((cel 0 r14.parts).toInt).tdiv 10000))
      else none
    else none
  else none :=
  (loopAt_eq _ _ _ _).trans (by kernel_rfl)
theorem f87.l0f_eq (k : Nat) (t : ByteArray) (ln : Nat) (lf : Nat → PV) (n_ n__1 n__2 n__3 n__4 : Int) : f87.l0f k t ln lf n_ n__1 n__2 n__3 n__4 =
  (D 124 [.agg [.sc (.int .i64 n_), .sc (.int .i64 n__1), .sc (.int .i64 n__2), .sc (.int .i64 n__3), .sc (.int .i64 n__4)]]).bind fun r17 => if hasSh (.agg [(.int .i64), (.int .i64), (.int .i64), (.int .i64), (.int .i64)]) r17 = true then
  (D 88 [.agg [.sc (.int .i64 ((cel 0 r17.cells).toInt)), .sc (.int .i64 ((cel 1 r17.cells).toInt)), .sc (.int .i64 ((cel 2 r17.cells).toInt)), .sc (.int .i64 ((cel 3 r17.cells).toInt)), .sc (.int .i64 ((cel 4 r17.cells).toInt))]]).bind fun r18 => if hasSh .str r18 = true then
  if (!(r18.toStr.toList == t.toList)) = true then
    some (.tup [.agg [.sc (.int .i64 0), .sc (.int .i64 0), .sc (.int .i64 0), .sc (.int .i64 0), .sc (.int .i64 0)], .sc (.bool false)])
  else
    some (.tup [.agg [.sc (.int .i64 ((cel 0 r17.cells).toInt)), .sc (.int .i64 ((cel 1 r17.cells).toInt)), .sc (.int .i64 ((cel 2 r17.cells).toInt)), .sc (.int .i64 ((cel 3 r17.cells).toInt)), .sc (.int .i64 ((cel 4 r17.cells).toInt))], .sc (.bool true)])
  else none
  else none :=
  (loopAt_eq _ _ _ _).trans (by kernel_rfl)
-- oculus/meter.Text
noncomputable def f88.l0a (k : Nat) (t9n : Nat) (t9f : Nat → PV) (t10 n_ n__1 n__2 n__3 n__4 : Int) : Option PV := loopAt Tryz.prog cf ext hint k 88 [1, 1, 1, 0, 1, 0] ⟨[.top, .top, .top, .nils, .ptr 0 0, .top, .top, .top, .top, .lst 1 t9n t9f, .sc (.int .i64 t10), .sc (.int .i64 0), .top, .top, .top, .top, .top, .top, .top, .top, .top, .top, .top, .top, .top, .top, .top, .top, .top, .top, .top, .top, .top, .top, .top, .top, .top, .top], [.cells 149 [.sc (.int .i64 n_), .sc (.int .i64 n__1), .sc (.int .i64 n__2), .sc (.int .i64 n__3), .sc (.int .i64 n__4)]], none⟩
noncomputable def f88.l0b (k : Nat) (t9n : Nat) (t9f : Nat → PV) (t10 : Int) (out : List PV) (n_ n__1 n__2 n__3 n__4 : Int) : Option PV := loopAt Tryz.prog cf ext hint k 88 [1, 1, 1, 0, 1, 0] ⟨[.top, .top, .top, .buf 0 0, .ptr 1 0, .top, .top, .top, .top, .lst 1 t9n t9f, .sc (.int .i64 t10), .sc (.int .i64 1), .top, .top, .top, .top, .top, .top, .top, .top, .top, .top, .top, .top, .top, .top, .top, .top, .top, .top, .top, .top, .top, .top, .top, .top, .top, .top], [.buf 9 0 out, .cells 149 [.sc (.int .i64 n_), .sc (.int .i64 n__1), .sc (.int .i64 n__2), .sc (.int .i64 n__3), .sc (.int .i64 n__4)]], none⟩
noncomputable def f88.l0c (k : Nat) (t9n : Nat) (t9f : Nat → PV) (t10 : Int) (out : List PV) (n_ n__1 n__2 n__3 n__4 : Int) : Option PV := loopAt Tryz.prog cf ext hint k 88 [1, 1, 1, 0, 1, 0] ⟨[.top, .top, .top, .buf 0 0, .ptr 1 0, .top, .top, .top, .top, .lst 1 t9n t9f, .sc (.int .i64 t10), .sc (.int .i64 2), .top, .top, .top, .top, .top, .top, .top, .top, .top, .top, .top, .top, .top, .top, .top, .top, .top, .top, .top, .top, .top, .top, .top, .top, .top, .top], [.buf 9 0 out, .cells 149 [.sc (.int .i64 n_), .sc (.int .i64 n__1), .sc (.int .i64 n__2), .sc (.int .i64 n__3), .sc (.int .i64 n__4)]], none⟩
noncomputable def f88.l0d (k : Nat) (t9n : Nat) (t9f : Nat → PV) (t10 : Int) (out : List PV) (n_ n__1 n__2 n__3 n__4 : Int) : Option PV := loopAt Tryz.prog cf ext hint k 88 [1, 1, 1, 0, 1, 0] ⟨[.top, .top, .top, .buf 0 0, .ptr 1 0, .top, .top, .top, .top, .lst 1 t9n t9f, .sc (.int .i64 t10), .sc (.int .i64 3), .top, .top, .top, .top, .top, .top, .top, .top, .top, .top, .top, .top, .top, .top, .top, .top, .top, .top, .top, .top, .top, .top, .top, .top, .top, .top], [.buf 9 0 out, .cells 149 [.sc (.int .i64 n_), .sc (.int .i64 n__1), .sc (.int .i64 n__2), .sc (.int .i64 n__3), .sc (.int .i64 n__4)]], none⟩
noncomputable def f88.l0e (k : Nat) (t9n : Nat) (t9f : Nat → PV) (t10 : Int) (out : List PV) (n_ n__1 n__2 n__3 n__4 : Int) : Option PV := loopAt Tryz.prog cf ext hint k 88 [1, 1, 1, 0, 1, 0] ⟨[.top, .top, .top, .buf 0 0, .ptr 1 0, .top, .top, .top, .top, .lst 1 t9n t9f, .sc (.int .i64 t10), .sc (.int .i64 4), .top, .top, .top, .top, .top, .top, .top, .top, .top, .top, .top, .top, .top, .top, .top, .top, .top, .top, .top, .top, .top, .top, .top, .top, .top, .top], [.buf 9 0 out, .cells 149 [.sc (.int .i64 n_), .sc (.int .i64 n__1), .sc (.int .i64 n__2), .sc (.int .i64 n__3), .sc (.int .i64 n__4)]], none⟩
noncomputable def f88.l0f (k : Nat) (t9n : Nat) (t9f : Nat → PV) (t10 : Int) (out : List PV) (n_ n__1 n__2 n__3 n__4 : Int) : Option PV := loopAt Tryz.prog cf ext hint k 88 [1, 1, 1, 0, 1, 0] ⟨[.top, .top, .top, .buf 0 0, .ptr 1 0, .top, .top, .top, .top, .lst 1 t9n t9f, .sc (.int .i64 t10), .sc (.int .i64 5), .top, .top, .top, .top, .top, .top, .top, .top, .top, .top, .top, .top, .top, .top, .top, .top, .top, .top, .top, .top, .top, .top, .top, .top, .top, .top], [.buf 9 0 out, .cells 149 [.sc (.int .i64 n_), .sc (.int .i64 n__1), .sc (.int .i64 n__2), .sc (.int .i64 n__3), .sc (.int .i64 n__4)]], none⟩
theorem f88_eq (k : Nat) (c c_1 c_2 c_3 c_4 : Int) : D 88 [.agg [.sc (.int .i64 c), .sc (.int .i64 c_1), .sc (.int .i64 c_2), .sc (.int .i64 c_3), .sc (.int .i64 c_4)]] =
  (D 125 [.agg [.sc (.int .i64 c), .sc (.int .i64 c_1), .sc (.int .i64 c_2), .sc (.int .i64 c_3), .sc (.int .i64 c_4)]]).bind fun r1 => if hasSh (.agg [(.int .i64), (.int .i64), (.int .i64), (.int .i64), (.int .i64)]) r1 = true then
  (D 120 [.sc (.string (⟨#[101, 118, 97, 108, 115, 32, 114, 101, 97, 100, 115, 32, 99, 104, 97, 115, 101, 115, 32, 101, 100, 103, 101, 115, 32, 118, 105, 115, 105, 116, 115]⟩ : ByteArray))]).bind fun r2 => if hasSh (.lst 1) r2 = true then
  f88.l0a k r2.len r2.at (r2.len : Int) ((cel 0 r1.cells).toInt) ((cel 1 r1.cells).toInt) ((cel 2 r1.cells).toInt) ((cel 3 r1.cells).toInt) ((cel 4 r1.cells).toInt)
  else none
  else none :=
  (denI_eq k _ _).trans (by kernel_rfl)
theorem f88.l0a_eq (k : Nat) (t9n : Nat) (t9f : Nat → PV) (t10 n_ n__1 n__2 n__3 n__4 : Int) : f88.l0a k t9n t9f t10 n_ n__1 n__2 n__3 n__4 =
  if decide ((0 : Int) < t10) = true then
    if 0 < (t9n : Int) then
      if hasSh .str (t9f 0) = true then
        Option.bind (α := PV) (
          if decide (n_ < 0) = true then
            some (.sc (.bool true))
          else
            some (.sc (.bool (decide (n_ > 1000000000))))) fun r3 =>
        if r3.toBool = true then
          some (.sc (.string (⟨#[]⟩ : ByteArray)))
        else
          (D 64 [.sc (.int .i64 (IntKind.i64.wrap (n_ * 10000)))]).bind fun r4 => if hasSh .str r4 = true then
          if ([.sc (.string ((t9f 0).toStr)), .sc (.string r4.toStr)] : List PV).length * 16 ≤ 140737488355328 ∧ ([.sc (.string ((t9f 0).toStr)), .sc (.string r4.toStr)] : List PV).length ≤ 140737488355328 then
            f88.l0b k t9n t9f t10 ([.sc (.string ((t9f 0).toStr)), .sc (.string r4.toStr)] : List PV) n_ n__1 n__2 n__3 n__4
          else none
          else none
      else none
    else none
  else
    (D 79 [.lst 1 0 (fun _ => .top), .sc (.string (⟨#[32]⟩ : ByteArray))]).bind fun r5 => if hasSh .str r5 = true then
    some (.sc (.string r5.toStr))
    else none :=
  (loopAt_eq _ _ _ _).trans (by kernel_rfl)
theorem f88.l0b_eq (k : Nat) (t9n : Nat) (t9f : Nat → PV) (t10 : Int) (out : List PV) (n_ n__1 n__2 n__3 n__4 : Int) : f88.l0b k t9n t9f t10 out n_ n__1 n__2 n__3 n__4 =
  if decide ((1 : Int) < t10) = true then
    if 1 < (t9n : Int) then
      if hasSh .str (t9f 1) = true then
        Option.bind (α := PV) (
          if decide (n__1 < 0) = true then
            some (.sc (.bool true))
          else
            some (.sc (.bool (decide (n__1 > 1000000000))))) fun r6 =>
        if r6.toBool = true then
          some (.sc (.string (⟨#[]⟩ : ByteArray)))
        else
          (D 64 [.sc (.int .i64 (IntKind.i64.wrap (n__1 * 10000)))]).bind fun r7 => if hasSh .str r7 = true then
          if (out.length + ([.sc (.string ((t9f 1).toStr)), .sc (.string r7.toStr)] : List PV).length) * 16 ≤ 140737488355328 ∧ out.length + ([.sc (.string ((t9f 1).toStr)), .sc (.string r7.toStr)] : List PV).length ≤ 140737488355328 then
            f88.l0c k t9n t9f t10 (out ++ ([.sc (.string ((t9f 1).toStr)), .sc (.string r7.toStr)] : List PV)) n_ n__1 n__2 n__3 n__4
          else none
          else none
      else none
    else none
  else
    (D 79 [frozen 1 out, .sc (.string (⟨#[32]⟩ : ByteArray))]).bind fun r8 => if hasSh .str r8 = true then
    some (.sc (.string r8.toStr))
    else none :=
  (loopAt_eq _ _ _ _).trans (by kernel_rfl)
theorem f88.l0c_eq (k : Nat) (t9n : Nat) (t9f : Nat → PV) (t10 : Int) (out : List PV) (n_ n__1 n__2 n__3 n__4 : Int) : f88.l0c k t9n t9f t10 out n_ n__1 n__2 n__3 n__4 =
  if decide ((2 : Int) < t10) = true then
    if 2 < (t9n : Int) then
      if hasSh .str (t9f 2) = true then
        Option.bind (α := PV) (
          if decide (n__2 < 0) = true then
            some (.sc (.bool true))
          else
            some (.sc (.bool (decide (n__2 > 1000000000))))) fun r9 =>
        if r9.toBool = true then
          some (.sc (.string (⟨#[]⟩ : ByteArray)))
        else
          (D 64 [.sc (.int .i64 (IntKind.i64.wrap (n__2 * 10000)))]).bind fun r10 => if hasSh .str r10 = true then
          if (out.length + ([.sc (.string ((t9f 2).toStr)), .sc (.string r10.toStr)] : List PV).length) * 16 ≤ 140737488355328 ∧ out.length + ([.sc (.string ((t9f 2).toStr)), .sc (.string r10.toStr)] : List PV).length ≤ 140737488355328 then
            f88.l0d k t9n t9f t10 (out ++ ([.sc (.string ((t9f 2).toStr)), .sc (.string r10.toStr)] : List PV)) n_ n__1 n__2 n__3 n__4
          else none
          else none
      else none
    else none
  else
    (D 79 [frozen 1 out, .sc (.string (⟨#[32]⟩ : ByteArray))]).bind fun r11 => if hasSh .str r11 = true then
    some (.sc (.string r11.toStr))
    else none :=
  (loopAt_eq _ _ _ _).trans (by kernel_rfl)
theorem f88.l0d_eq (k : Nat) (t9n : Nat) (t9f : Nat → PV) (t10 : Int) (out : List PV) (n_ n__1 n__2 n__3 n__4 : Int) : f88.l0d k t9n t9f t10 out n_ n__1 n__2 n__3 n__4 =
  if decide ((3 : Int) < t10) = true then
    if 3 < (t9n : Int) then
      if hasSh .str (t9f 3) = true then
        Option.bind (α := PV) (
          if decide (n__3 < 0) = true then
            some (.sc (.bool true))
          else
            some (.sc (.bool (decide (n__3 > 1000000000))))) fun r12 =>
        if r12.toBool = true then
          some (.sc (.string (⟨#[]⟩ : ByteArray)))
        else
          (D 64 [.sc (.int .i64 (IntKind.i64.wrap (n__3 * 10000)))]).bind fun r13 => if hasSh .str r13 = true then
          if (out.length + ([.sc (.string ((t9f 3).toStr)), .sc (.string r13.toStr)] : List PV).length) * 16 ≤ 140737488355328 ∧ out.length + ([.sc (.string ((t9f 3).toStr)), .sc (.string r13.toStr)] : List PV).length ≤ 140737488355328 then
            f88.l0e k t9n t9f t10 (out ++ ([.sc (.string ((t9f 3).toStr)), .sc (.string r13.toStr)] : List PV)) n_ n__1 n__2 n__3 n__4
          else none
          else none
      else none
    else none
  else
    (D 79 [frozen 1 out, .sc (.string (⟨#[32]⟩ : ByteArray))]).bind fun r14 => if hasSh .str r14 = true then
    some (.sc (.string r14.toStr))
    else none :=
  (loopAt_eq _ _ _ _).trans (by kernel_rfl)
theorem f88.l0e_eq (k : Nat) (t9n : Nat) (t9f : Nat → PV) (t10 : Int) (out : List PV) (n_ n__1 n__2 n__3 n__4 : Int) : f88.l0e k t9n t9f t10 out n_ n__1 n__2 n__3 n__4 =
  if decide ((4 : Int) < t10) = true then
    if 4 < (t9n : Int) then
      if hasSh .str (t9f 4) = true then
        Option.bind (α := PV) (
          if decide (n__4 < 0) = true then
            some (.sc (.bool true))
          else
            some (.sc (.bool (decide (n__4 > 1000000000))))) fun r15 =>
        if r15.toBool = true then
          some (.sc (.string (⟨#[]⟩ : ByteArray)))
        else
          (D 64 [.sc (.int .i64 (IntKind.i64.wrap (n__4 * 10000)))]).bind fun r16 => if hasSh .str r16 = true then
          if (out.length + ([.sc (.string ((t9f 4).toStr)), .sc (.string r16.toStr)] : List PV).length) * 16 ≤ 140737488355328 ∧ out.length + ([.sc (.string ((t9f 4).toStr)), .sc (.string r16.toStr)] : List PV).length ≤ 140737488355328 then
            f88.l0f k t9n t9f t10 (out ++ ([.sc (.string ((t9f 4).toStr)), .sc (.string r16.toStr)] : List PV)) n_ n__1 n__2 n__3 n__4
          else none
          else none
      else none
    else none
  else
    (D 79 [frozen 1 out, .sc (.string (⟨#[32]⟩ : ByteArray))]).bind fun r17 => if hasSh .str r17 = true then
    some (.sc (.string r17.toStr))
    else none :=
  (loopAt_eq _ _ _ _).trans (by kernel_rfl)
theorem f88.l0f_eq (k : Nat) (t9n : Nat) (t9f : Nat → PV) (t10 : Int) (out : List PV) (n_ n__1 n__2 n__3 n__4 : Int) : f88.l0f k t9n t9f t10 out n_ n__1 n__2 n__3 n__4 =
  if decide ((5 : Int) < t10) = true then
    if 5 < (t9n : Int) then
      if hasSh .str (t9f 5) = true then none else none
    else none
  else
    (D 79 [frozen 1 out, .sc (.string (⟨#[32]⟩ : ByteArray))]).bind fun r18 => if hasSh .str r18 = true then
    some (.sc (.string r18.toStr))
    else none :=
  (loopAt_eq _ _ _ _).trans (by kernel_rfl)
-- oculus/meter.counts
theorem f125_eq (k : Nat) (c c_1 c_2 c_3 c_4 : Int) : D 125 [.agg [.sc (.int .i64 c), .sc (.int .i64 c_1), .sc (.int .i64 c_2), .sc (.int .i64 c_3), .sc (.int .i64 c_4)]] =
  some (.agg [.sc (.int .i64 c), .sc (.int .i64 c_1), .sc (.int .i64 c_2), .sc (.int .i64 c_3), .sc (.int .i64 c_4)]) :=
  (denI_eq k _ _).trans (by kernel_rfl)
-- oculus/meter.cost
theorem f124_eq (k : Nat) (n_ n__1 n__2 n__3 n__4 : Int) : D 124 [.agg [.sc (.int .i64 n_), .sc (.int .i64 n__1), .sc (.int .i64 n__2), .sc (.int .i64 n__3), .sc (.int .i64 n__4)]] =
  some (.agg [.sc (.int .i64 n_), .sc (.int .i64 n__1), .sc (.int .i64 n__2), .sc (.int .i64 n__3), .sc (.int .i64 n__4)]) :=
  (denI_eq k _ _).trans (by kernel_rfl)
-- oculus/reply.Cost
theorem f44_eq (k : Nat) (c c_1 c_2 c_3 c_4 : Int) : D 44 [.agg [.sc (.int .i64 c), .sc (.int .i64 c_1), .sc (.int .i64 c_2), .sc (.int .i64 c_3), .sc (.int .i64 c_4)]] =
  (D 88 [.agg [.sc (.int .i64 c), .sc (.int .i64 c_1), .sc (.int .i64 c_2), .sc (.int .i64 c_3), .sc (.int .i64 c_4)]]).bind fun r1 => if hasSh .str r1 = true then
  if 5 + r1.toStr.size ≤ 9223372036854775807 then
    some (.sc (.string ((⟨#[99, 111, 115, 116, 32]⟩ : ByteArray) ++ r1.toStr)))
  else none
  else none :=
  (denI_eq k _ _).trans (by kernel_rfl)
-- oculus/oculusref45.ReadCost
theorem f45_eq (k : Nat) (t : ByteArray) : D 45 [.sc (.string t)] =
  Option.bind (α := PV) (
    if decide ((t.size : Int) < 5) = true then
      some (.sc (.bool true))
    else
      Option.bind (α := PV) (
        if 5 ≤ (t.size : Int) then
          some (.sc (.bool (!((t.extract 0 5).toList == (⟨#[99, 111, 115, 116, 32]⟩ : ByteArray).toList))))
        else none) fun r1 =>
      some (.sc (.bool r1.toBool))) fun r2 =>
  if r2.toBool = true then
    some (.agg [.sc (.int .i64 0), .sc (.int .i64 0), .sc (.int .i64 0), .sc (.int .i64 0), .sc (.int .i64 0), .sc (.bool false)])
  else
    if 0 ≤ (t.size : Int) then
      if (t.size : Int) ≤ (t.size : Int) then
        if 5 ≤ (t.size : Int) then
          (D 89 [.sc (.string (t.extract 5 (t.size : Int).toNat))]).bind fun r3 => if hasSh (.agg [(.int .i64), (.int .i64), (.int .i64), (.int .i64), (.int .i64), .bool]) r3 = true then
          some (.agg [.sc (.int .i64 ((cel 0 r3.cells).toInt)), .sc (.int .i64 ((cel 1 r3.cells).toInt)), .sc (.int .i64 ((cel 2 r3.cells).toInt)), .sc (.int .i64 ((cel 3 r3.cells).toInt)), .sc (.int .i64 ((cel 4 r3.cells).toInt)), .sc (.bool ((cel 5 r3.cells).toBool))])
          else none
        else none
      else none
    else none :=
  (denI_eq k _ _).trans (by kernel_rfl)
-- oculus/oculusref36.Parse
theorem f89_eq (k : Nat) (t : ByteArray) : D 89 [.sc (.string t)] =
  (D 126 [.sc (.string t)]).bind fun r1 => if hasSh (.lst 1) r1 = true then
  if ((r1.len : Int) != 10) = true then
    some (.agg [.sc (.int .i64 0), .sc (.int .i64 0), .sc (.int .i64 0), .sc (.int .i64 0), .sc (.int .i64 0), .sc (.bool false)])
  else
    if 1 < (r1.len : Int) then
      if hasSh .str (r1.at 1) = true then
        if 3 < (r1.len : Int) then
          if hasSh .str (r1.at 3) = true then
            if 5 < (r1.len : Int) then
              if hasSh .str (r1.at 5) = true then
                if 7 < (r1.len : Int) then
                  if hasSh .str (r1.at 7) = true then
                    if 9 < (r1.len : Int) then
                      if hasSh .str (r1.at 9) = true then
                        (D 127 [.sc (.string ((r1.at 1).toStr))]).bind fun r2 => if hasSh (.int .i64) r2 = true then
                        (D 127 [.sc (.string ((r1.at 3).toStr))]).bind fun r3 => if hasSh (.int .i64) r3 = true then
                        (D 127 [.sc (.string ((r1.at 5).toStr))]).bind fun r4 => if hasSh (.int .i64) r4 = true then
                        (D 127 [.sc (.string ((r1.at 7).toStr))]).bind fun r5 => if hasSh (.int .i64) r5 = true then
                        (D 127 [.sc (.string ((r1.at 9).toStr))]).bind fun r6 => if hasSh (.int .i64) r6 = true then
                        (D 42 [.agg [.sc (.int .i64 r2.toInt), .sc (.int .i64 r3.toInt), .sc (.int .i64 r4.toInt), .sc (.int .i64 r5.toInt), .sc (.int .i64 r6.toInt)]]).bind fun r7 => if hasSh .bool r7 = true then
                        Option.bind (α := PV) (
                          if (!r7.toBool) = true then
                            some (.sc (.bool true))
                          else
                            Option.bind (α := PV) (
                              (D 90 [.agg [.sc (.int .i64 r2.toInt), .sc (.int .i64 r3.toInt), .sc (.int .i64 r4.toInt), .sc (.int .i64 r5.toInt), .sc (.int .i64 r6.toInt)]]).bind fun r8 => if hasSh .str r8 = true then
                              some (.sc (.bool (!(r8.toStr.toList == t.toList))))
                              else none) fun r9 =>
                            some (.sc (.bool r9.toBool))) fun r10 =>
                        if r10.toBool = true then
                          some (.agg [.sc (.int .i64 0), .sc (.int .i64 0), .sc (.int .i64 0), .sc (.int .i64 0), .sc (.int .i64 0), .sc (.bool false)])
                        else
                          some (.agg [.sc (.int .i64 r2.toInt), .sc (.int .i64 r3.toInt), .sc (.int .i64 r4.toInt), .sc (.int .i64 r5.toInt), .sc (.int .i64 r6.toInt), .sc (.bool true)])
                        else none
                        else none
                        else none
                        else none
                        else none
                        else none
                      else none
                    else none
                  else none
                else none
              else none
            else none
          else none
        else none
      else none
    else none
  else none :=
  (denI_eq k _ _).trans (by kernel_rfl)
-- oculus/oculusref36.Text
theorem f90_eq (k : Nat) (c c_1 c_2 c_3 c_4 : Int) : D 90 [.agg [.sc (.int .i64 c), .sc (.int .i64 c_1), .sc (.int .i64 c_2), .sc (.int .i64 c_3), .sc (.int .i64 c_4)]] =
  (D 42 [.agg [.sc (.int .i64 c), .sc (.int .i64 c_1), .sc (.int .i64 c_2), .sc (.int .i64 c_3), .sc (.int .i64 c_4)]]).bind fun r1 => if hasSh .bool r1 = true then
  if (!r1.toBool) = true then
    some (.sc (.string (⟨#[]⟩ : ByteArray)))
  else
    (D 77 [.sc (.int .i64 c)]).bind fun r2 => if hasSh .str r2 = true then
    if 6 + r2.toStr.size ≤ 9223372036854775807 then
      if ((⟨#[101, 118, 97, 108, 115, 32]⟩ : ByteArray) ++ r2.toStr).size + 7 ≤ 9223372036854775807 then
        (D 77 [.sc (.int .i64 c_1)]).bind fun r3 => if hasSh .str r3 = true then
        if (((⟨#[101, 118, 97, 108, 115, 32]⟩ : ByteArray) ++ r2.toStr) ++ (⟨#[32, 114, 101, 97, 100, 115, 32]⟩ : ByteArray)).size + r3.toStr.size ≤ 9223372036854775807 then
          if ((((⟨#[101, 118, 97, 108, 115, 32]⟩ : ByteArray) ++ r2.toStr) ++ (⟨#[32, 114, 101, 97, 100, 115, 32]⟩ : ByteArray)) ++ r3.toStr).size + 8 ≤ 9223372036854775807 then
            (D 77 [.sc (.int .i64 c_2)]).bind fun r4 => if hasSh .str r4 = true then
            if (((((⟨#[101, 118, 97, 108, 115, 32]⟩ : ByteArray) ++ r2.toStr) ++ (⟨#[32, 114, 101, 97, 100, 115, 32]⟩ : ByteArray)) ++ r3.toStr) ++ (⟨#[32, 99, 104, 97, 115, 101, 115, 32]⟩ : ByteArray)).size + r4.toStr.size ≤ 9223372036854775807 then
              if ((((((⟨#[101, 118, 97, 108, 115, 32]⟩ : ByteArray) ++ r2.toStr) ++ (⟨#[32, 114, 101, 97, 100, 115, 32]⟩ : ByteArray)) ++ r3.toStr) ++ (⟨#[32, 99, 104, 97, 115, 101, 115, 32]⟩ : ByteArray)) ++ r4.toStr).size + 7 ≤ 9223372036854775807 then
                (D 77 [.sc (.int .i64 c_3)]).bind fun r5 => if hasSh .str r5 = true then
                if (((((((⟨#[101, 118, 97, 108, 115, 32]⟩ : ByteArray) ++ r2.toStr) ++ (⟨#[32, 114, 101, 97, 100, 115, 32]⟩ : ByteArray)) ++ r3.toStr) ++ (⟨#[32, 99, 104, 97, 115, 101, 115, 32]⟩ : ByteArray)) ++ r4.toStr) ++ (⟨#[32, 101, 100, 103, 101, 115, 32]⟩ : ByteArray)).size + r5.toStr.size ≤ 9223372036854775807 then
                  if ((((((((⟨#[101, 118, 97, 108, 115, 32]⟩ : ByteArray) ++ r2.toStr) ++ (⟨#[32, 114, 101, 97, 100, 115, 32]⟩ : ByteArray)) ++ r3.toStr) ++ (⟨#[32, 99, 104, 97, 115, 101, 115, 32]⟩ : ByteArray)) ++ r4.toStr) ++ (⟨#[32, 101, 100, 103, 101, 115, 32]⟩ : ByteArray)) ++ r5.toStr).size + 8 ≤ 9223372036854775807 then
                    (D 77 [.sc (.int .i64 c_4)]).bind fun r6 => if hasSh .str r6 = true then
                    if (((((((((⟨#[101, 118, 97, 108, 115, 32]⟩ : ByteArray) ++ r2.toStr) ++ (⟨#[32, 114, 101, 97, 100, 115, 32]⟩ : ByteArray)) ++ r3.toStr) ++ (⟨#[32, 99, 104, 97, 115, 101, 115, 32]⟩ : ByteArray)) ++ r4.toStr) ++ (⟨#[32, 101, 100, 103, 101, 115, 32]⟩ : ByteArray)) ++ r5.toStr) ++ (⟨#[32, 118, 105, 115, 105, 116, 115, 32]⟩ : ByteArray)).size + r6.toStr.size ≤ 9223372036854775807 then
                      some (.sc (.string ((((((((((⟨#[101, 118, 97, 108, 115, 32]⟩ : ByteArray) ++ r2.toStr) ++ (⟨#[32, 114, 101, 97, 100, 115, 32]⟩ : ByteArray)) ++ r3.toStr) ++ (⟨#[32, 99, 104, 97, 115, 101, 115, 32]⟩ : ByteArray)) ++ r4.toStr) ++ (⟨#[32, 101, 100, 103, 101, 115, 32]⟩ : ByteArray)) ++ r5.toStr) ++ (⟨#[32, 118, 105, 115, 105, 116, 115, 32]⟩ : ByteArray)) ++ r6.toStr)))
                    else none
                    else none
                  else none
                else none
                else none
              else none
            else none
            else none
          else none
        else none
        else none
      else none
    else none
    else none
  else none :=
  (denI_eq k _ _).trans (by kernel_rfl)
-- oculus/oculusref07.Words
noncomputable def f126.l0a (k : Nat) (s_ : ByteArray) (from_ i : Int) : Option PV := loopAt Tryz.prog cf ext hint k 126 [1, 1, 1, 0, 1, 0] ⟨[.sc (.string s_), .top, .top, .nils, .sc (.int .i64 from_), .sc (.int .i64 i), .top, .top, .top, .top, .top, .top, .top, .top, .top, .top, .top, .top, .top, .top, .top, .top, .top, .top, .top, .top, .top, .top, .top, .top, .top, .top], [], none⟩
noncomputable def f126.l0b (k : Nat) (s_ : ByteArray) (from_ i : Int) (out : List PV) : Option PV := loopAt Tryz.prog cf ext hint k 126 [1, 1, 1, 0, 1, 0] ⟨[.sc (.string s_), .top, .top, .buf 0 0, .sc (.int .i64 from_), .sc (.int .i64 i), .top, .top, .top, .top, .top, .top, .top, .top, .top, .top, .top, .top, .top, .top, .top, .top, .top, .top, .top, .top, .top, .top, .top, .top, .top, .top], [.buf 9 0 out], none⟩
theorem f126_eq (k : Nat) (s_ : ByteArray) : D 126 [.sc (.string s_)] =
  f126.l0a k s_ 0 0 :=
  (denI_eq k _ _).trans (by kernel_rfl)
theorem f126.l0a_eq (k : Nat) (s_ : ByteArray) (from_ i : Int) : f126.l0a k s_ from_ i =
  if decide (i ≤ (s_.size : Int)) = true then
    Option.bind (α := PV) (
      if (i == (s_.size : Int)) = true then
        some (.sc (.bool true))
      else
        Option.bind (α := PV) (
          Option.bind (α := PV) (
            if 0 ≤ i then
              if i < (s_.size : Int) then
                some (.sc (.bool ((bt s_ i) == 32)))
              else none
            else none) fun r1 =>
          some (.sc (.bool r1.toBool))) fun r2 =>
        some (.sc (.bool r2.toBool))) fun r3 =>
    if r3.toBool = true then
      if 0 ≤ i then
        if i ≤ (s_.size : Int) then
          if 0 ≤ from_ then
            if from_ ≤ i then
              if ([.sc (.string (s_.extract from_.toNat i.toNat))] : List PV).length * 16 ≤ 140737488355328 ∧ ([.sc (.string (s_.extract from_.toNat i.toNat))] : List PV).length ≤ 140737488355328 then
                f126.l0b k s_ (IntKind.i64.wrap (i + 1)) (IntKind.i64.wrap (i + 1)) ([.sc (.string (s_.extract from_.toNat i.toNat))] : List PV)
              else none
            else none
          else none
        else none
      else none
    else
      f126.l0a k s_ from_ (IntKind.i64.wrap (i + 1))
  else
    some (.lst 1 0 (fun _ => .top)) :=
  (loopAt_eq _ _ _ _).trans (by kernel_rfl)
theorem f126.l0b_eq (k : Nat) (s_ : ByteArray) (from_ i : Int) (out : List PV) : f126.l0b k s_ from_ i out =
  if decide (i ≤ (s_.size : Int)) = true then
    Option.bind (α := PV) (
      if (i == (s_.size : Int)) = true then
        some (.sc (.bool true))
      else
        Option.bind (α := PV) (
          Option.bind (α := PV) (
            if 0 ≤ i then
              if i < (s_.size : Int) then
                some (.sc (.bool ((bt s_ i) == 32)))
              else none
            else none) fun r4 =>
          some (.sc (.bool r4.toBool))) fun r5 =>
        some (.sc (.bool r5.toBool))) fun r6 =>
    if r6.toBool = true then
      if 0 ≤ i then
        if i ≤ (s_.size : Int) then
          if 0 ≤ from_ then
            if from_ ≤ i then
              if (out.length + ([.sc (.string (s_.extract from_.toNat i.toNat))] : List PV).length) * 16 ≤ 140737488355328 ∧ out.length + ([.sc (.string (s_.extract from_.toNat i.toNat))] : List PV).length ≤ 140737488355328 then
                f126.l0b k s_ (IntKind.i64.wrap (i + 1)) (IntKind.i64.wrap (i + 1)) (out ++ ([.sc (.string (s_.extract from_.toNat i.toNat))] : List PV))
              else none
            else none
          else none
        else none
      else none
    else
      f126.l0b k s_ from_ (IntKind.i64.wrap (i + 1)) out
  else
    some (frozen 1 out) :=
  (loopAt_eq _ _ _ _).trans (by kernel_rfl)
-- oculus/oculusref36.number
noncomputable def f127.l0a (k : Nat) (t : ByteArray) (n_ i : Int) : Option PV := loopAt Tryz.prog cf ext hint k 127 [1, 1, 0, 1, 0] ⟨[.sc (.string t), .top, .top, .sc (.int .i64 n_), .sc (.int .i64 i), .top, .top, .top, .top, .top, .top, .top, .top, .top, .top, .top, .top, .top, .top, .top, .top, .top, .top, .top, .top, .top, .top, .top, .top, .top, .top, .top, .top, .top], [], none⟩
theorem f127_eq (k : Nat) (t : ByteArray) : D 127 [.sc (.string t)] =
  f127.l0a k t 0 0 :=
  (denI_eq k _ _).trans (by kernel_rfl)
theorem f127.l0a_eq (k : Nat) (t : ByteArray) (n_ i : Int) : f127.l0a k t n_ i =
  if decide (i < (t.size : Int)) = true then
    if 0 ≤ i then
      if i < (t.size : Int) then
        Option.bind (α := PV) (
          if decide ((bt t i) < 48) = true then
            some (.sc (.bool true))
          else
            Option.bind (α := PV) (
              Option.bind (α := PV) (
                if 0 ≤ i then
                  if i < (t.size : Int) then
                    some (.sc (.bool (decide ((bt t i) > 57))))
                  else none
                else none) fun r1 =>
              some (.sc (.bool r1.toBool))) fun r2 =>
            some (.sc (.bool r2.toBool))) fun r3 =>
        Option.bind (α := PV) (
          if r3.toBool = true then
            some (.sc (.bool true))
          else
            some (.sc (.bool (decide (n_ > 1000000000))))) fun r4 =>
        if r4.toBool = true then
          some (.sc (.int .i64 (-1)))
        else
          if 0 ≤ i then
            if i < (t.size : Int) then
              f127.l0a k t (IntKind.i64.wrap ((IntKind.i64.wrap ((IntKind.i64.wrap (n_ * 10)) + (IntKind.i64.wrap (bt t i)))) - 48)) (IntKind.i64.wrap (i + 1))
            else none
          else none
      else none
    else none
  else
    some (.sc (.int .i64 n_)) :=
  (loopAt_eq _ _ _ _).trans (by kernel_rfl)
-- oculus/oculusref45.Cost
theorem f46_eq (k : Nat) (c c_1 c_2 c_3 c_4 : Int) : D 46 [.agg [.sc (.int .i64 c), .sc (.int .i64 c_1), .sc (.int .i64 c_2), .sc (.int .i64 c_3), .sc (.int .i64 c_4)]] =
  (D 90 [.agg [.sc (.int .i64 c), .sc (.int .i64 c_1), .sc (.int .i64 c_2), .sc (.int .i64 c_3), .sc (.int .i64 c_4)]]).bind fun r1 => if hasSh .str r1 = true then
  if 5 + r1.toStr.size ≤ 9223372036854775807 then
    some (.sc (.string ((⟨#[99, 111, 115, 116, 32]⟩ : ByteArray) ++ r1.toStr)))
  else none
  else none :=
  (denI_eq k _ _).trans (by kernel_rfl)
end EB
end Go.Den
