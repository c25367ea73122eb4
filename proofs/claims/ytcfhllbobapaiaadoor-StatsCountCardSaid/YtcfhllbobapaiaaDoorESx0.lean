import Derived.Test.YtcfhllbobapaiaaDoorESh
import Derived.KernelRfl
set_option maxRecDepth 100000
set_option linter.unusedVariables false
namespace Go.Den
open Go Go.Proofs
namespace ES
-- oculus/oculuslaw43.StatsCount
theorem f6_eq (k : Nat) (ln : Nat) (lf : Nat → PV) (s_ s__1 s__2 s__3 s__4 s__5 s__6 s__7 : Int) : D 6 [.lst 7 ln lf, .agg [.sc (.int .i64 s_), .sc (.int .i64 s__1), .sc (.int .i64 s__2), .sc (.int .i64 s__3), .sc (.int .i64 s__4), .sc (.int .i64 s__5), .sc (.int .i64 s__6), .sc (.int .i64 s__7)]] =
  if decide ((ln : Int) > 300) = true then
    (D 24 []).bind fun r1 => if hasSh .bool r1 = true then
    some (.sc (.bool r1.toBool))
    else none
  else
    (D 25 [.lst 7 ln lf]).bind fun r2 => if hasSh (.agg [(.int .i64), (.int .i64), (.int .i64), (.int .i64), (.int .i64), (.int .i64), (.int .i64), (.int .i64)]) r2 = true then
    (D 27 [.agg [.sc (.int .i64 ((cel 0 r2.cells).toInt)), .sc (.int .i64 ((cel 1 r2.cells).toInt)), .sc (.int .i64 ((cel 2 r2.cells).toInt)), .sc (.int .i64 ((cel 3 r2.cells).toInt)), .sc (.int .i64 ((cel 4 r2.cells).toInt)), .sc (.int .i64 ((cel 5 r2.cells).toInt)), .sc (.int .i64 ((cel 6 r2.cells).toInt)), .sc (.int .i64 ((cel 7 r2.cells).toInt))]]).bind fun r3 => if hasSh (.lst 1) r3 = true then
    (D 28 [.lst 7 ln lf]).bind fun r4 => if hasSh (.lst 1) r4 = true then
    (D 26 [.lst 1 r3.len r3.at, .lst 1 r4.len r4.at]).bind fun r5 => if hasSh .bool r5 = true then
    if r5.toBool = true then
      (D 29 [.agg [.sc (.int .i64 ((cel 0 r2.cells).toInt)), .sc (.int .i64 ((cel 1 r2.cells).toInt)), .sc (.int .i64 ((cel 2 r2.cells).toInt)), .sc (.int .i64 ((cel 3 r2.cells).toInt)), .sc (.int .i64 ((cel 4 r2.cells).toInt)), .sc (.int .i64 ((cel 5 r2.cells).toInt)), .sc (.int .i64 ((cel 6 r2.cells).toInt)), .sc (.int .i64 ((cel 7 r2.cells).toInt))]]).bind fun r6 => if hasSh .str r6 = true then
      (D 28 [.lst 7 ln lf]).bind fun r7 => if hasSh (.lst 1) r7 = true then
      (D 30 [.lst 1 r7.len r7.at]).bind fun r8 => if hasSh .str r8 = true then
      if (r6.toStr.toList == r8.toStr.toList) = true then
        (D 29 [.agg [.sc (.int .i64 s_), .sc (.int .i64 s__1), .sc (.int .i64 s__2), .sc (.int .i64 s__3), .sc (.int .i64 s__4), .sc (.int .i64 s__5), .sc (.int .i64 s__6), .sc (.int .i64 s__7)]]).bind fun r9 => if hasSh .str r9 = true then
        (D 27 [.agg [.sc (.int .i64 s_), .sc (.int .i64 s__1), .sc (.int .i64 s__2), .sc (.int .i64 s__3), .sc (.int .i64 s__4), .sc (.int .i64 s__5), .sc (.int .i64 s__6), .sc (.int .i64 s__7)]]).bind fun r10 => if hasSh (.lst 1) r10 = true then
        (D 30 [.lst 1 r10.len r10.at]).bind fun r11 => if hasSh .str r11 = true then
        if (r9.toStr.toList == r11.toStr.toList) = true then
          (D 24 []).bind fun r12 => if hasSh .bool r12 = true then
          some (.sc (.bool r12.toBool))
          else none
        else
          some (.sc (.bool false))
        else none
        else none
        else none
      else
        some (.sc (.bool false))
      else none
      else none
      else none
    else
      some (.sc (.bool false))
    else none
    else none
    else none
    else none :=
  (denI_eq k _ _).trans (by kernel_rfl)
-- oculus/oculuslaw43.alive
theorem f24_eq (k : Nat)  : D 24 [] =
  (D 75 [.sc (.int .i64 1)]).bind fun r1 => if hasSh (.agg [(.int .i64), (.int .i64), .str]) r1 = true then
  (D 76 [.sc (.int .i64 7)]).bind fun r2 => if hasSh (.agg [(.int .i64), (.int .i64), .str]) r2 = true then
  (D 25 [frozen 7 ([.agg [.sc (.int .i64 0), .sc (.int .i64 0), .sc (.string (⟨#[]⟩ : ByteArray)), .sc (.bool false), .sc (.int .i64 ((cel 0 r1.cells).toInt)), .sc (.int .i64 ((cel 1 r1.cells).toInt)), .sc (.string ((cel 2 r1.cells).toStr))], .agg [.sc (.int .i64 0), .sc (.int .i64 0), .sc (.string (⟨#[]⟩ : ByteArray)), .sc (.bool false), .sc (.int .i64 ((cel 0 r2.cells).toInt)), .sc (.int .i64 ((cel 1 r2.cells).toInt)), .sc (.string ((cel 2 r2.cells).toStr))], .agg [.sc (.int .i64 0), .sc (.int .i64 0), .sc (.string (⟨#[]⟩ : ByteArray)), .sc (.bool true), .sc (.int .i64 0), .sc (.int .i64 0), .sc (.string (⟨#[]⟩ : ByteArray))]] : List PV)]).bind fun r3 => if hasSh (.agg [(.int .i64), (.int .i64), (.int .i64), (.int .i64), (.int .i64), (.int .i64), (.int .i64), (.int .i64)]) r3 = true then
  (D 29 [.agg [.sc (.int .i64 ((cel 0 r3.cells).toInt)), .sc (.int .i64 ((cel 1 r3.cells).toInt)), .sc (.int .i64 ((cel 2 r3.cells).toInt)), .sc (.int .i64 ((cel 3 r3.cells).toInt)), .sc (.int .i64 ((cel 4 r3.cells).toInt)), .sc (.int .i64 ((cel 5 r3.cells).toInt)), .sc (.int .i64 ((cel 6 r3.cells).toInt)), .sc (.int .i64 ((cel 7 r3.cells).toInt))]]).bind fun r4 => if hasSh .str r4 = true then
  Option.bind (α := PV) (
    if (r4.toStr.toList == (⟨#[99, 101, 108, 108, 115, 32, 51, 32, 104, 105, 100, 100, 101, 110, 32, 49, 32, 98, 108, 97, 110, 107, 115, 32, 48, 32, 110, 117, 109, 98, 101, 114, 115, 32, 49, 32, 116, 101, 120, 116, 115, 32, 48, 32, 116, 114, 117, 116, 104, 115, 32, 48, 32, 102, 97, 117, 108, 116, 115, 32, 48, 32, 99, 121, 99, 108, 101, 115, 32, 49]⟩ : ByteArray).toList) = true then
      Option.bind (α := PV) (
        Option.bind (α := PV) (
          (D 31 [.agg [.sc (.int .i64 ((cel 0 r3.cells).toInt)), .sc (.int .i64 ((cel 1 r3.cells).toInt)), .sc (.int .i64 ((cel 2 r3.cells).toInt)), .sc (.int .i64 ((cel 3 r3.cells).toInt)), .sc (.int .i64 ((cel 4 r3.cells).toInt)), .sc (.int .i64 ((cel 5 r3.cells).toInt)), .sc (.int .i64 ((cel 6 r3.cells).toInt)), .sc (.int .i64 ((cel 7 r3.cells).toInt))], .agg [.sc (.int .i64 ((cel 0 r3.cells).toInt)), .sc (.int .i64 ((cel 1 r3.cells).toInt)), .sc (.int .i64 ((cel 2 r3.cells).toInt)), .sc (.int .i64 ((cel 3 r3.cells).toInt)), .sc (.int .i64 ((cel 4 r3.cells).toInt)), .sc (.int .i64 ((cel 5 r3.cells).toInt)), .sc (.int .i64 ((cel 6 r3.cells).toInt)), .sc (.int .i64 ((cel 7 r3.cells).toInt))]]).bind fun r5 => if hasSh (.agg [(.int .i64), (.int .i64), (.int .i64), (.int .i64), (.int .i64), (.int .i64), (.int .i64), (.int .i64)]) r5 = true then
          some (.sc (.bool (((cel 0 r5.cells).toInt) == 6)))
          else none) fun r6 =>
        some (.sc (.bool r6.toBool))) fun r7 =>
      some (.sc (.bool r7.toBool))
    else
      some (.sc (.bool false))) fun r8 =>
  some (.sc (.bool r8.toBool))
  else none
  else none
  else none
  else none :=
  (denI_eq k _ _).trans (by kernel_rfl)
-- oculus/stats.Of
noncomputable def f25.l0a (k : Nat) (t6n : Nat) (t6f : Nat → PV) (t7 t8 c0 c0_1 c0_2 c0_3 c0_4 c0_5 c0_6 c0_7 s_ s__1 s__2 s__3 s__4 s__5 s__6 s__7 : Int) : Option PV := loopAt Tryd.prog 6 ext hint k 25 [1, 1, 0, 1, 0] ⟨[.top, .top, .ptr 0 0, .ptr 1 0, .top, .top, .lst 7 t6n t6f, .sc (.int .i64 t7), .sc (.int .i64 t8), .top, .top, .top, .top, .top, .top, .top, .top, .top, .top, .top, .top, .top, .top, .top, .top, .top, .top, .top, .top, .top, .top, .top, .top, .top, .top, .top, .top, .top, .top, .top, .top, .top, .top, .top, .top, .top, .top, .top, .top, .top, .top, .top, .top, .top, .top, .top, .top, .top, .top, .top, .top, .top, .top, .top, .top], [.cells [.sc (.int .i64 c0), .sc (.int .i64 c0_1), .sc (.int .i64 c0_2), .sc (.int .i64 c0_3), .sc (.int .i64 c0_4), .sc (.int .i64 c0_5), .sc (.int .i64 c0_6), .sc (.int .i64 c0_7)], .cells [.sc (.int .i64 s_), .sc (.int .i64 s__1), .sc (.int .i64 s__2), .sc (.int .i64 s__3), .sc (.int .i64 s__4), .sc (.int .i64 s__5), .sc (.int .i64 s__6), .sc (.int .i64 s__7)]]⟩
noncomputable def f25.j1a (k : Nat) (t6n : Nat) (t6f : Nat → PV) (t7 t8 c0 c0_1 c0_2 c0_3 c0_4 c0_5 c0_6 c0_7 s_ s__1 s__2 s__3 s__4 s__5 s__6 s__7 : Int) : Option PV := gateK k (placeAt Tryd.prog 6 ext hint k 25 [1, 1, 0, 1, 0, 0, 1, 1, 1]) ⟨[.top, .top, .ptr 0 0, .ptr 1 0, .top, .top, .lst 7 t6n t6f, .sc (.int .i64 t7), .sc (.int .i64 t8), .top, .top, .top, .top, .top, .top, .top, .top, .top, .top, .top, .top, .top, .top, .top, .top, .top, .top, .top, .top, .top, .top, .top, .top, .top, .top, .top, .top, .top, .top, .top, .top, .top, .top, .top, .top, .top, .top, .top, .top, .top, .top, .top, .top, .top, .top, .top, .top, .top, .top, .top, .top, .top, .top, .top, .top], [.cells [.sc (.int .i64 c0), .sc (.int .i64 c0_1), .sc (.int .i64 c0_2), .sc (.int .i64 c0_3), .sc (.int .i64 c0_4), .sc (.int .i64 c0_5), .sc (.int .i64 c0_6), .sc (.int .i64 c0_7)], .cells [.sc (.int .i64 s_), .sc (.int .i64 s__1), .sc (.int .i64 s__2), .sc (.int .i64 s__3), .sc (.int .i64 s__4), .sc (.int .i64 s__5), .sc (.int .i64 s__6), .sc (.int .i64 s__7)]]⟩
theorem f25_eq (k : Nat) (ln : Nat) (lf : Nat → PV) : D 25 [.lst 7 ln lf] =
  f25.l0a k ln lf (ln : Int) 0 0 0 0 0 0 0 0 0 0 0 0 0 0 0 0 0 :=
  (denI_eq k _ _).trans (by kernel_rfl)
theorem f25.l0a_eq (k : Nat) (t6n : Nat) (t6f : Nat → PV) (t7 t8 c0 c0_1 c0_2 c0_3 c0_4 c0_5 c0_6 c0_7 s_ s__1 s__2 s__3 s__4 s__5 s__6 s__7 : Int) : f25.l0a k t6n t6f t7 t8 c0 c0_1 c0_2 c0_3 c0_4 c0_5 c0_6 c0_7 s_ s__1 s__2 s__3 s__4 s__5 s__6 s__7 =
  if decide (t8 < t7) = true then
    if 0 ≤ t8 then
      if t8 < (t6n : Int) then
        if hasSh (.agg [(.int .i64), (.int .i64), .str, .bool, (.int .i64), (.int .i64), .str]) (t6f t8.toNat) = true then
          if (cel 3 (t6f t8.toNat).cells).toBool = true then
            f25.j1a k t6n t6f t7 t8 c0 c0_1 c0_2 c0_3 c0_4 c0_5 c0_6 c0_7 (IntKind.i64.wrap (s_ + 1)) (IntKind.i64.wrap (s__1 + 1)) s__2 s__3 s__4 s__5 s__6 s__7
          else
            if (((cel 4 (t6f t8.toNat).cells).toInt) == 0) = true then
              f25.j1a k t6n t6f t7 t8 c0 c0_1 c0_2 c0_3 c0_4 c0_5 c0_6 c0_7 (IntKind.i64.wrap (s_ + 1)) s__1 (IntKind.i64.wrap (s__2 + 1)) s__3 s__4 s__5 s__6 s__7
            else
              if (((cel 4 (t6f t8.toNat).cells).toInt) == 1) = true then
                f25.j1a k t6n t6f t7 t8 c0 c0_1 c0_2 c0_3 c0_4 c0_5 c0_6 c0_7 (IntKind.i64.wrap (s_ + 1)) s__1 s__2 (IntKind.i64.wrap (s__3 + 1)) s__4 s__5 s__6 s__7
              else
                if (((cel 4 (t6f t8.toNat).cells).toInt) == 2) = true then
                  f25.j1a k t6n t6f t7 t8 c0 c0_1 c0_2 c0_3 c0_4 c0_5 c0_6 c0_7 (IntKind.i64.wrap (s_ + 1)) s__1 s__2 s__3 (IntKind.i64.wrap (s__4 + 1)) s__5 s__6 s__7
                else
                  if (((cel 4 (t6f t8.toNat).cells).toInt) == 3) = true then
                    f25.j1a k t6n t6f t7 t8 c0 c0_1 c0_2 c0_3 c0_4 c0_5 c0_6 c0_7 (IntKind.i64.wrap (s_ + 1)) s__1 s__2 s__3 s__4 (IntKind.i64.wrap (s__5 + 1)) s__6 s__7
                  else
                    if (((cel 4 (t6f t8.toNat).cells).toInt) == 4) = true then
                      if (((cel 5 (t6f t8.toNat).cells).toInt) == 7) = true then
                        f25.j1a k t6n t6f t7 t8 c0 c0_1 c0_2 c0_3 c0_4 c0_5 c0_6 c0_7 (IntKind.i64.wrap (s_ + 1)) s__1 s__2 s__3 s__4 s__5 s__6 (IntKind.i64.wrap (s__7 + 1))
                      else
                        f25.j1a k t6n t6f t7 t8 c0 c0_1 c0_2 c0_3 c0_4 c0_5 c0_6 c0_7 (IntKind.i64.wrap (s_ + 1)) s__1 s__2 s__3 s__4 s__5 (IntKind.i64.wrap (s__6 + 1)) s__7
                    else
                      f25.j1a k t6n t6f t7 t8 c0 c0_1 c0_2 c0_3 c0_4 c0_5 c0_6 c0_7 (IntKind.i64.wrap (s_ + 1)) s__1 s__2 s__3 s__4 s__5 s__6 s__7
        else none
      else none
    else none
  else
    some (.agg [.sc (.int .i64 s_), .sc (.int .i64 s__1), .sc (.int .i64 s__2), .sc (.int .i64 s__3), .sc (.int .i64 s__4), .sc (.int .i64 s__5), .sc (.int .i64 s__6), .sc (.int .i64 s__7)]) :=
  (loopAt_eq _ _ _ _).trans (by kernel_rfl)
theorem f25.j1a_eq (k : Nat) (t6n : Nat) (t6f : Nat → PV) (t7 t8 c0 c0_1 c0_2 c0_3 c0_4 c0_5 c0_6 c0_7 s_ s__1 s__2 s__3 s__4 s__5 s__6 s__7 : Int) : f25.j1a k t6n t6f t7 t8 c0 c0_1 c0_2 c0_3 c0_4 c0_5 c0_6 c0_7 s_ s__1 s__2 s__3 s__4 s__5 s__6 s__7 =
  f25.l0a k t6n t6f t7 (IntKind.i64.wrap (t8 + 1)) c0 c0_1 c0_2 c0_3 c0_4 c0_5 c0_6 c0_7 s_ s__1 s__2 s__3 s__4 s__5 s__6 s__7 :=
  (gateK_open _ _ _).trans (by kernel_rfl)
-- oculus/stats.Text
noncomputable def f29.l0a (k : Nat) (t9n : Nat) (t9f : Nat → PV) (t10 n_ n__1 n__2 n__3 n__4 n__5 n__6 n__7 : Int) : Option PV := loopAt Tryd.prog 6 ext hint k 29 [1, 1, 1, 0, 1, 0] ⟨[.top, .top, .top, .nils, .ptr 0 0, .top, .top, .top, .top, .lst 1 t9n t9f, .sc (.int .i64 t10), .sc (.int .i64 0), .top, .top, .top, .top, .top, .top, .top, .top, .top, .top, .top, .top, .top, .top, .top, .top, .top, .top, .top, .top, .top, .top, .top, .top, .top, .top], [.cells [.sc (.int .i64 n_), .sc (.int .i64 n__1), .sc (.int .i64 n__2), .sc (.int .i64 n__3), .sc (.int .i64 n__4), .sc (.int .i64 n__5), .sc (.int .i64 n__6), .sc (.int .i64 n__7)]]⟩
noncomputable def f29.l0b (k : Nat) (t9n : Nat) (t9f : Nat → PV) (t10 : Int) (out : List PV) (n_ n__1 n__2 n__3 n__4 n__5 n__6 n__7 : Int) : Option PV := loopAt Tryd.prog 6 ext hint k 29 [1, 1, 1, 0, 1, 0] ⟨[.top, .top, .top, .buf 0 0, .ptr 1 0, .top, .top, .top, .top, .lst 1 t9n t9f, .sc (.int .i64 t10), .sc (.int .i64 1), .top, .top, .top, .top, .top, .top, .top, .top, .top, .top, .top, .top, .top, .top, .top, .top, .top, .top, .top, .top, .top, .top, .top, .top, .top, .top], [.buf 9 0 out, .cells [.sc (.int .i64 n_), .sc (.int .i64 n__1), .sc (.int .i64 n__2), .sc (.int .i64 n__3), .sc (.int .i64 n__4), .sc (.int .i64 n__5), .sc (.int .i64 n__6), .sc (.int .i64 n__7)]]⟩
noncomputable def f29.l0c (k : Nat) (t9n : Nat) (t9f : Nat → PV) (t10 : Int) (out : List PV) (n_ n__1 n__2 n__3 n__4 n__5 n__6 n__7 : Int) : Option PV := loopAt Tryd.prog 6 ext hint k 29 [1, 1, 1, 0, 1, 0] ⟨[.top, .top, .top, .buf 0 0, .ptr 1 0, .top, .top, .top, .top, .lst 1 t9n t9f, .sc (.int .i64 t10), .sc (.int .i64 2), .top, .top, .top, .top, .top, .top, .top, .top, .top, .top, .top, .top, .top, .top, .top, .top, .top, .top, .top, .top, .top, .top, .top, .top, .top, .top], [.buf 9 0 out, .cells [.sc (.int .i64 n_), .sc (.int .i64 n__1), .sc (.int .i64 n__2), .sc (.int .i64 n__3), .sc (.int .i64 n__4), .sc (.int .i64 n__5), .sc (.int .i64 n__6), .sc (.int .i64 n__7)]]⟩
noncomputable def f29.l0d (k : Nat) (t9n : Nat) (t9f : Nat → PV) (t10 : Int) (out : List PV) (n_ n__1 n__2 n__3 n__4 n__5 n__6 n__7 : Int) : Option PV := loopAt Tryd.prog 6 ext hint k 29 [1, 1, 1, 0, 1, 0] ⟨[.top, .top, .top, .buf 0 0, .ptr 1 0, .top, .top, .top, .top, .lst 1 t9n t9f, .sc (.int .i64 t10), .sc (.int .i64 3), .top, .top, .top, .top, .top, .top, .top, .top, .top, .top, .top, .top, .top, .top, .top, .top, .top, .top, .top, .top, .top, .top, .top, .top, .top, .top], [.buf 9 0 out, .cells [.sc (.int .i64 n_), .sc (.int .i64 n__1), .sc (.int .i64 n__2), .sc (.int .i64 n__3), .sc (.int .i64 n__4), .sc (.int .i64 n__5), .sc (.int .i64 n__6), .sc (.int .i64 n__7)]]⟩
noncomputable def f29.l0e (k : Nat) (t9n : Nat) (t9f : Nat → PV) (t10 : Int) (out : List PV) (n_ n__1 n__2 n__3 n__4 n__5 n__6 n__7 : Int) : Option PV := loopAt Tryd.prog 6 ext hint k 29 [1, 1, 1, 0, 1, 0] ⟨[.top, .top, .top, .buf 0 0, .ptr 1 0, .top, .top, .top, .top, .lst 1 t9n t9f, .sc (.int .i64 t10), .sc (.int .i64 4), .top, .top, .top, .top, .top, .top, .top, .top, .top, .top, .top, .top, .top, .top, .top, .top, .top, .top, .top, .top, .top, .top, .top, .top, .top, .top], [.buf 9 0 out, .cells [.sc (.int .i64 n_), .sc (.int .i64 n__1), .sc (.int .i64 n__2), .sc (.int .i64 n__3), .sc (.int .i64 n__4), .sc (.int .i64 n__5), .sc (.int .i64 n__6), .sc (.int .i64 n__7)]]⟩
noncomputable def f29.l0f (k : Nat) (t9n : Nat) (t9f : Nat → PV) (t10 : Int) (out : List PV) (n_ n__1 n__2 n__3 n__4 n__5 n__6 n__7 : Int) : Option PV := loopAt Tryd.prog 6 ext hint k 29 [1, 1, 1, 0, 1, 0] ⟨[.top, .top, .top, .buf 0 0, .ptr 1 0, .top, .top, .top, .top, .lst 1 t9n t9f, .sc (.int .i64 t10), .sc (.int .i64 5), .top, .top, .top, .top, .top, .top, .top, .top, .top, .top, .top, .top, .top, .top, .top, .top, .top, .top, .top, .top, .top, .top, .top, .top, .top, .top], [.buf 9 0 out, .cells [.sc (.int .i64 n_), .sc (.int .i64 n__1), .sc (.int .i64 n__2), .sc (.int .i64 n__3), .sc (.int .i64 n__4), .sc (.int .i64 n__5), .sc (.int .i64 n__6), .sc (.int .i64 n__7)]]⟩
noncomputable def f29.l0g (k : Nat) (t9n : Nat) (t9f : Nat → PV) (t10 : Int) (out : List PV) (n_ n__1 n__2 n__3 n__4 n__5 n__6 n__7 : Int) : Option PV := loopAt Tryd.prog 6 ext hint k 29 [1, 1, 1, 0, 1, 0] ⟨[.top, .top, .top, .buf 0 0, .ptr 1 0, .top, .top, .top, .top, .lst 1 t9n t9f, .sc (.int .i64 t10), .sc (.int .i64 6), .top, .top, .top, .top, .top, .top, .top, .top, .top, .top, .top, .top, .top, .top, .top, .top, .top, .top, .top, .top, .top, .top, .top, .top, .top, .top], [.buf 9 0 out, .cells [.sc (.int .i64 n_), .sc (.int .i64 n__1), .sc (.int .i64 n__2), .sc (.int .i64 n__3), .sc (.int .i64 n__4), .sc (.int .i64 n__5), .sc (.int .i64 n__6), .sc (.int .i64 n__7)]]⟩
noncomputable def f29.l0h (k : Nat) (t9n : Nat) (t9f : Nat → PV) (t10 : Int) (out : List PV) (n_ n__1 n__2 n__3 n__4 n__5 n__6 n__7 : Int) : Option PV := loopAt Tryd.prog 6 ext hint k 29 [1, 1, 1, 0, 1, 0] ⟨[.top, .top, .top, .buf 0 0, .ptr 1 0, .top, .top, .top, .top, .lst 1 t9n t9f, .sc (.int .i64 t10), .sc (.int .i64 7), .top, .top, .top, .top, .top, .top, .top, .top, .top, .top, .top, .top, .top, .top, .top, .top, .top, .top, .top, .top, .top, .top, .top, .top, .top, .top], [.buf 9 0 out, .cells [.sc (.int .i64 n_), .sc (.int .i64 n__1), .sc (.int .i64 n__2), .sc (.int .i64 n__3), .sc (.int .i64 n__4), .sc (.int .i64 n__5), .sc (.int .i64 n__6), .sc (.int .i64 n__7)]]⟩
noncomputable def f29.l0i (k : Nat) (t9n : Nat) (t9f : Nat → PV) (t10 : Int) (out : List PV) (n_ n__1 n__2 n__3 n__4 n__5 n__6 n__7 : Int) : Option PV := loopAt Tryd.prog 6 ext hint k 29 [1, 1, 1, 0, 1, 0] ⟨[.top, .top, .top, .buf 0 0, .ptr 1 0, .top, .top, .top, .top, .lst 1 t9n t9f, .sc (.int .i64 t10), .sc (.int .i64 8), .top, .top, .top, .top, .top, .top, .top, .top, .top, .top, .top, .top, .top, .top, .top, .top, .top, .top, .top, .top, .top, .top, .top, .top, .top, .top], [.buf 9 0 out, .cells [.sc (.int .i64 n_), .sc (.int .i64 n__1), .sc (.int .i64 n__2), .sc (.int .i64 n__3), .sc (.int .i64 n__4), .sc (.int .i64 n__5), .sc (.int .i64 n__6), .sc (.int .i64 n__7)]]⟩
theorem f29_eq (k : Nat) (s_ s__1 s__2 s__3 s__4 s__5 s__6 s__7 : Int) : D 29 [.agg [.sc (.int .i64 s_), .sc (.int .i64 s__1), .sc (.int .i64 s__2), .sc (.int .i64 s__3), .sc (.int .i64 s__4), .sc (.int .i64 s__5), .sc (.int .i64 s__6), .sc (.int .i64 s__7)]] =
  (D 78 [.agg [.sc (.int .i64 s_), .sc (.int .i64 s__1), .sc (.int .i64 s__2), .sc (.int .i64 s__3), .sc (.int .i64 s__4), .sc (.int .i64 s__5), .sc (.int .i64 s__6), .sc (.int .i64 s__7)]]).bind fun r1 => if hasSh (.agg [(.int .i64), (.int .i64), (.int .i64), (.int .i64), (.int .i64), (.int .i64), (.int .i64), (.int .i64)]) r1 = true then
  (D 79 [.sc (.string (⟨#[99, 101, 108, 108, 115, 32, 104, 105, 100, 100, 101, 110, 32, 98, 108, 97, 110, 107, 115, 32, 110, 117, 109, 98, 101, 114, 115, 32, 116, 101, 120, 116, 115, 32, 116, 114, 117, 116, 104, 115, 32, 102, 97, 117, 108, 116, 115, 32, 99, 121, 99, 108, 101, 115]⟩ : ByteArray))]).bind fun r2 => if hasSh (.lst 1) r2 = true then
  f29.l0a k r2.len r2.at (r2.len : Int) ((cel 0 r1.cells).toInt) ((cel 1 r1.cells).toInt) ((cel 2 r1.cells).toInt) ((cel 3 r1.cells).toInt) ((cel 4 r1.cells).toInt) ((cel 5 r1.cells).toInt) ((cel 6 r1.cells).toInt) ((cel 7 r1.cells).toInt)
  else none
  else none :=
  (denI_eq k _ _).trans (by kernel_rfl)
theorem f29.l0a_eq (k : Nat) (t9n : Nat) (t9f : Nat → PV) (t10 n_ n__1 n__2 n__3 n__4 n__5 n__6 n__7 : Int) : f29.l0a k t9n t9f t10 n_ n__1 n__2 n__3 n__4 n__5 n__6 n__7 =
  if decide ((0 : Int) < t10) = true then
    if 0 < (t9n : Int) then
      if hasSh .str (t9f 0) = true then
        Option.bind (α := PV) (
          if decide (n_ < 0) = true then
            some (.sc (.bool true))
          else
            some (.sc (.bool (decide (n_ > 1000000000))))) fun r3 =>
        if r3.toBool = true then
          some (.sc (.string (⟨#[]⟩ : ByteArray)))
        else
          (D 15 [.sc (.int .i64 (IntKind.i64.wrap (n_ * 10000)))]).bind fun r4 => if hasSh .str r4 = true then
          if ([.sc (.string ((t9f 0).toStr)), .sc (.string r4.toStr)] : List PV).length * 16 ≤ 140737488355328 ∧ ([.sc (.string ((t9f 0).toStr)), .sc (.string r4.toStr)] : List PV).length ≤ 140737488355328 then
            f29.l0b k t9n t9f t10 ([.sc (.string ((t9f 0).toStr)), .sc (.string r4.toStr)] : List PV) n_ n__1 n__2 n__3 n__4 n__5 n__6 n__7
          else none
          else none
      else none
    else none
  else
    (D 80 [.lst 1 0 (fun _ => .top), .sc (.string (⟨#[32]⟩ : ByteArray))]).bind fun r5 => if hasSh .str r5 = true then
    some (.sc (.string r5.toStr))
    else none :=
  (loopAt_eq _ _ _ _).trans (by kernel_rfl)
theorem f29.l0b_eq (k : Nat) (t9n : Nat) (t9f : Nat → PV) (t10 : Int) (out : List PV) (n_ n__1 n__2 n__3 n__4 n__5 n__6 n__7 : Int) : f29.l0b k t9n t9f t10 out n_ n__1 n__2 n__3 n__4 n__5 n__6 n__7 =
  if decide ((1 : Int) < t10) = true then
    if 1 < (t9n : Int) then
      if hasSh .str (t9f 1) = true then
        Option.bind (α := PV) (
          if decide (n__1 < 0) = true then
            some (.sc (.bool true))
          else
            some (.sc (.bool (decide (n__1 > 1000000000))))) fun r6 =>
        if r6.toBool = true then
          some (.sc (.string (⟨#[]⟩ : ByteArray)))
        else
          (D 15 [.sc (.int .i64 (IntKind.i64.wrap (n__1 * 10000)))]).bind fun r7 => if hasSh .str r7 = true then
          if (out.length + ([.sc (.string ((t9f 1).toStr)), .sc (.string r7.toStr)] : List PV).length) * 16 ≤ 140737488355328 ∧ out.length + ([.sc (.string ((t9f 1).toStr)), .sc (.string r7.toStr)] : List PV).length ≤ 140737488355328 then
            f29.l0c k t9n t9f t10 (out ++ ([.sc (.string ((t9f 1).toStr)), .sc (.string r7.toStr)] : List PV)) n_ n__1 n__2 n__3 n__4 n__5 n__6 n__7
          else none
          else none
      else none
    else none
  else
    (D 80 [frozen 1 out, .sc (.string (⟨#[32]⟩ : ByteArray))]).bind fun r8 => if hasSh .str r8 = true then
    some (.sc (.string r8.toStr))
    else none :=
  (loopAt_eq _ _ _ _).trans (by kernel_rfl)
theorem f29.l0c_eq (k : Nat) (t9n : Nat) (t9f : Nat → PV) (t10 : Int) (out : List PV) (n_ n__1 n__2 n__3 n__4 n__5 n__6 n__7 : Int) : f29.l0c k t9n t9f t10 out n_ n__1 n__2 n__3 n__4 n__5 n__6 n__7 =
  if decide ((2 : Int) < t10) = true then
    if 2 < (t9n : Int) then
      if hasSh .str (t9f 2) = true then
        Option.bind (α := PV) (
          if decide (n__2 < 0) = true then
            some (.sc (.bool true))
          else
            some (.sc (.bool (decide (n__2 > 1000000000))))) fun r9 =>
        if r9.toBool = true then
          some (.sc (.string (⟨#[]⟩ : ByteArray)))
        else
          (D 15 [.sc (.int .i64 (IntKind.i64.wrap (n__2 * 10000)))]).bind fun r10 => if hasSh .str r10 = true then
          if (out.length + ([.sc (.string ((t9f 2).toStr)), .sc (.string r10.toStr)] : List PV).length) * 16 ≤ 140737488355328 ∧ out.length + ([.sc (.string ((t9f 2).toStr)), .sc (.string r10.toStr)] : List PV).length ≤ 140737488355328 then
            f29.l0d k t9n t9f t10 (out ++ ([.sc (.string ((t9f 2).toStr)), .sc (.string r10.toStr)] : List PV)) n_ n__1 n__2 n__3 n__4 n__5 n__6 n__7
          else none
          else none
      else none
    else none
  else
    (D 80 [frozen 1 out, .sc (.string (⟨#[32]⟩ : ByteArray))]).bind fun r11 => if hasSh .str r11 = true then
    some (.sc (.string r11.toStr))
    else none :=
  (loopAt_eq _ _ _ _).trans (by kernel_rfl)
theorem f29.l0d_eq (k : Nat) (t9n : Nat) (t9f : Nat → PV) (t10 : Int) (out : List PV) (n_ n__1 n__2 n__3 n__4 n__5 n__6 n__7 : Int) : f29.l0d k t9n t9f t10 out n_ n__1 n__2 n__3 n__4 n__5 n__6 n__7 =
  if decide ((3 : Int) < t10) = true then
    if 3 < (t9n : Int) then
      if hasSh .str (t9f 3) = true then
        Option.bind (α := PV) (
          if decide (n__3 < 0) = true then
            some (.sc (.bool true))
          else
            some (.sc (.bool (decide (n__3 > 1000000000))))) fun r12 =>
        if r12.toBool = true then
          some (.sc (.string (⟨#[]⟩ : ByteArray)))
        else
          (D 15 [.sc (.int .i64 (IntKind.i64.wrap (n__3 * 10000)))]).bind fun r13 => if hasSh .str r13 = true then
          if (out.length + ([.sc (.string ((t9f 3).toStr)), .sc (.string r13.toStr)] : List PV).length) * 16 ≤ 140737488355328 ∧ out.length + ([.sc (.string ((t9f 3).toStr)), .sc (.string r13.toStr)] : List PV).length ≤ 140737488355328 then
            f29.l0e k t9n t9f t10 (out ++ ([.sc (.string ((t9f 3).toStr)), .sc (.string r13.toStr)] : List PV)) n_ n__1 n__2 n__3 n__4 n__5 n__6 n__7
          else none
          else none
      else none
    else none
  else
    (D 80 [frozen 1 out, .sc (.string (⟨#[32]⟩ : ByteArray))]).bind fun r14 => if hasSh .str r14 = true then
    some (.sc (.string r14.toStr))
    else none :=
  (loopAt_eq _ _ _ _).trans (by kernel_rfl)
theorem f29.l0e_eq (k : Nat) (t9n : Nat) (t9f : Nat → PV) (t10 : Int) (out : List PV) (n_ n__1 n__2 n__3 n__4 n__5 n__6 n__7 : Int) : f29.l0e k t9n t9f t10 out n_ n__1 n__2 n__3 n__4 n__5 n__6 n__7 =
  if decide ((4 : Int) < t10) = true then
    if 4 < (t9n : Int) then
      if hasSh .str (t9f 4) = true then
        Option.bind (α := PV) (
          if decide (n__4 < 0) = true then
            some (.sc (.bool true))
          else
            some (.sc (.bool (decide (n__4 > 1000000000))))) fun r15 =>
        if r15.toBool = true then
          some (.sc (.string (⟨#[]⟩ : ByteArray)))
        else
          (D 15 [.sc (.int .i64 (IntKind.i64.wrap (n__4 * 10000)))]).bind fun r16 => if hasSh .str r16 = true then
          if (out.length + ([.sc (.string ((t9f 4).toStr)), .sc (.string r16.toStr)] : List PV).length) * 16 ≤ 140737488355328 ∧ out.length + ([.sc (.string ((t9f 4).toStr)), .sc (.string r16.toStr)] : List PV).length ≤ 140737488355328 then
            f29.l0f k t9n t9f t10 (out ++ ([.sc (.string ((t9f 4).toStr)), .sc (.string r16.toStr)] : List PV)) n_ n__1 n__2 n__3 n__4 n__5 n__6 n__7
          else none
          else none
      else none
    else none
  else
    (D 80 [frozen 1 out, .sc (.string (⟨#[32]⟩ : ByteArray))]).bind fun r17 => if hasSh .str r17 = true then
    some (.sc (.string r17.toStr))
    else none :=
  (loopAt_eq _ _ _ _).trans (by kernel_rfl)
theorem f29.l0f_eq (k : Nat) (t9n : Nat) (t9f : Nat → PV) (t10 : Int) (out : List PV) (n_ n__1 n__2 n__3 n__4 n__5 n__6 n__7 : Int) : f29.l0f k t9n t9f t10 out n_ n__1 n__2 n__3 n__4 n__5 n__6 n__7 =
  if decide ((5 : Int) < t10) = true then
    if 5 < (t9n : Int) then
      if hasSh .str (t9f 5) = true then
        Option.bind (α := PV) (
          if decide (n__5 < 0) = true then
            some (.sc (.bool true))
          else
            some (.sc (.bool (decide (n__5 > 1000000000))))) fun r18 =>
        if r18.toBool = true then
          some (.sc (.string (⟨#[]⟩ : ByteArray)))
        else
          (D 15 [.sc (.int .i64 (IntKind.i64.wrap (n__5 * 10000)))]).bind fun r19 => if hasSh .str r19 = true then
          if (out.length + ([.sc (.string ((t9f 5).toStr)), .sc (.string r19.toStr)] : List PV).length) * 16 ≤ 140737488355328 ∧ out.length + ([.sc (.string ((t9f 5).toStr)), .sc (.string r19.toStr)] : List PV).length ≤ 140737488355328 then
            f29.l0g k t9n t9f t10 (out ++ ([.sc (.string ((t9f 5).toStr)), .sc (.string r19.toStr)] : List PV)) n_ n__1 n__2 n__3 n__4 n__5 n__6 n__7
          else none
          else none
      else none
    else none
  else
    (D 80 [frozen 1 out, .sc (.string (⟨#[32]⟩ : ByteArray))]).bind fun r20 => if hasSh .str r20 = true then
    some (.sc (.string r20.toStr))
    else none :=
  (loopAt_eq _ _ _ _).trans (by kernel_rfl)
theorem f29.l0g_eq (k : Nat) (t9n : Nat) (t9f : Nat → PV) (t10 : Int) (out : List PV) (n_ n__1 n__2 n__3 n__4 n__5 n__6 n__7 : Int) : f29.l0g k t9n t9f t10 out n_ n__1 n__2 n__3 n__4 n__5 n__6 n__7 =
  if decide ((6 : Int) < t10) = true then
    if 6 < (t9n : Int) then
      if hasSh .str (t9f 6) = true then
        Option.bind (α := PV) (
          if decide (n__6 < 0) = true then
            some (.sc (.bool true))
          else
            some (.sc (.bool (decide (n__6 > 1000000000))))) fun r21 =>
        if r21.toBool = true then
          some (.sc (.string (⟨#[]⟩ : ByteArray)))
        else
          (D 15 [.sc (.int .i64 (IntKind.i64.wrap (n__6 * 10000)))]).bind fun r22 => if hasSh .str r22 = true then
          if (out.length + ([.sc (.string ((t9f 6).toStr)), .sc (.string r22.toStr)] : List PV).length) * 16 ≤ 140737488355328 ∧ out.length + ([.sc (.string ((t9f 6).toStr)), .sc (.string r22.toStr)] : List PV).length ≤ 140737488355328 then
            f29.l0h k t9n t9f t10 (out ++ ([.sc (.string ((t9f 6).toStr)), .sc (.string r22.toStr)] : List PV)) n_ n__1 n__2 n__3 n__4 n__5 n__6 n__7
          else none
          else none
      else none
    else none
  else
    (D 80 [frozen 1 out, .sc (.string (⟨#[32]⟩ : ByteArray))]).bind fun r23 => if hasSh .str r23 = true then
    some (.sc (.string r23.toStr))
    else none :=
  (loopAt_eq _ _ _ _).trans (by kernel_rfl)
theorem f29.l0h_eq (k : Nat) (t9n : Nat) (t9f : Nat → PV) (t10 : Int) (out : List PV) (n_ n__1 n__2 n__3 n__4 n__5 n__6 n__7 : Int) : f29.l0h k t9n t9f t10 out n_ n__1 n__2 n__3 n__4 n__5 n__6 n__7 =
  if decide ((7 : Int) < t10) = true then
    if 7 < (t9n : Int) then
      if hasSh .str (t9f 7) = true then
        Option.bind (α := PV) (
          if decide (n__7 < 0) = true then
            some (.sc (.bool true))
          else
            some (.sc (.bool (decide (n__7 > 1000000000))))) fun r24 =>
        if r24.toBool = true then
          some (.sc (.string (⟨#[]⟩ : ByteArray)))
        else
          (D 15 [.sc (.int .i64 (IntKind.i64.wrap (n__7 * 10000)))]).bind fun r25 => if hasSh .str r25 = true then
          if (out.length + ([.sc (.string ((t9f 7).toStr)), .sc (.string r25.toStr)] : List PV).length) * 16 ≤ 140737488355328 ∧ out.length + ([.sc (.string ((t9f 7).toStr)), .sc (.string r25.toStr)] : List PV).length ≤ 140737488355328 then
            f29.l0i k t9n t9f t10 (out ++ ([.sc (.string ((t9f 7).toStr)), .sc (.string r25.toStr)] : List PV)) n_ n__1 n__2 n__3 n__4 n__5 n__6 n__7
          else none
          else none
      else none
    else none
  else
    (D 80 [frozen 1 out, .sc (.string (⟨#[32]⟩ : ByteArray))]).bind fun r26 => if hasSh .str r26 = true then
    some (.sc (.string r26.toStr))
    else none :=
  (loopAt_eq _ _ _ _).trans (by kernel_rfl)
theorem f29.l0i_eq (k : Nat) (t9n : Nat) (t9f : Nat → PV) (t10 : Int) (out : List PV) (n_ n__1 n__2 n__3 n__4 n__5 n__6 n__7 : Int) : f29.l0i k t9n t9f t10 out n_ n__1 n__2 n__3 n__4 n__5 n__6 n__7 =
  if decide ((8 : Int) < t10) = true then
    if 8 < (t9n : Int) then
      if hasSh .str (t9f 8) = true then none else none
    else none
  else
    (D 80 [frozen 1 out, .sc (.string (⟨#[32]⟩ : ByteArray))]).bind fun r27 => if hasSh .str r27 = true then
    some (.sc (.string r27.toStr))
    else none :=
  (loopAt_eq _ _ _ _).trans (by kernel_rfl)
-- oculus/digits.Text
noncomputable def f15.j0a (k : Nat) (x_ : Int) (out : ByteArray) : Option PV := gateK k (placeAt Tryd.prog 6 ext hint k 15 [1, 1, 1, 1]) ⟨[.sc (.int .i64 x_), .top, .top, .sc (.string out), .top, .top, .top, .top, .top, .top, .top, .top, .top, .top, .top, .top, .top, .top, .top, .top, .top, .top, .top, .top, .top, .top, .top, .top, .top, .top, .top, .top, .top, .top, .top, .top, .top, .top], []⟩
theorem f15_eq (k : Nat) (x_ : Int) : D 15 [.sc (.int .i64 x_)] =
  (D 62 [.sc (.int .i64 x_)]).bind fun r1 => if hasSh .bool r1 = true then
  if (!r1.toBool) = true then
    some (.sc (.string (⟨#[]⟩ : ByteArray)))
  else
    (D 64 [.sc (.int .i64 x_)]).bind fun r2 => if hasSh (.int .i64) r2 = true then
    (D 63 [.sc (.int .i64 r2.toInt), .sc (.int .i64 10)]).bind fun r3 => if hasSh .str r3 = true then
    Option.bind (α := PV) (
      if decide (x_ < 0) = true then
        some (.sc (.bool (decide (x_ > (-10000)))))
      else
        some (.sc (.bool false))) fun r4 =>
    if r4.toBool = true then
      if 1 + r3.toStr.size ≤ 9223372036854775807 then
        f15.j0a k x_ ((⟨#[45]⟩ : ByteArray) ++ r3.toStr)
      else none
    else
      f15.j0a k x_ r3.toStr
    else none
    else none
  else none :=
  (denI_eq k _ _).trans (by kernel_rfl)
theorem f15.j0a_eq (k : Nat) (x_ : Int) (out : ByteArray) : f15.j0a k x_ out =
  if ((x_.tmod 10000) == 0) = true then
    some (.sc (.string out))
  else
    (D 63 [.sc (.int .i64 (IntKind.i64.wrap ((10000 : Int) + (if IntKind.i64.wrap (0 - (x_.tmod 10000)) > x_.tmod 10000 then IntKind.i64.wrap (0 - (x_.tmod 10000)) else x_.tmod 10000)))), .sc (.int .i64 10)]).bind fun r5 => if hasSh .str r5 = true then
    if 0 ≤ (r5.toStr.size : Int) then
      if (r5.toStr.size : Int) ≤ (r5.toStr.size : Int) then
        if 1 ≤ (r5.toStr.size : Int) then
          if out.size + 1 ≤ 9223372036854775807 then
            (D 65 [.sc (.string (r5.toStr.extract 1 (r5.toStr.size : Int).toNat)), .sc (.string (⟨#[48]⟩ : ByteArray))]).bind fun r6 => if hasSh .str r6 = true then
            if (out ++ (⟨#[46]⟩ : ByteArray)).size + r6.toStr.size ≤ 9223372036854775807 then
              some (.sc (.string ((out ++ (⟨#[46]⟩ : ByteArray)) ++ r6.toStr)))
            else none
            else none
          else none
        else none
      else none
    else none
    else none :=
  (gateK_open _ _ _).trans (by kernel_rfl)
-- oculus/dec.May
theorem f62_eq (k : Nat) (x_ : Int) : D 62 [.sc (.int .i64 x_)] =
  some (.sc (.bool (x_ != (-9223372036854775808)))) :=
  (denI_eq k _ _).trans (by kernel_rfl)
-- oculus/dec.Units
theorem f64_eq (k : Nat) (x_ : Int) : D 64 [.sc (.int .i64 x_)] =
  (D 62 [.sc (.int .i64 x_)]).bind fun r1 => if hasSh .bool r1 = true then
  if (!r1.toBool) = true then
    some (.sc (.int .i64 0))
  else
    some (.sc (.int .i64 (IntKind.i64.wrap (x_.tdiv 10000))))
  else none :=
  (denI_eq k _ _).trans (by kernel_rfl)
-- (oculus/stats.Stats).counts
theorem f78_eq (k : Nat) (s_ s__1 s__2 s__3 s__4 s__5 s__6 s__7 : Int) : D 78 [.agg [.sc (.int .i64 s_), .sc (.int .i64 s__1), .sc (.int .i64 s__2), .sc (.int .i64 s__3), .sc (.int .i64 s__4), .sc (.int .i64 s__5), .sc (.int .i64 s__6), .sc (.int .i64 s__7)]] =
  some (.agg [.sc (.int .i64 s_), .sc (.int .i64 s__1), .sc (.int .i64 s__2), .sc (.int .i64 s__3), .sc (.int .i64 s__4), .sc (.int .i64 s__5), .sc (.int .i64 s__6), .sc (.int .i64 s__7)]) :=
  (denI_eq k _ _).trans (by kernel_rfl)
end ES
end Go.Den
