import Derived.Test.YtcfhllbobapaiaaDoorEFh
import Derived.KernelRfl
set_option maxRecDepth 100000
set_option linter.unusedVariables false
namespace Go.Den
open Go Go.Proofs
namespace EF
-- oculus/fold.Numbers
noncomputable def f137.l0a (k : Nat) (t14n : Nat) (t14f : Nat → PV) (t15 t16 c0 c0_1 : Int) (c0_2 : ByteArray) : Option PV := loopAt Tryd.prog cf ext hint k 137 [1, 1, 1, 0, 1, 0] ⟨[.top, .top, .top, .ptr 0 0, .top, .nils, .top, .top, .top, .top, .top, .top, .top, .top, .lst 3 t14n t14f, .sc (.int .i64 t15), .sc (.int .i64 t16), .top, .top, .top, .top, .top, .top, .top, .top, .top, .top, .top, .top, .top, .top], [.cells 51 [.sc (.int .i64 c0), .sc (.int .i64 c0_1), .sc (.string c0_2)]], none⟩
noncomputable def f137.l0b (k : Nat) (t14n : Nat) (t14f : Nat → PV) (t15 t16 c0 c0_1 : Int) (c0_2 : ByteArray) (out : List PV) : Option PV := loopAt Tryd.prog cf ext hint k 137 [1, 1, 1, 0, 1, 0] ⟨[.top, .top, .top, .ptr 0 0, .top, .buf 1 0, .top, .top, .top, .top, .top, .top, .top, .top, .lst 3 t14n t14f, .sc (.int .i64 t15), .sc (.int .i64 t16), .top, .top, .top, .top, .top, .top, .top, .top, .top, .top, .top, .top, .top, .top], [.cells 51 [.sc (.int .i64 c0), .sc (.int .i64 c0_1), .sc (.string c0_2)], .buf 2 0 out], none⟩
theorem f137_eq (k : Nat) (ln : Nat) (lf : Nat → PV) : D 137 [.lst 3 ln lf] =
  (D 92 [.lst 3 ln lf]).bind fun r1 => if hasSh (.agg [(.int .i64), (.int .i64), .str]) r1 = true then
  if (((cel 0 r1.cells).toInt) == 4) = true then
    some (.tup [.lst 1 0 (fun _ => .top), .agg [.sc (.int .i64 ((cel 0 r1.cells).toInt)), .sc (.int .i64 ((cel 1 r1.cells).toInt)), .sc (.string ((cel 2 r1.cells).toStr))]])
  else
    f137.l0a k ln lf (ln : Int) 0 0 0 (⟨#[]⟩ : ByteArray)
  else none :=
  (denI_eq k _ _).trans (by kernel_rfl)
theorem f137.l0a_eq (k : Nat) (t14n : Nat) (t14f : Nat → PV) (t15 t16 c0 c0_1 : Int) (c0_2 : ByteArray) : f137.l0a k t14n t14f t15 t16 c0 c0_1 c0_2 =
  if decide (t16 < t15) = true then
    if 0 ≤ t16 then
      if t16 < (t14n : Int) then
        if hasSh (.agg [(.int .i64), (.int .i64), .str]) (t14f t16.toNat) = true then
          if (((cel 0 (t14f t16.toNat).cells).toInt) == 1) = true then
            if ([.sc (.int .i64 ((cel 1 (t14f t16.toNat).cells).toInt))] : List PV).length * 8 ≤ 140737488355328 ∧ ([.sc (.int .i64 ((cel 1 (t14f t16.toNat).cells).toInt))] : List PV).length ≤ 140737488355328 then
              f137.l0b k t14n t14f t15 (IntKind.i64.wrap (t16 + 1)) c0 c0_1 c0_2 ([.sc (.int .i64 ((cel 1 (t14f t16.toNat).cells).toInt))] : List PV)
            else none
          else
            f137.l0a k t14n t14f t15 (IntKind.i64.wrap (t16 + 1)) c0 c0_1 c0_2
        else none
      else none
    else none
  else
    some (.tup [.lst 1 0 (fun _ => .top), .agg [.sc (.int .i64 0), .sc (.int .i64 0), .sc (.string (⟨#[]⟩ : ByteArray))]]) :=
  (loopAt_eq _ _ _ _).trans (by kernel_rfl)
theorem f137.l0b_eq (k : Nat) (t14n : Nat) (t14f : Nat → PV) (t15 t16 c0 c0_1 : Int) (c0_2 : ByteArray) (out : List PV) : f137.l0b k t14n t14f t15 t16 c0 c0_1 c0_2 out =
  if decide (t16 < t15) = true then
    if 0 ≤ t16 then
      if t16 < (t14n : Int) then
        if hasSh (.agg [(.int .i64), (.int .i64), .str]) (t14f t16.toNat) = true then
          if (((cel 0 (t14f t16.toNat).cells).toInt) == 1) = true then
            if (out.length + ([.sc (.int .i64 ((cel 1 (t14f t16.toNat).cells).toInt))] : List PV).length) * 8 ≤ 140737488355328 ∧ out.length + ([.sc (.int .i64 ((cel 1 (t14f t16.toNat).cells).toInt))] : List PV).length ≤ 140737488355328 then
              f137.l0b k t14n t14f t15 (IntKind.i64.wrap (t16 + 1)) c0 c0_1 c0_2 (out ++ ([.sc (.int .i64 ((cel 1 (t14f t16.toNat).cells).toInt))] : List PV))
            else none
          else
            f137.l0b k t14n t14f t15 (IntKind.i64.wrap (t16 + 1)) c0 c0_1 c0_2 out
        else none
      else none
    else none
  else
    some (.tup [frozen 1 out, .agg [.sc (.int .i64 0), .sc (.int .i64 0), .sc (.string (⟨#[]⟩ : ByteArray))]]) :=
  (loopAt_eq _ _ _ _).trans (by kernel_rfl)
-- oculus/fold.fault
noncomputable def f92.l0a (k : Nat) (t5n : Nat) (t5f : Nat → PV) (t6 t7 c0 c0_1 : Int) (c0_2 : ByteArray) : Option PV := loopAt Tryd.prog cf ext hint k 92 [1, 0, 1, 0] ⟨[.top, .top, .ptr 0 0, .top, .top, .lst 3 t5n t5f, .sc (.int .i64 t6), .sc (.int .i64 t7), .top, .top, .top, .top, .top, .top, .top, .top, .top], [.cells 51 [.sc (.int .i64 c0), .sc (.int .i64 c0_1), .sc (.string c0_2)]], none⟩
theorem f92_eq (k : Nat) (ln : Nat) (lf : Nat → PV) : D 92 [.lst 3 ln lf] =
  f92.l0a k ln lf (ln : Int) 0 0 0 (⟨#[]⟩ : ByteArray) :=
  (denI_eq k _ _).trans (by kernel_rfl)
theorem f92.l0a_eq (k : Nat) (t5n : Nat) (t5f : Nat → PV) (t6 t7 c0 c0_1 : Int) (c0_2 : ByteArray) : f92.l0a k t5n t5f t6 t7 c0 c0_1 c0_2 =
  if decide (t7 < t6) = true then
    if 0 ≤ t7 then
      if t7 < (t5n : Int) then
        if hasSh (.agg [(.int .i64), (.int .i64), .str]) (t5f t7.toNat) = true then
          if (((cel 0 (t5f t7.toNat).cells).toInt) == 4) = true then
            some (.agg [.sc (.int .i64 ((cel 0 (t5f t7.toNat).cells).toInt)), .sc (.int .i64 ((cel 1 (t5f t7.toNat).cells).toInt)), .sc (.string ((cel 2 (t5f t7.toNat).cells).toStr))])
          else
            f92.l0a k t5n t5f t6 (IntKind.i64.wrap (t7 + 1)) c0 c0_1 c0_2
        else none
      else none
    else none
  else
    some (.agg [.sc (.int .i64 0), .sc (.int .i64 0), .sc (.string (⟨#[]⟩ : ByteArray))]) :=
  (loopAt_eq _ _ _ _).trans (by kernel_rfl)
-- oculus/dec.Scaled
noncomputable def f93.j0a (k : Nat) (a b c q : Int) : Option PV := gateK k (placeAt Tryd.prog cf ext hint k 93 [1, 1, 1, 1, 1, 1, 1]) ⟨[.sc (.int .i64 a), .sc (.int .i64 b), .sc (.int .i64 c), .top, .top, .top, .top, .top, .top, .top, .top, .sc (.int .u64 q), .top, .top, .top, .top, .top, .top, .top, .top, .top, .top, .top, .top, .top, .top, .top, .top, .top, .top, .top, .top, .top, .top, .top, .top, .top, .top, .top, .top, .top, .top, .top, .top, .top, .top, .top, .top, .top, .top, .top, .top, .top, .top, .top, .top, .top, .top, .top, .top, .top, .top, .top, .top, .top, .top, .top, .top, .top, .top, .top, .top, .top], [], none⟩
theorem f93_eq (k : Nat) (a b c : Int) : D 93 [.sc (.int .i64 a), .sc (.int .i64 b), .sc (.int .i64 c)] =
  (D 62 [.sc (.int .i64 a)]).bind fun r1 => if hasSh .bool r1 = true then
  Option.bind (α := PV) (
    if (!r1.toBool) = true then
      some (.sc (.bool true))
    else
      Option.bind (α := PV) (
        (D 62 [.sc (.int .i64 b)]).bind fun r2 => if hasSh .bool r2 = true then
        some (.sc (.bool (!r2.toBool)))
        else none) fun r3 =>
      some (.sc (.bool r3.toBool))) fun r4 =>
  Option.bind (α := PV) (
    if r4.toBool = true then
      some (.sc (.bool true))
    else
      Option.bind (α := PV) (
        (D 62 [.sc (.int .i64 c)]).bind fun r5 => if hasSh .bool r5 = true then
        some (.sc (.bool (!r5.toBool)))
        else none) fun r6 =>
      some (.sc (.bool r6.toBool))) fun r7 =>
  Option.bind (α := PV) (
    if r7.toBool = true then
      some (.sc (.bool true))
    else
      some (.sc (.bool (c == 0)))) fun r8 =>
  if r8.toBool = true then
    some (.tup [.sc (.int .i64 0), .sc (.bool false)])
  else
    (D 140 [.sc (.int .i64 c)]).bind fun r9 => if hasSh (.int .u64) r9 = true then
    (D 140 [.sc (.int .i64 a)]).bind fun r10 => if hasSh (.int .u64) r10 = true then
    (D 140 [.sc (.int .i64 b)]).bind fun r11 => if hasSh (.int .u64) r11 = true then
    (D 141 [.sc (.int .u64 r10.toInt), .sc (.int .u64 r11.toInt)]).bind fun r12 => if hasSh (.tup [(.int .u64), (.int .u64)]) r12 = true then
    if decide (((cel 0 r12.parts).toInt) ≥ r9.toInt) = true then
      some (.tup [.sc (.int .i64 0), .sc (.bool false)])
    else
      (D 142 [.sc (.int .u64 ((cel 0 r12.parts).toInt)), .sc (.int .u64 ((cel 1 r12.parts).toInt)), .sc (.int .u64 r9.toInt)]).bind fun r13 => if hasSh (.tup [(.int .u64), (.int .u64)]) r13 = true then
      if decide (((cel 1 r13.parts).toInt) ≥ (IntKind.u64.wrap (r9.toInt - ((cel 1 r13.parts).toInt)))) = true then
        f93.j0a k a b c (IntKind.u64.wrap (((cel 0 r13.parts).toInt) + 1))
      else
        f93.j0a k a b c ((cel 0 r13.parts).toInt)
      else none
    else none
    else none
    else none
    else none
  else none :=
  (denI_eq k _ _).trans (by kernel_rfl)
theorem f93.j0a_eq (k : Nat) (a b c q : Int) : f93.j0a k a b c q =
  if decide (q > 9223372036854775807) = true then
    some (.tup [.sc (.int .i64 0), .sc (.bool false)])
  else
    (D 143 [.sc (.int .i64 a)]).bind fun r14 => if hasSh (.int .i64) r14 = true then
    (D 143 [.sc (.int .i64 b)]).bind fun r15 => if hasSh (.int .i64) r15 = true then
    (D 143 [.sc (.int .i64 c)]).bind fun r16 => if hasSh (.int .i64) r16 = true then
    if decide ((IntKind.i64.wrap ((IntKind.i64.wrap (r14.toInt * r15.toInt)) * r16.toInt)) < 0) = true then
      some (.tup [.sc (.int .i64 (IntKind.i64.wrap (0 - (IntKind.i64.wrap (q))))), .sc (.bool true)])
    else
      some (.tup [.sc (.int .i64 (IntKind.i64.wrap (q))), .sc (.bool true)])
    else none
    else none
    else none :=
  (gateK_open _ _ _).trans (by kernel_rfl)
-- oculus/dec.size
theorem f140_eq (k : Nat) (x_ : Int) : D 140 [.sc (.int .i64 x_)] =
  if decide (x_ < 0) = true then
    some (.sc (.int .u64 (IntKind.u64.wrap (IntKind.i64.wrap (0 - x_)))))
  else
    some (.sc (.int .u64 (IntKind.u64.wrap (x_)))) :=
  (denI_eq k _ _).trans (by kernel_rfl)
-- math/bits.Mul64
theorem f141_eq (k : Nat) (x_ y : Int) : D 141 [.sc (.int .u64 x_), .sc (.int .u64 y)] =
  some (.tup [.sc (.int .u64 (IntKind.u64.wrap ((IntKind.u64.wrap ((IntKind.u64.wrap ((x_.fdiv 4294967296) * (y.fdiv 4294967296))) + ((IntKind.u64.wrap ((IntKind.u64.wrap ((x_.fdiv 4294967296) * (bits .and .u64 y 4294967295))) + ((IntKind.u64.wrap ((bits .and .u64 x_ 4294967295) * (bits .and .u64 y 4294967295))).fdiv 4294967296))).fdiv 4294967296))) + ((IntKind.u64.wrap ((bits .and .u64 (IntKind.u64.wrap ((IntKind.u64.wrap ((x_.fdiv 4294967296) * (bits .and .u64 y 4294967295))) + ((IntKind.u64.wrap ((bits .and .u64 x_ 4294967295) * (bits .and .u64 y 4294967295))).fdiv 4294967296))) 4294967295) + (IntKind.u64.wrap ((bits .and .u64 x_ 4294967295) * (y.fdiv 4294967296))))).fdiv 4294967296)))), .sc (.int .u64 (IntKind.u64.wrap (x_ * y)))]) :=
  (denI_eq k _ _).trans (by kernel_rfl)
-- math/bits.Div64
noncomputable def f142.j0a (k : Nat) (hi lo y : Int) : Option PV := gateK k (placeAt Tryd.prog cf ext hint k 142 [1, 1]) ⟨[.sc (.int .u64 hi), .sc (.int .u64 lo), .sc (.int .u64 y), .top, .top, .top, .top, .top, .top, .top, .top, .top, .top, .top, .top, .top, .top, .top, .top, .top, .top, .top, .top, .top, .top, .top, .top, .top, .top, .top, .top, .top, .top, .top, .top, .top, .top, .top, .top, .top, .top, .top, .top, .top, .top, .top, .top, .top, .top, .top, .top, .top, .top, .top, .top, .top, .top, .top, .top, .top, .top, .top, .top, .top, .top, .top, .top, .top, .top, .top, .top, .top, .top, .top, .top, .top, .top, .top, .top, .top, .top, .top, .top, .top, .top, .top, .top, .top, .top, .top, .top, .top, .top, .top, .top, .top, .top, .top, .top, .top, .top, .top, .top, .top, .top, .top, .top, .top, .top, .top, .top, .top, .top, .top, .top, .top, .top, .top, .top, .top, .top, .top, .top, .top, .top, .top, .top, .top, .top, .top, .top, .top, .top, .top, .top], [], none⟩
noncomputable def f142.j1a (k : Nat) (hi lo y : Int) : Option PV := gateK k (placeAt Tryd.prog cf ext hint k 142 [1, 1, 1]) ⟨[.sc (.int .u64 hi), .sc (.int .u64 lo), .sc (.int .u64 y), .top, .top, .top, .top, .top, .top, .top, .top, .top, .top, .top, .top, .top, .top, .top, .top, .top, .top, .top, .top, .top, .top, .top, .top, .top, .top, .top, .top, .top, .top, .top, .top, .top, .top, .top, .top, .top, .top, .top, .top, .top, .top, .top, .top, .top, .top, .top, .top, .top, .top, .top, .top, .top, .top, .top, .top, .top, .top, .top, .top, .top, .top, .top, .top, .top, .top, .top, .top, .top, .top, .top, .top, .top, .top, .top, .top, .top, .top, .top, .top, .top, .top, .top, .top, .top, .top, .top, .top, .top, .top, .top, .top, .top, .top, .top, .top, .top, .top, .top, .top, .top, .top, .top, .top, .top, .top, .top, .top, .top, .top, .top, .top, .top, .top, .top, .top, .top, .top, .top, .top, .top, .top, .top, .top, .top, .top, .top, .top, .top, .top, .top, .top], [], none⟩
noncomputable def f142.l2a (k : Nat) (y s_ yn1 yn0 un32 un1 un0 q1 rhat : Int) : Option PV := loopAt Tryd.prog cf ext hint k 142 [1, 1, 1, 1, 1, 1, 1, 1, 1, 1, 1, 1, 1, 1, 0, 0] ⟨[.top, .top, .sc (.int .u64 y), .top, .top, .top, .top, .top, .sc (.int .u64 s_), .sc (.int .u64 yn1), .sc (.int .u64 yn0), .sc (.int .u64 un32), .top, .sc (.int .u64 un1), .sc (.int .u64 un0), .sc (.int .u64 q1), .sc (.int .u64 rhat), .top, .top, .top, .top, .top, .top, .top, .top, .top, .top, .top, .top, .top, .top, .top, .top, .top, .top, .top, .top, .top, .top, .top, .top, .top, .top, .top, .top, .top, .top, .top, .top, .top, .top, .top, .top, .top, .top, .top, .top, .top, .top, .top, .top, .top, .top, .top, .top, .top, .top, .top, .top, .top, .top, .top, .top, .top, .top, .top, .top, .top, .top, .top, .top, .top, .top, .top, .top, .top, .top, .top, .top, .top, .top, .top, .top, .top, .top, .top, .top, .top, .top, .top, .top, .top, .top, .top, .top, .top, .top, .top, .top, .top, .top, .top, .top, .top, .top, .top, .top, .top, .top, .top, .top, .top, .top, .top, .top, .top, .top, .top, .top, .top, .top, .top, .top, .top, .top], [], none⟩
noncomputable def f142.j3a (k : Nat) (y s_ yn1 yn0 un32 un1 un0 q1 : Int) : Option PV := gateK k (placeAt Tryd.prog cf ext hint k 142 [1, 1, 1, 1, 1, 1, 1, 1, 1, 1, 1, 1, 1, 1, 1]) ⟨[.top, .top, .sc (.int .u64 y), .top, .top, .top, .top, .top, .sc (.int .u64 s_), .sc (.int .u64 yn1), .sc (.int .u64 yn0), .sc (.int .u64 un32), .top, .sc (.int .u64 un1), .sc (.int .u64 un0), .sc (.int .u64 q1), .top, .top, .top, .top, .top, .top, .top, .top, .top, .top, .top, .top, .top, .top, .top, .top, .top, .top, .top, .top, .top, .top, .top, .top, .top, .top, .top, .top, .top, .top, .top, .top, .top, .top, .top, .top, .top, .top, .top, .top, .top, .top, .top, .top, .top, .top, .top, .top, .top, .top, .top, .top, .top, .top, .top, .top, .top, .top, .top, .top, .top, .top, .top, .top, .top, .top, .top, .top, .top, .top, .top, .top, .top, .top, .top, .top, .top, .top, .top, .top, .top, .top, .top, .top, .top, .top, .top, .top, .top, .top, .top, .top, .top, .top, .top, .top, .top, .top, .top, .top, .top, .top, .top, .top, .top, .top, .top, .top, .top, .top, .top, .top, .top, .top, .top, .top, .top, .top, .top], [], none⟩
noncomputable def f142.l4a (k : Nat) (y s_ yn1 yn0 un0 q1 rhat un21 q0 : Int) : Option PV := loopAt Tryd.prog cf ext hint k 142 [1, 1, 1, 1, 1, 1, 1, 1, 1, 1, 1, 1, 1, 1, 1, 1, 1, 1, 0, 0] ⟨[.top, .top, .sc (.int .u64 y), .top, .top, .top, .top, .top, .sc (.int .u64 s_), .sc (.int .u64 yn1), .sc (.int .u64 yn0), .top, .top, .top, .sc (.int .u64 un0), .sc (.int .u64 q1), .sc (.int .u64 rhat), .sc (.int .u64 un21), .sc (.int .u64 q0), .top, .top, .top, .top, .top, .top, .top, .top, .top, .top, .top, .top, .top, .top, .top, .top, .top, .top, .top, .top, .top, .top, .top, .top, .top, .top, .top, .top, .top, .top, .top, .top, .top, .top, .top, .top, .top, .top, .top, .top, .top, .top, .top, .top, .top, .top, .top, .top, .top, .top, .top, .top, .top, .top, .top, .top, .top, .top, .top, .top, .top, .top, .top, .top, .top, .top, .top, .top, .top, .top, .top, .top, .top, .top, .top, .top, .top, .top, .top, .top, .top, .top, .top, .top, .top, .top, .top, .top, .top, .top, .top, .top, .top, .top, .top, .top, .top, .top, .top, .top, .top, .top, .top, .top, .top, .top, .top, .top, .top, .top, .top, .top, .top, .top, .top, .top], [], none⟩
noncomputable def f142.j5a (k : Nat) (y s_ un0 q1 un21 q0 : Int) : Option PV := gateK k (placeAt Tryd.prog cf ext hint k 142 [1, 1, 1, 1, 1, 1, 1, 1, 1, 1, 1, 1, 1, 1, 1, 1, 1, 1, 1]) ⟨[.top, .top, .sc (.int .u64 y), .top, .top, .top, .top, .top, .sc (.int .u64 s_), .top, .top, .top, .top, .top, .sc (.int .u64 un0), .sc (.int .u64 q1), .top, .sc (.int .u64 un21), .sc (.int .u64 q0), .top, .top, .top, .top, .top, .top, .top, .top, .top, .top, .top, .top, .top, .top, .top, .top, .top, .top, .top, .top, .top, .top, .top, .top, .top, .top, .top, .top, .top, .top, .top, .top, .top, .top, .top, .top, .top, .top, .top, .top, .top, .top, .top, .top, .top, .top, .top, .top, .top, .top, .top, .top, .top, .top, .top, .top, .top, .top, .top, .top, .top, .top, .top, .top, .top, .top, .top, .top, .top, .top, .top, .top, .top, .top, .top, .top, .top, .top, .top, .top, .top, .top, .top, .top, .top, .top, .top, .top, .top, .top, .top, .top, .top, .top, .top, .top, .top, .top, .top, .top, .top, .top, .top, .top, .top, .top, .top, .top, .top, .top, .top, .top, .top, .top, .top, .top], [], none⟩
theorem f142_eq (k : Nat) (hi lo y : Int) : D 142 [.sc (.int .u64 hi), .sc (.int .u64 lo), .sc (.int .u64 y)] =
  if (y == 0) = true then
    none
  else
    f142.j0a k hi lo y :=
  (denI_eq k _ _).trans (by kernel_rfl)
theorem f142.j0a_eq (k : Nat) (hi lo y : Int) : f142.j0a k hi lo y =
  if decide (y ≤ hi) = true then
    none
  else
    f142.j1a k hi lo y :=
  (gateK_open _ _ _).trans (by kernel_rfl)
theorem f142.j1a_eq (k : Nat) (hi lo y : Int) : f142.j1a k hi lo y =
  if (hi == 0) = true then
    if IntKind.u64 = IntKind.u64 ∧ y ≠ 0 then
      if IntKind.u64 = IntKind.u64 ∧ y ≠ 0 then
        some (.tup [.sc (.int .u64 (IntKind.u64.wrap (lo.tdiv y))), .sc (.int .u64 (lo.tmod y))])
      else none
    else none
  else
    (D 170 [.sc (.int .u64 y)]).bind fun r1 => if hasSh (.int .i64) r1 = true then
    if 0 ≤ IntKind.u64.wrap (r1.toInt) then
      if 0 ≤ IntKind.u64.wrap (r1.toInt) then
        if 0 ≤ IntKind.u64.wrap ((64 : Int) - (IntKind.u64.wrap (r1.toInt))) then
          if 0 ≤ IntKind.u64.wrap (r1.toInt) then
            if IntKind.u64 = IntKind.u64 ∧ (IntKind.u64.wrap (y * 2 ^ (min (IntKind.u64.wrap (r1.toInt)).toNat 64))).fdiv 4294967296 ≠ 0 then
              f142.l2a k (IntKind.u64.wrap (y * 2 ^ (min (IntKind.u64.wrap (r1.toInt)).toNat 64))) (IntKind.u64.wrap (r1.toInt)) ((IntKind.u64.wrap (y * 2 ^ (min (IntKind.u64.wrap (r1.toInt)).toNat 64))).fdiv 4294967296) (bits .and .u64 (IntKind.u64.wrap (y * 2 ^ (min (IntKind.u64.wrap (r1.toInt)).toNat 64))) 4294967295) (bits .or .u64 (IntKind.u64.wrap (hi * 2 ^ (min (IntKind.u64.wrap (r1.toInt)).toNat 64))) (lo.fdiv (2 ^ (min (IntKind.u64.wrap ((64 : Int) - (IntKind.u64.wrap (r1.toInt)))).toNat 64)))) ((IntKind.u64.wrap (lo * 2 ^ (min (IntKind.u64.wrap (r1.toInt)).toNat 64))).fdiv 4294967296) (bits .and .u64 (IntKind.u64.wrap (lo * 2 ^ (min (IntKind.u64.wrap (r1.toInt)).toNat 64))) 4294967295) (IntKind.u64.wrap ((bits .or .u64 (IntKind.u64.wrap (hi * 2 ^ (min (IntKind.u64.wrap (r1.toInt)).toNat 64))) (lo.fdiv (2 ^ (min (IntKind.u64.wrap ((64 : Int) - (IntKind.u64.wrap (r1.toInt)))).toNat 64)))).tdiv ((IntKind.u64.wrap (y * 2 ^ (min (IntKind.u64.wrap (r1.toInt)).toNat 64))).fdiv 4294967296))) (IntKind.u64.wrap ((bits .or .u64 (IntKind.u64.wrap (hi * 2 ^ (min (IntKind.u64.wrap (r1.toInt)).toNat 64))) (lo.fdiv (2 ^ (min (IntKind.u64.wrap ((64 : Int) - (IntKind.u64.wrap (r1.toInt)))).toNat 64)))) - (IntKind.u64.wrap ((IntKind.u64.wrap ((bits .or .u64 (IntKind.u64.wrap (hi * 2 ^ (min (IntKind.u64.wrap (r1.toInt)).toNat 64))) (lo.fdiv (2 ^ (min (IntKind.u64.wrap ((64 : Int) - (IntKind.u64.wrap (r1.toInt)))).toNat 64)))).tdiv ((IntKind.u64.wrap (y * 2 ^ (min (IntKind.u64.wrap (r1.toInt)).toNat 64))).fdiv 4294967296))) * ((IntKind.u64.wrap (y * 2 ^ (min (IntKind.u64.wrap (r1.toInt)).toNat 64))).fdiv 4294967296)))))
            else none
          else none
        else none
      else none
    else none
    else none :=
  (gateK_open _ _ _).trans (by kernel_rfl)
theorem f142.l2a_eq (k : Nat) (y s_ yn1 yn0 un32 un1 un0 q1 rhat : Int) : f142.l2a k y s_ yn1 yn0 un32 un1 un0 q1 rhat =
  Option.bind (α := PV) (
    if decide (q1 ≥ 4294967296) = true then
      some (.sc (.bool true))
    else
      some (.sc (.bool (decide ((IntKind.u64.wrap (q1 * yn0)) > (IntKind.u64.wrap ((IntKind.u64.wrap ((4294967296 : Int) * rhat)) + un1))))))) fun r2 =>
  if r2.toBool = true then
    if decide ((IntKind.u64.wrap (rhat + yn1)) ≥ 4294967296) = true then
      f142.j3a k y s_ yn1 yn0 un32 un1 un0 (IntKind.u64.wrap (q1 - 1))
    else
      f142.l2a k y s_ yn1 yn0 un32 un1 un0 (IntKind.u64.wrap (q1 - 1)) (IntKind.u64.wrap (rhat + yn1))
  else
    f142.j3a k y s_ yn1 yn0 un32 un1 un0 q1 :=
  (loopAt_eq _ _ _ _).trans (by kernel_rfl)
theorem f142.j3a_eq (k : Nat) (y s_ yn1 yn0 un32 un1 un0 q1 : Int) : f142.j3a k y s_ yn1 yn0 un32 un1 un0 q1 =
  if IntKind.u64 = IntKind.u64 ∧ yn1 ≠ 0 then
    f142.l4a k y s_ yn1 yn0 un0 q1 (IntKind.u64.wrap ((IntKind.u64.wrap ((IntKind.u64.wrap ((IntKind.u64.wrap (un32 * 4294967296)) + un1)) - (IntKind.u64.wrap (q1 * y)))) - (IntKind.u64.wrap ((IntKind.u64.wrap ((IntKind.u64.wrap ((IntKind.u64.wrap ((IntKind.u64.wrap (un32 * 4294967296)) + un1)) - (IntKind.u64.wrap (q1 * y)))).tdiv yn1)) * yn1)))) (IntKind.u64.wrap ((IntKind.u64.wrap ((IntKind.u64.wrap (un32 * 4294967296)) + un1)) - (IntKind.u64.wrap (q1 * y)))) (IntKind.u64.wrap ((IntKind.u64.wrap ((IntKind.u64.wrap ((IntKind.u64.wrap (un32 * 4294967296)) + un1)) - (IntKind.u64.wrap (q1 * y)))).tdiv yn1))
  else none :=
  (gateK_open _ _ _).trans (by kernel_rfl)
theorem f142.l4a_eq (k : Nat) (y s_ yn1 yn0 un0 q1 rhat un21 q0 : Int) : f142.l4a k y s_ yn1 yn0 un0 q1 rhat un21 q0 =
  Option.bind (α := PV) (
    if decide (q0 ≥ 4294967296) = true then
      some (.sc (.bool true))
    else
      some (.sc (.bool (decide ((IntKind.u64.wrap (q0 * yn0)) > (IntKind.u64.wrap ((IntKind.u64.wrap ((4294967296 : Int) * rhat)) + un0))))))) fun r3 =>
  if r3.toBool = true then
    if decide ((IntKind.u64.wrap (rhat + yn1)) ≥ 4294967296) = true then
      f142.j5a k y s_ un0 q1 un21 (IntKind.u64.wrap (q0 - 1))
    else
      f142.l4a k y s_ yn1 yn0 un0 q1 (IntKind.u64.wrap (rhat + yn1)) un21 (IntKind.u64.wrap (q0 - 1))
  else
    f142.j5a k y s_ un0 q1 un21 q0 :=
  (loopAt_eq _ _ _ _).trans (by kernel_rfl)
theorem f142.j5a_eq (k : Nat) (y s_ un0 q1 un21 q0 : Int) : f142.j5a k y s_ un0 q1 un21 q0 =
  if 0 ≤ s_ then
    some (.tup [.sc (.int .u64 (IntKind.u64.wrap ((IntKind.u64.wrap (q1 * 4294967296)) + q0))), .sc (.int .u64 ((IntKind.u64.wrap ((IntKind.u64.wrap ((IntKind.u64.wrap (un21 * 4294967296)) + un0)) - (IntKind.u64.wrap (q0 * y)))).fdiv (2 ^ (min s_.toNat 64))))])
  else none :=
  (gateK_open _ _ _).trans (by kernel_rfl)
-- math/bits.LeadingZeros64
theorem f170_eq (k : Nat) (x_ : Int) : D 170 [.sc (.int .u64 x_)] =
  (D 179 [.sc (.int .u64 x_)]).bind fun r1 => if hasSh (.int .i64) r1 = true then
  some (.sc (.int .i64 (IntKind.i64.wrap ((64 : Int) - r1.toInt))))
  else none :=
  (denI_eq k _ _).trans (by kernel_rfl)
-- math/bits.Len64
noncomputable def f179.j0a (k : Nat) (x_ n_ : Int) : Option PV := gateK k (placeAt Tryd.prog cf ext hint k 179 [1, 1]) ⟨[.sc (.int .u64 x_), .top, .sc (.int .i64 n_), .top, .top, .top, .top, .top, .top, .top, .top, .top, .top, .top, .top, .top, .top, .top, .top, .top, .top, .top, .top, .top, .top], [], none⟩
noncomputable def f179.j1a (k : Nat) (x_ n_ : Int) : Option PV := gateK k (placeAt Tryd.prog cf ext hint k 179 [1, 1, 1]) ⟨[.sc (.int .u64 x_), .top, .sc (.int .i64 n_), .top, .top, .top, .top, .top, .top, .top, .top, .top, .top, .top, .top, .top, .top, .top, .top, .top, .top, .top, .top, .top, .top], [], none⟩
theorem f179_eq (k : Nat) (x_ : Int) : D 179 [.sc (.int .u64 x_)] =
  if decide (x_ ≥ 4294967296) = true then
    f179.j0a k (x_.fdiv 4294967296) 32
  else
    f179.j0a k x_ 0 :=
  (denI_eq k _ _).trans (by kernel_rfl)
theorem f179.j0a_eq (k : Nat) (x_ n_ : Int) : f179.j0a k x_ n_ =
  if decide (x_ ≥ 65536) = true then
    f179.j1a k (x_.fdiv 65536) (IntKind.i64.wrap (n_ + 16))
  else
    f179.j1a k x_ n_ :=
  (gateK_open _ _ _).trans (by kernel_rfl)
theorem f179.j1a_eq (k : Nat) (x_ n_ : Int) : f179.j1a k x_ n_ =
  if decide (x_ ≥ 256) = true then
    if 0 ≤ IntKind.u8.wrap (x_.fdiv 256) then
      if IntKind.u8.wrap (x_.fdiv 256) < (256 : Int) then
        some (.sc (.int .i64 (IntKind.i64.wrap ((IntKind.i64.wrap (n_ + 8)) + (IntKind.i64.wrap (bt (⟨#[0, 1, 2, 2, 3, 3, 3, 3, 4, 4, 4, 4, 4, 4, 4, 4, 5, 5, 5, 5, 5, 5, 5, 5, 5, 5, 5, 5, 5, 5, 5, 5, 6, 6, 6, 6, 6, 6, 6, 6, 6, 6, 6, 6, 6, 6, 6, 6, 6, 6, 6, 6, 6, 6, 6, 6, 6, 6, 6, 6, 6, 6, 6, 6, 7, 7, 7, 7, 7, 7, 7, 7, 7, 7, 7, 7, 7, 7, 7, 7, 7, 7, 7, 7, 7, 7, 7, 7, 7, 7, 7, 7, 7, 7, 7, 7, 7, 7, 7, 7, 7, 7, 7, 7, 7, 7, 7, 7, 7, 7, 7, 7, 7, 7, 7, 7, 7, 7, 7, 7, 7, 7, 7, 7, 7, 7, 7, 7, 8, 8, 8, 8, 8, 8, 8, 8, 8, 8, 8, 8, 8, 8, 8, 8, 8, 8, 8, 8, 8, 8, 8, 8, 8, 8, 8, 8, 8, 8, 8, 8, 8, 8, 8, 8, 8, 8, 8, 8, 8, 8, 8, 8, 8, 8, 8, 8, 8, 8, 8, 8, 8, 8, 8, 8, 8, 8, 8, 8, 8, 8, 8, 8, 8, 8, 8, 8, 8, 8, 8, 8, 8, 8, 8, 8, 8, 8, 8, 8, 8, 8, 8, 8, 8, 8, 8, 8, 8, 8, 8, 8, 8, 8, 8, 8, 8, 8, 8, 8, 8, 8, 8, 8, 8, 8, 8, 8, 8, 8, 8, 8, 8, 8, 8, 8, 8, 8, 8, 8, 8, 8, 8, 8, 8, 8, 8, 8]⟩ : ByteArray) (IntKind.u8.wrap (x_.fdiv 256))))))))
      else none
    else none
  else
    if 0 ≤ IntKind.u8.wrap (x_) then
      if IntKind.u8.wrap (x_) < (256 : Int) then
        some (.sc (.int .i64 (IntKind.i64.wrap (n_ + (IntKind.i64.wrap (bt (⟨#[0, 1, 2, 2, 3, 3, 3, 3, 4, 4, 4, 4, 4, 4, 4, 4, 5, 5, 5, 5, 5, 5, 5, 5, 5, 5, 5, 5, 5, 5, 5, 5, 6, 6, 6, 6, 6, 6, 6, 6, 6, 6, 6, 6, 6, 6, 6, 6, 6, 6, 6, 6, 6, 6, 6, 6, 6, 6, 6, 6, 6, 6, 6, 6, 7, 7, 7, 7, 7, 7, 7, 7, 7, 7, 7, 7, 7, 7, 7, 7, 7, 7, 7, 7, 7, 7, 7, 7, 7, 7, 7, 7, 7, 7, 7, 7, 7, 7, 7, 7, 7, 7, 7, 7, 7, 7, 7, 7, 7, 7, 7, 7, 7, 7, 7, 7, 7, 7, 7, 7, 7, 7, 7, 7, 7, 7, 7, 7, 8, 8, 8, 8, 8, 8, 8, 8, 8, 8, 8, 8, 8, 8, 8, 8, 8, 8, 8, 8, 8, 8, 8, 8, 8, 8, 8, 8, 8, 8, 8, 8, 8, 8, 8, 8, 8, 8, 8, 8, 8, 8, 8, 8, 8, 8, 8, 8, 8, 8, 8, 8, 8, 8, 8, 8, 8, 8, 8, 8, 8, 8, 8, 8, 8, 8, 8, 8, 8, 8, 8, 8, 8, 8, 8, 8, 8, 8, 8, 8, 8, 8, 8, 8, 8, 8, 8, 8, 8, 8, 8, 8, 8, 8, 8, 8, 8, 8, 8, 8, 8, 8, 8, 8, 8, 8, 8, 8, 8, 8, 8, 8, 8, 8, 8, 8, 8, 8, 8, 8, 8, 8, 8, 8, 8, 8, 8, 8]⟩ : ByteArray) (IntKind.u8.wrap (x_))))))))
      else none
    else none :=
  (gateK_open _ _ _).trans (by kernel_rfl)
-- oculus/dec.Sign
theorem f143_eq (k : Nat) (x_ : Int) : D 143 [.sc (.int .i64 x_)] =
  if decide (x_ < 0) = true then
    some (.sc (.int .i64 (-1)))
  else
    if decide (x_ > 0) = true then
      some (.sc (.int .i64 1))
    else
      some (.sc (.int .i64 0)) :=
  (denI_eq k _ _).trans (by kernel_rfl)
-- oculus/value.Got
theorem f94_eq (k : Nat) (x_ : Int) (ok : Bool) : D 94 [.sc (.int .i64 x_), .sc (.bool ok)] =
  if (!ok) = true then
    (D 76 [.sc (.int .i64 4)]).bind fun r1 => if hasSh (.agg [(.int .i64), (.int .i64), .str]) r1 = true then
    some (.agg [.sc (.int .i64 ((cel 0 r1.cells).toInt)), .sc (.int .i64 ((cel 1 r1.cells).toInt)), .sc (.string ((cel 2 r1.cells).toStr))])
    else none
  else
    (D 75 [.sc (.int .i64 x_)]).bind fun r2 => if hasSh (.agg [(.int .i64), (.int .i64), .str]) r2 = true then
    some (.agg [.sc (.int .i64 ((cel 0 r2.cells).toInt)), .sc (.int .i64 ((cel 1 r2.cells).toInt)), .sc (.string ((cel 2 r2.cells).toStr))])
    else none :=
  (denI_eq k _ _).trans (by kernel_rfl)
-- oculus/fold.Concat
noncomputable def f43.l0a (k : Nat) (t15n : Nat) (t15f : Nat → PV) (t16 t17 c0 c0_1 : Int) (c0_2 : ByteArray) : Option PV := loopAt Tryd.prog cf ext hint k 43 [1, 1, 1, 0, 1, 0] ⟨[.top, .top, .ptr 0 0, .top, .nils, .top, .top, .top, .top, .top, .top, .top, .top, .top, .top, .lst 3 t15n t15f, .sc (.int .i64 t16), .sc (.int .i64 t17), .top, .top, .top, .top, .top, .top, .top, .top, .top, .top, .top, .top, .top, .top, .top, .top, .top, .top, .top, .top], [.cells 51 [.sc (.int .i64 c0), .sc (.int .i64 c0_1), .sc (.string c0_2)]], none⟩
noncomputable def f43.l0b (k : Nat) (t15n : Nat) (t15f : Nat → PV) (t16 t17 c0 c0_1 : Int) (c0_2 : ByteArray) (t : List PV) : Option PV := loopAt Tryd.prog cf ext hint k 43 [1, 1, 1, 0, 1, 0] ⟨[.top, .top, .ptr 0 0, .top, .buf 1 0, .top, .top, .top, .top, .top, .top, .top, .top, .top, .top, .lst 3 t15n t15f, .sc (.int .i64 t16), .sc (.int .i64 t17), .top, .top, .top, .top, .top, .top, .top, .top, .top, .top, .top, .top, .top, .top, .top, .top, .top, .top, .top, .top], [.cells 51 [.sc (.int .i64 c0), .sc (.int .i64 c0_1), .sc (.string c0_2)], .buf 9 0 t], none⟩
theorem f43_eq (k : Nat) (ln : Nat) (lf : Nat → PV) : D 43 [.lst 3 ln lf] =
  (D 92 [.lst 3 ln lf]).bind fun r1 => if hasSh (.agg [(.int .i64), (.int .i64), .str]) r1 = true then
  if (((cel 0 r1.cells).toInt) == 4) = true then
    some (.agg [.sc (.int .i64 ((cel 0 r1.cells).toInt)), .sc (.int .i64 ((cel 1 r1.cells).toInt)), .sc (.string ((cel 2 r1.cells).toStr))])
  else
    f43.l0a k ln lf (ln : Int) 0 0 0 (⟨#[]⟩ : ByteArray)
  else none :=
  (denI_eq k _ _).trans (by kernel_rfl)
theorem f43.l0a_eq (k : Nat) (t15n : Nat) (t15f : Nat → PV) (t16 t17 c0 c0_1 : Int) (c0_2 : ByteArray) : f43.l0a k t15n t15f t16 t17 c0 c0_1 c0_2 =
  if decide (t17 < t16) = true then
    if 0 ≤ t17 then
      if t17 < (t15n : Int) then
        if hasSh (.agg [(.int .i64), (.int .i64), .str]) (t15f t17.toNat) = true then
          (D 101 [.agg [.sc (.int .i64 ((cel 0 (t15f t17.toNat).cells).toInt)), .sc (.int .i64 ((cel 1 (t15f t17.toNat).cells).toInt)), .sc (.string ((cel 2 (t15f t17.toNat).cells).toStr))]]).bind fun r2 => if hasSh (.agg [(.int .i64), (.int .i64), .str]) r2 = true then
          if ([.sc (.string ((cel 2 r2.cells).toStr))] : List PV).length * 16 ≤ 140737488355328 ∧ ([.sc (.string ((cel 2 r2.cells).toStr))] : List PV).length ≤ 140737488355328 then
            f43.l0b k t15n t15f t16 (IntKind.i64.wrap (t17 + 1)) c0 c0_1 c0_2 ([.sc (.string ((cel 2 r2.cells).toStr))] : List PV)
          else none
          else none
        else none
      else none
    else none
  else
    (D 60 [.lst 1 0 (fun _ => .top)]).bind fun r3 => if hasSh (.tup [.str, .bool]) r3 = true then
    if (!((cel 1 r3.parts).toBool)) = true then
      (D 76 [.sc (.int .i64 2)]).bind fun r4 => if hasSh (.agg [(.int .i64), (.int .i64), .str]) r4 = true then
      some (.agg [.sc (.int .i64 ((cel 0 r4.cells).toInt)), .sc (.int .i64 ((cel 1 r4.cells).toInt)), .sc (.string ((cel 2 r4.cells).toStr))])
      else none
    else
      (D 83 [.sc (.string ((cel 0 r3.parts).toStr))]).bind fun r5 => if hasSh (.agg [(.int .i64), (.int .i64), .str]) r5 = true then
      some (.agg [.sc (.int .i64 ((cel 0 r5.cells).toInt)), .sc (.int .i64 ((cel 1 r5.cells).toInt)), .sc (.string ((cel 2 r5.cells).toStr))])
      else none
    else none :=
  (loopAt_eq _ _ _ _).trans (by kernel_rfl)
theorem f43.l0b_eq (k : Nat) (t15n : Nat) (t15f : Nat → PV) (t16 t17 c0 c0_1 : Int) (c0_2 : ByteArray) (t : List PV) : f43.l0b k t15n t15f t16 t17 c0 c0_1 c0_2 t =
  if decide (t17 < t16) = true then
    if 0 ≤ t17 then
      if t17 < (t15n : Int) then
        if hasSh (.agg [(.int .i64), (.int .i64), .str]) (t15f t17.toNat) = true then
          (D 101 [.agg [.sc (.int .i64 ((cel 0 (t15f t17.toNat).cells).toInt)), .sc (.int .i64 ((cel 1 (t15f t17.toNat).cells).toInt)), .sc (.string ((cel 2 (t15f t17.toNat).cells).toStr))]]).bind fun r6 => if hasSh (.agg [(.int .i64), (.int .i64), .str]) r6 = true then
          if (t.length + ([.sc (.string ((cel 2 r6.cells).toStr))] : List PV).length) * 16 ≤ 140737488355328 ∧ t.length + ([.sc (.string ((cel 2 r6.cells).toStr))] : List PV).length ≤ 140737488355328 then
            f43.l0b k t15n t15f t16 (IntKind.i64.wrap (t17 + 1)) c0 c0_1 c0_2 (t ++ ([.sc (.string ((cel 2 r6.cells).toStr))] : List PV))
          else none
          else none
        else none
      else none
    else none
  else
    (D 60 [frozen 1 t]).bind fun r7 => if hasSh (.tup [.str, .bool]) r7 = true then
    if (!((cel 1 r7.parts).toBool)) = true then
      (D 76 [.sc (.int .i64 2)]).bind fun r8 => if hasSh (.agg [(.int .i64), (.int .i64), .str]) r8 = true then
      some (.agg [.sc (.int .i64 ((cel 0 r8.cells).toInt)), .sc (.int .i64 ((cel 1 r8.cells).toInt)), .sc (.string ((cel 2 r8.cells).toStr))])
      else none
    else
      (D 83 [.sc (.string ((cel 0 r7.parts).toStr))]).bind fun r9 => if hasSh (.agg [(.int .i64), (.int .i64), .str]) r9 = true then
      some (.agg [.sc (.int .i64 ((cel 0 r9.cells).toInt)), .sc (.int .i64 ((cel 1 r9.cells).toInt)), .sc (.string ((cel 2 r9.cells).toStr))])
      else none
    else none :=
  (loopAt_eq _ _ _ _).trans (by kernel_rfl)
-- oculus/text.Join
noncomputable def f60.l0a (k : Nat) (t7n : Nat) (t7f : Nat → PV) (t8 t9 : Int) : Option PV := loopAt Tryd.prog cf ext hint k 60 [1, 1, 0, 1, 0] ⟨[.top, .top, .top, .top, .ptr 0 0, .top, .top, .lst 1 t7n t7f, .sc (.int .i64 t8), .sc (.int .i64 t9), .top, .top, .top, .top, .top, .top, .top, .top, .top, .top, .top, .top], [.cells 126 [.sc (.pointer none), .nils]], none⟩
noncomputable def f60.l0b (k : Nat) (t7n : Nat) (t7f : Nat → PV) (t8 t9 : Int) (xs1 : List PV) : Option PV := loopAt Tryd.prog cf ext hint k 60 [1, 1, 0, 1, 0] ⟨[.top, .top, .top, .top, .ptr 0 0, .top, .top, .lst 1 t7n t7f, .sc (.int .i64 t8), .sc (.int .i64 t9), .top, .top, .top, .top, .top, .top, .top, .top, .top, .top, .top, .top], [.cells 126 [.selfp 0, .buf 1 0], .buf 5 0 xs1], none⟩
theorem f60_eq (k : Nat) (ln : Nat) (lf : Nat → PV) : D 60 [.lst 1 ln lf] =
  f60.l0a k ln lf (ln : Int) 0 :=
  (denI_eq k _ _).trans (by kernel_rfl)
theorem f60.l0a_eq (k : Nat) (t7n : Nat) (t7f : Nat → PV) (t8 t9 : Int) : f60.l0a k t7n t7f t8 t9 =
  if decide (t9 < t8) = true then
    if 0 ≤ t9 then
      if t9 < (t7n : Int) then
        if hasSh .str (t7f t9.toNat) = true then
          (D 115 [.hp [.iptr (.ptr 126 0 :: [.selfp 0, .buf 1 0]), .tup (.ptr 5 0 :: ([] : List PV))], .ptr 0 0]).bind fun r1 => if (isHand r1 && (false || objsOk fo115 (handObjs r1)) && retOk Tryd.prog 6 [3] (handRet r1)) = true then
          if decide ((((t7f t9.toNat).toStr).size : Int) > (IntKind.i64.wrap ((256 : Int) - ((handRet r1).toInt)))) = true then
            some (.tup [.sc (.string (⟨#[]⟩ : ByteArray)), .sc (.bool false)])
          else
            (D 117 [.hp [.iptr (.ptr 126 0 :: [.selfp 0, .buf 1 0]), .tup (.ptr 5 0 :: (hBuf 1 r1))], .ptr 0 0, .sc (.string ((t7f t9.toNat).toStr))]).bind fun r2 => if (isHand r2 && (false || objsOk fo117 (handObjs r2)) && retOk Tryd.prog 6 [3, 130] (handRet r2)) = true then
            f60.l0b k t7n t7f t8 (IntKind.i64.wrap (t9 + 1)) (hBuf 1 r2)
            else none
          else none
        else none
      else none
    else none
  else
    (D 118 [.hp [.iptr (.ptr 126 0 :: [.selfp 0, .buf 1 0]), .tup (.ptr 5 0 :: ([] : List PV))], .ptr 0 0]).bind fun r3 => if (isHand r3 && (true || objsOk fo118 (handObjs r3)) && retOk Tryd.prog 6 [9] (handRet r3)) = true then
    some (.tup [.sc (.string ((handRet r3).toStr)), .sc (.bool true)])
    else none :=
  (loopAt_eq _ _ _ _).trans (by kernel_rfl)
theorem f60.l0b_eq (k : Nat) (t7n : Nat) (t7f : Nat → PV) (t8 t9 : Int) (xs1 : List PV) : f60.l0b k t7n t7f t8 t9 xs1 =
  if decide (t9 < t8) = true then
    if 0 ≤ t9 then
      if t9 < (t7n : Int) then
        if hasSh .str (t7f t9.toNat) = true then
          (D 115 [.hp [.iptr (.ptr 126 0 :: [.selfp 0, .buf 1 0]), .tup (.ptr 5 0 :: xs1)], .ptr 0 0]).bind fun r4 => if (isHand r4 && (false || objsOk fo115 (handObjs r4)) && retOk Tryd.prog 6 [3] (handRet r4)) = true then
          if decide ((((t7f t9.toNat).toStr).size : Int) > (IntKind.i64.wrap ((256 : Int) - ((handRet r4).toInt)))) = true then
            some (.tup [.sc (.string (⟨#[]⟩ : ByteArray)), .sc (.bool false)])
          else
            (D 117 [.hp [.iptr (.ptr 126 0 :: [.selfp 0, .buf 1 0]), .tup (.ptr 5 0 :: (hBuf 1 r4))], .ptr 0 0, .sc (.string ((t7f t9.toNat).toStr))]).bind fun r5 => if (isHand r5 && (false || objsOk fo117 (handObjs r5)) && retOk Tryd.prog 6 [3, 130] (handRet r5)) = true then
            f60.l0b k t7n t7f t8 (IntKind.i64.wrap (t9 + 1)) (hBuf 1 r5)
            else none
          else none
        else none
      else none
    else none
  else
    (D 118 [.hp [.iptr (.ptr 126 0 :: [.selfp 0, .buf 1 0]), .tup (.ptr 5 0 :: xs1)], .ptr 0 0]).bind fun r6 => if (isHand r6 && (true || objsOk fo118 (handObjs r6)) && retOk Tryd.prog 6 [9] (handRet r6)) = true then
    some (.tup [.sc (.string ((handRet r6).toStr)), .sc (.bool true)])
    else none :=
  (loopAt_eq _ _ _ _).trans (by kernel_rfl)
-- (*strings.Builder).Len
theorem f115h_eq (k : Nat) (buf : List PV) : D 115 [.hp [.iptr (.ptr 126 0 :: [.selfp 0, .buf 1 0]), .tup (.ptr 5 0 :: buf)], .ptr 0 0] =
  some (.tup [.hp [.iptr (.ptr 126 0 :: [.selfp 0, .buf 1 0]), .tup (.ptr 5 0 :: buf)], .sc (.int .i64 (buf.length : Int))]) :=
  (denI_eq k _ _).trans (by kernel_rfl)
-- (*strings.Builder).WriteString
theorem f117h_eq (k : Nat) (s_ : ByteArray) (buf : List PV) : D 117 [.hp [.iptr (.ptr 126 0 :: [.selfp 0, .buf 1 0]), .tup (.ptr 5 0 :: buf)], .ptr 0 0, .sc (.string s_)] =
  (D 157 [.hp [.iptr (.ptr 126 0 :: [.selfp 0, .buf 1 0]), .tup (.ptr 5 0 :: buf)], .ptr 0 0]).bind fun r1 => if (isHand r1 && (false || objsOk fo157 (handObjs r1)) && retOk Tryd.prog 6 [] (handRet r1)) = true then
  if ((hBuf 1 r1).length + (strB s_).length) * 1 ≤ 140737488355328 ∧ (hBuf 1 r1).length + (strB s_).length ≤ 140737488355328 then
    some (.tup [.hp [.iptr (.ptr 126 0 :: [.selfp 0, .buf 1 0]), .tup (.ptr 5 0 :: ((hBuf 1 r1) ++ (strB s_)))], .tup [.sc (.int .i64 (s_.size : Int)), .top]])
  else none
  else none :=
  (denI_eq k _ _).trans (by kernel_rfl)
-- oculus/value.Str
theorem f83_eq (k : Nat) (t : ByteArray) : D 83 [.sc (.string t)] =
  (D 132 [.agg [.sc (.int .i64 2), .sc (.int .i64 0), .sc (.string t)], .sc (.int .i64 2)]).bind fun r1 => if hasSh (.agg [(.int .i64), (.int .i64), .str]) r1 = true then
  some (.agg [.sc (.int .i64 ((cel 0 r1.cells).toInt)), .sc (.int .i64 ((cel 1 r1.cells).toInt)), .sc (.string ((cel 2 r1.cells).toStr))])
  else none :=
  (denI_eq k _ _).trans (by kernel_rfl)
-- oculus/value.AsText
theorem f101_eq (k : Nat) (v_ v__1 : Int) (v__2 : ByteArray) : D 101 [.agg [.sc (.int .i64 v_), .sc (.int .i64 v__1), .sc (.string v__2)]] =
  if (v_ == 0) = true then
    (D 83 [.sc (.string (⟨#[]⟩ : ByteArray))]).bind fun r1 => if hasSh (.agg [(.int .i64), (.int .i64), .str]) r1 = true then
    some (.agg [.sc (.int .i64 ((cel 0 r1.cells).toInt)), .sc (.int .i64 ((cel 1 r1.cells).toInt)), .sc (.string ((cel 2 r1.cells).toStr))])
    else none
  else
    if (v_ == 3) = true then
      (D 147 [.agg [.sc (.int .i64 v_), .sc (.int .i64 v__1), .sc (.string v__2)]]).bind fun r2 => if hasSh .str r2 = true then
      (D 83 [.sc (.string r2.toStr)]).bind fun r3 => if hasSh (.agg [(.int .i64), (.int .i64), .str]) r3 = true then
      some (.agg [.sc (.int .i64 ((cel 0 r3.cells).toInt)), .sc (.int .i64 ((cel 1 r3.cells).toInt)), .sc (.string ((cel 2 r3.cells).toStr))])
      else none
      else none
    else
      if (v_ == 1) = true then
        (D 15 [.sc (.int .i64 v__1)]).bind fun r4 => if hasSh .str r4 = true then
        (D 83 [.sc (.string r4.toStr)]).bind fun r5 => if hasSh (.agg [(.int .i64), (.int .i64), .str]) r5 = true then
        some (.agg [.sc (.int .i64 ((cel 0 r5.cells).toInt)), .sc (.int .i64 ((cel 1 r5.cells).toInt)), .sc (.string ((cel 2 r5.cells).toStr))])
        else none
        else none
      else
        some (.agg [.sc (.int .i64 v_), .sc (.int .i64 v__1), .sc (.string v__2)]) :=
  (denI_eq k _ _).trans (by kernel_rfl)
end EF
end Go.Den
