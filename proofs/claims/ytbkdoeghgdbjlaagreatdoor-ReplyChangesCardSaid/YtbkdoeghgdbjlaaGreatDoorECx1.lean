import Derived.Test.YtbkdoeghgdbjlaaGreatDoorECh
import Derived.KernelRfl
set_option maxRecDepth 100000
set_option linter.unusedVariables false
namespace Go.Den
open Go Go.Proofs
namespace EC
-- oculus/digits.Read
noncomputable def f62.l0a (k : Nat) (minus : Bool) (x_ y t53 t54 : Int) : Option PV := loopAt Tryz.prog cf ext hint k 62 [1, 1, 1, 1, 1, 1, 1, 0, 1, 0] ⟨[.top, .top, .top, .top, .top, .sc (.bool minus), .top, .top, .top, .sc (.int .i64 x_), .top, .sc (.int .i64 y), .top, .top, .top, .top, .top, .top, .top, .top, .top, .top, .top, .top, .top, .top, .top, .top, .top, .top, .top, .top, .top, .top, .top, .top, .top, .top, .top, .top, .top, .top, .top, .top, .top, .top, .top, .top, .top, .top, .top, .top, .top, .sc (.int .i64 t53), .sc (.int .i64 t54), .top, .top, .top, .top, .top, .top, .top, .top, .top, .top], [], none⟩
theorem f62_eq (k : Nat) (t : ByteArray) : D 62 [.sc (.string t)] =
  (D 84 [.sc (.string t), .sc (.string (⟨#[45]⟩ : ByteArray))]).bind fun r1 => if hasSh (.tup [.str, .bool]) r1 = true then
  if decide ((t.size : Int) > 40) = true then
    some (.tup [.sc (.int .i64 0), .sc (.bool false)])
  else
    (D 103 [.sc (.string ((cel 0 r1.parts).toStr)), .sc (.string (⟨#[46]⟩ : ByteArray))]).bind fun r2 => if hasSh (.tup [.str, .str, .bool]) r2 = true then
    (D 104 [.sc (.string ((cel 0 r2.parts).toStr))]).bind fun r3 => if hasSh (.tup [(.int .i64), .bool]) r3 = true then
    (D 104 [.sc (.string ((cel 1 r2.parts).toStr))]).bind fun r4 => if hasSh (.tup [(.int .i64), .bool]) r4 = true then
    Option.bind (α := PV) (
      if (!((cel 1 r3.parts).toBool)) = true then
        some (.sc (.bool true))
      else
        Option.bind (α := PV) (
          Option.bind (α := PV) (
            if (cel 2 r2.parts).toBool = true then
              Option.bind (α := PV) (
                Option.bind (α := PV) (
                  Option.bind (α := PV) (
                    if (!((cel 1 r4.parts).toBool)) = true then
                      some (.sc (.bool true))
                    else
                      some (.sc (.bool (decide ((((cel 1 r2.parts).toStr).size : Int) > 4))))) fun r5 =>
                  some (.sc (.bool r5.toBool))) fun r6 =>
                some (.sc (.bool r6.toBool))) fun r7 =>
              some (.sc (.bool r7.toBool))
            else
              some (.sc (.bool false))) fun r8 =>
          some (.sc (.bool r8.toBool))) fun r9 =>
        some (.sc (.bool r9.toBool))) fun r10 =>
    if r10.toBool = true then
      some (.tup [.sc (.int .i64 0), .sc (.bool false)])
    else
      f62.l0a k ((cel 1 r1.parts).toBool) ((cel 0 r3.parts).toInt) ((cel 0 r4.parts).toInt) (IntKind.i64.wrap ((4 : Int) - (((cel 1 r2.parts).toStr).size : Int))) 0
    else none
    else none
    else none
  else none :=
  (denI_eq k _ _).trans (by kernel_rfl)
theorem f62.l0a_eq (k : Nat) (minus : Bool) (x_ y t53 t54 : Int) : f62.l0a k minus x_ y t53 t54 =
  if decide (t54 < t53) = true then
    f62.l0a k minus x_ (IntKind.i64.wrap (y * 10)) t53 (IntKind.i64.wrap (t54 + 1))
  else
    (D 105 [.sc (.int .i64 x_), .sc (.int .i64 y), .sc (.bool minus)]).bind fun r11 => if hasSh (.tup [(.int .i64), .bool]) r11 = true then
    some (.tup [.sc (.int .i64 ((cel 0 r11.parts).toInt)), .sc (.bool ((cel 1 r11.parts).toBool))])
    else none :=
  (loopAt_eq _ _ _ _).trans (by kernel_rfl)
-- oculus/digits.number
noncomputable def f104.l0a (k : Nat) (t : ByteArray) (n_ t11 t12 : Int) : Option PV := loopAt Tryz.prog cf ext hint k 104 [1, 1, 0, 1, 0] ⟨[.sc (.string t), .top, .top, .top, .sc (.int .i64 n_), .top, .top, .top, .top, .top, .top, .sc (.int .i64 t11), .sc (.int .i64 t12), .top, .top, .top, .top, .top, .top, .top, .top, .top, .top, .top, .top, .top, .top, .top, .top, .top, .top, .top, .top, .top, .top, .top, .top, .top, .top, .top, .top, .top, .top, .top, .top, .top, .top, .top, .top, .top, .top], [], none⟩
theorem f104_eq (k : Nat) (t : ByteArray) : D 104 [.sc (.string t)] =
  f104.l0a k t 0 (t.size : Int) 0 :=
  (denI_eq k _ _).trans (by kernel_rfl)
theorem f104.l0a_eq (k : Nat) (t : ByteArray) (n_ t11 t12 : Int) : f104.l0a k t n_ t11 t12 =
  if decide (t12 < t11) = true then
    if 0 ≤ t12 then
      if t12 < (t.size : Int) then
        Option.bind (α := PV) (
          if decide ((bt t t12) < 48) = true then
            some (.sc (.bool true))
          else
            Option.bind (α := PV) (
              Option.bind (α := PV) (
                if 0 ≤ t12 then
                  if t12 < (t.size : Int) then
                    some (.sc (.bool (decide ((bt t t12) > 57))))
                  else none
                else none) fun r1 =>
              some (.sc (.bool r1.toBool))) fun r2 =>
            some (.sc (.bool r2.toBool))) fun r3 =>
        if r3.toBool = true then
          some (.tup [.sc (.int .i64 0), .sc (.bool false)])
        else
          (D 137 [.sc (.int .i64 n_), .sc (.int .i64 10), .sc (.int .i64 1)]).bind fun r4 => if hasSh (.tup [(.int .i64), .bool]) r4 = true then
          if 0 ≤ t12 then
            if t12 < (t.size : Int) then
              (D 138 [.sc (.int .i64 ((cel 0 r4.parts).toInt)), .sc (.int .i64 (IntKind.i64.wrap (IntKind.u8.wrap ((bt t t12) - 48))))]).bind fun r5 => if hasSh (.tup [(.int .i64), .bool]) r5 = true then
              Option.bind (α := PV) (
                if (!((cel 1 r4.parts).toBool)) = true then
                  some (.sc (.bool true))
                else
                  some (.sc (.bool (!((cel 1 r5.parts).toBool))))) fun r6 =>
              if r6.toBool = true then
                some (.tup [.sc (.int .i64 0), .sc (.bool false)])
              else
                f104.l0a k t ((cel 0 r5.parts).toInt) t11 (IntKind.i64.wrap (t12 + 1))
              else none
            else none
          else none
          else none
      else none
    else none
  else
    some (.tup [.sc (.int .i64 n_), .sc (.bool (!(t.toList == (⟨#[]⟩ : ByteArray).toList)))]) :=
  (loopAt_eq _ _ _ _).trans (by kernel_rfl)
-- oculus/dec.Scaled
noncomputable def f137.j0a (k : Nat) (a b c q : Int) : Option PV := gateK k (placeAt Tryz.prog cf ext hint k 137 [1, 1, 1, 1, 1, 1, 1]) ⟨[.sc (.int .i64 a), .sc (.int .i64 b), .sc (.int .i64 c), .top, .top, .top, .top, .top, .top, .top, .top, .sc (.int .u64 q), .top, .top, .top, .top, .top, .top, .top, .top, .top, .top, .top, .top, .top, .top, .top, .top, .top, .top, .top, .top, .top, .top, .top, .top, .top, .top, .top, .top, .top, .top, .top, .top, .top, .top, .top, .top, .top, .top, .top, .top, .top, .top, .top, .top, .top, .top, .top, .top, .top, .top, .top, .top, .top, .top, .top, .top, .top, .top, .top, .top, .top], [], none⟩
theorem f137_eq (k : Nat) (a b c : Int) : D 137 [.sc (.int .i64 a), .sc (.int .i64 b), .sc (.int .i64 c)] =
  (D 106 [.sc (.int .i64 a)]).bind fun r1 => if hasSh .bool r1 = true then
  Option.bind (α := PV) (
    if (!r1.toBool) = true then
      some (.sc (.bool true))
    else
      Option.bind (α := PV) (
        (D 106 [.sc (.int .i64 b)]).bind fun r2 => if hasSh .bool r2 = true then
        some (.sc (.bool (!r2.toBool)))
        else none) fun r3 =>
      some (.sc (.bool r3.toBool))) fun r4 =>
  Option.bind (α := PV) (
    if r4.toBool = true then
      some (.sc (.bool true))
    else
      Option.bind (α := PV) (
        (D 106 [.sc (.int .i64 c)]).bind fun r5 => if hasSh .bool r5 = true then
        some (.sc (.bool (!r5.toBool)))
        else none) fun r6 =>
      some (.sc (.bool r6.toBool))) fun r7 =>
  Option.bind (α := PV) (
    if r7.toBool = true then
      some (.sc (.bool true))
    else
      some (.sc (.bool (c == 0)))) fun r8 =>
  if r8.toBool = true then
    some (.tup [.sc (.int .i64 0), .sc (.bool false)])
  else
    (D 167 [.sc (.int .i64 c)]).bind fun r9 => if hasSh (.int .u64) r9 = true then
    (D 167 [.sc (.int .i64 a)]).bind fun r10 => if hasSh (.int .u64) r10 = true then
    (D 167 [.sc (.int .i64 b)]).bind fun r11 => if hasSh (.int .u64) r11 = true then
    (D 168 [.sc (.int .u64 r10.toInt), .sc (.int .u64 r11.toInt)]).bind fun r12 => if hasSh (.tup [(.int .u64), (.int .u64)]) r12 = true then
    if decide (((cel 0 r12.parts).toInt) ≥ r9.toInt) = true then
      some (.tup [.sc (.int .i64 0), .sc (.bool false)])
    else
      (D 169 [.sc (.int .u64 ((cel 0 r12.parts).toInt)), .sc (.int .u64 ((cel 1 r12.parts).toInt)), .sc (.int .u64 r9.toInt)]).bind fun r13 => if hasSh (.tup [(.int .u64), (.int .u64)]) r13 = true then
      if decide (((cel 1 r13.parts).toInt) ≥ (IntKind.u64.wrap (r9.toInt - ((cel 1 r13.parts).toInt)))) = true then
        f137.j0a k a b c (IntKind.u64.wrap (((cel 0 r13.parts).toInt) + 1))
      else
        f137.j0a k a b c ((cel 0 r13.parts).toInt)
      else none
    else none
    else none
    else none
    else none
  else none :=
  (denI_eq k _ _).trans (by kernel_rfl)
theorem f137.j0a_eq (k : Nat) (a b c q : Int) : f137.j0a k a b c q =
  if decide (q > 9223372036854775807) = true then
    some (.tup [.sc (.int .i64 0), .sc (.bool false)])
  else
    (D 101 [.sc (.int .i64 a)]).bind fun r14 => if hasSh (.int .i64) r14 = true then
    (D 101 [.sc (.int .i64 b)]).bind fun r15 => if hasSh (.int .i64) r15 = true then
    (D 101 [.sc (.int .i64 c)]).bind fun r16 => if hasSh (.int .i64) r16 = true then
    if decide ((IntKind.i64.wrap ((IntKind.i64.wrap (r14.toInt * r15.toInt)) * r16.toInt)) < 0) = true then
      some (.tup [.sc (.int .i64 (IntKind.i64.wrap (0 - (IntKind.i64.wrap (q))))), .sc (.bool true)])
    else
      some (.tup [.sc (.int .i64 (IntKind.i64.wrap (q))), .sc (.bool true)])
    else none
    else none
    else none :=
  (gateK_open _ _ _).trans (by kernel_rfl)
-- oculus/dec.Sign
theorem f101_eq (k : Nat) (x_ : Int) : D 101 [.sc (.int .i64 x_)] =
  if decide (x_ < 0) = true then
    some (.sc (.int .i64 (-1)))
  else
    if decide (x_ > 0) = true then
      some (.sc (.int .i64 1))
    else
      some (.sc (.int .i64 0)) :=
  (denI_eq k _ _).trans (by kernel_rfl)
-- oculus/dec.size
theorem f167_eq (k : Nat) (x_ : Int) : D 167 [.sc (.int .i64 x_)] =
  if decide (x_ < 0) = true then
    some (.sc (.int .u64 (IntKind.u64.wrap (IntKind.i64.wrap (0 - x_)))))
  else
    some (.sc (.int .u64 (IntKind.u64.wrap (x_)))) :=
  (denI_eq k _ _).trans (by kernel_rfl)
-- math/bits.Mul64
theorem f168_eq (k : Nat) (x_ y : Int) : D 168 [.sc (.int .u64 x_), .sc (.int .u64 y)] =
  some (.tup [.sc (.int .u64 (IntKind.u64.wrap ((IntKind.u64.wrap ((IntKind.u64.wrap ((x_.fdiv 4294967296) * (y.fdiv 4294967296))) + ((IntKind.u64.wrap ((IntKind.u64.wrap ((x_.fdiv 4294967296) * (bits .and .u64 y 4294967295))) + ((IntKind.u64.wrap ((bits .and .u64 x_ 4294967295) * (bits .and .u64 y 4294967295))).fdiv 4294967296))).fdiv 4294967296))) + ((IntKind.u64.wrap ((bits .and .u64 (IntKind.u64.wrap ((IntKind.u64.wrap ((x_.fdiv 4294967296) * (bits .and .u64 y 4294967295))) + ((IntKind.u64.wrap ((bits .and .u64 x_ 4294967295) * (bits .and .u64 y 4294967295))).fdiv 4294967296))) 4294967295) + (IntKind.u64.wrap ((bits .and .u64 x_ 4294967295) * (y.fdiv 4294967296))))).fdiv 4294967296)))), .sc (.int .u64 (IntKind.u64.wrap (x_ * y)))]) :=
  (denI_eq k _ _).trans (by kernel_rfl)
-- math/bits.Div64
noncomputable def f169.j0a (k : Nat) (hi lo y : Int) : Option PV := gateK k (placeAt Tryz.prog cf ext hint k 169 [1, 1]) ⟨[.sc (.int .u64 hi), .sc (.int .u64 lo), .sc (.int .u64 y), .top, .top, .top, .top, .top, .top, .top, .top, .top, .top, .top, .top, .top, .top, .top, .top, .top, .top, .top, .top, .top, .top, .top, .top, .top, .top, .top, .top, .top, .top, .top, .top, .top, .top, .top, .top, .top, .top, .top, .top, .top, .top, .top, .top, .top, .top, .top, .top, .top, .top, .top, .top, .top, .top, .top, .top, .top, .top, .top, .top, .top, .top, .top, .top, .top, .top, .top, .top, .top, .top, .top, .top, .top, .top, .top, .top, .top, .top, .top, .top, .top, .top, .top, .top, .top, .top, .top, .top, .top, .top, .top, .top, .top, .top, .top, .top, .top, .top, .top, .top, .top, .top, .top, .top, .top, .top, .top, .top, .top, .top, .top, .top, .top, .top, .top, .top, .top, .top, .top, .top, .top, .top, .top, .top, .top, .top, .top, .top, .top, .top, .top, .top], [], none⟩
noncomputable def f169.j1a (k : Nat) (hi lo y : Int) : Option PV := gateK k (placeAt Tryz.prog cf ext hint k 169 [1, 1, 1]) ⟨[.sc (.int .u64 hi), .sc (.int .u64 lo), .sc (.int .u64 y), .top, .top, .top, .top, .top, .top, .top, .top, .top, .top, .top, .top, .top, .top, .top, .top, .top, .top, .top, .top, .top, .top, .top, .top, .top, .top, .top, .top, .top, .top, .top, .top, .top, .top, .top, .top, .top, .top, .top, .top, .top, .top, .top, .top, .top, .top, .top, .top, .top, .top, .top, .top, .top, .top, .top, .top, .top, .top, .top, .top, .top, .top, .top, .top, .top, .top, .top, .top, .top, .top, .top, .top, .top, .top, .top, .top, .top, .top, .top, .top, .top, .top, .top, .top, .top, .top, .top, .top, .top, .top, .top, .top, .top, .top, .top, .top, .top, .top, .top, .top, .top, .top, .top, .top, .top, .top, .top, .top, .top, .top, .top, .top, .top, .top, .top, .top, .top, .top, .top, .top, .top, .top, .top, .top, .top, .top, .top, .top, .top, .top, .top, .top], [], none⟩
noncomputable def f169.l2a (k : Nat) (y s_ yn1 yn0 un32 un1 un0 q1 rhat : Int) : Option PV := loopAt Tryz.prog cf ext hint k 169 [1, 1, 1, 1, 1, 1, 1, 1, 1, 1, 1, 1, 1, 1, 0, 0] ⟨[.top, .top, .sc (.int .u64 y), .top, .top, .top, .top, .top, .sc (.int .u64 s_), .sc (.int .u64 yn1), .sc (.int .u64 yn0), .sc (.int .u64 un32), .top, .sc (.int .u64 un1), .sc (.int .u64 un0), .sc (.int .u64 q1), .sc (.int .u64 rhat), .top, .top, .top, .top, .top, .top, .top, .top, .top, .top, .top, .top, .top, .top, .top, .top, .top, .top, .top, .top, .top, .top, .top, .top, .top, .top, .top, .top, .top, .top, .top, .top, .top, .top, .top, .top, .top, .top, .top, .top, .top, .top, .top, .top, .top, .top, .top, .top, .top, .top, .top, .top, .top, .top, .top, .top, .top, .top, .top, .top, .top, .top, .top, .top, .top, .top, .top, .top, .top, .top, .top, .top, .top, .top, .top, .top, .top, .top, .top, .top, .top, .top, .top, .top, .top, .top, .top, .top, .top, .top, .top, .top, .top, .top, .top, .top, .top, .top, .top, .top, .top, .top, .top, .top, .top, .top, .top, .top, .top, .top, .top, .top, .top, .top, .top, .top, .top, .top], [], none⟩
noncomputable def f169.j3a (k : Nat) (y s_ yn1 yn0 un32 un1 un0 q1 : Int) : Option PV := gateK k (placeAt Tryz.prog cf ext hint k 169 [1, 1, 1, 1, 1, 1, 1, 1, 1, 1, 1, 1, 1, 1, 1]) ⟨[.top, .top, .sc (.int .u64 y), .top, .top, .top, .top, .top, .sc (.int .u64 s_), .sc (.int .u64 yn1), .sc (.int .u64 yn0), .sc (.int .u64 un32), .top, .sc (.int .u64 un1), .sc (.int .u64 un0), .sc (.int .u64 q1), .top, .top, .top, .top, .top, .top, .top, .top, .top, .top, .top, .top, .top, .top, .top, .top, .top, .top, .top, .top, .top, .top, .top, .top, .top, .top, .top, .top, .top, .top, .top, .top, .top, .top, .top, .top, .top, .top, .top, .top, .top, .top, .top, .top, .top, .top, .top, .top, .top, .top, .top, .top, .top, .top, .top, .top, .top, .top, .top, .top, .top, .top, .top, .top, .top, .top, .top, .top, .top, .top, .top, .top, .top, .top, .top, .top, .top, .top, .top, .top, .top, .top, .top, .top, .top, .top, .top, .top, .top, .top, .top, .top, .top, .top, .top, .top, .top, .top, .top, .top, .top, .top, .top, .top, .top, .top, .top, .top, .top, .top, .top, .top, .top, .top, .top, .top, .top, .top, .top], [], none⟩
noncomputable def f169.l4a (k : Nat) (y s_ yn1 yn0 un0 q1 rhat un21 q0 : Int) : Option PV := loopAt Tryz.prog cf ext hint k 169 [1, 1, 1, 1, 1, 1, 1, 1, 1, 1, 1, 1, 1, 1, 1, 1, 1, 1, 0, 0] ⟨[.top, .top, .sc (.int .u64 y), .top, .top, .top, .top, .top, .sc (.int .u64 s_), .sc (.int .u64 yn1), .sc (.int .u64 yn0), .top, .top, .top, .sc (.int .u64 un0), .sc (.int .u64 q1), .sc (.int .u64 rhat), .sc (.int .u64 un21), .sc (.int .u64 q0), .top, .top, .top, .top, .top, .top, .top, .top, .top, .top, .top, .top, .top, .top, .top, .top, .top, .top, .top, .top, .top, .top, .top, .top, .top, .top, .top, .top, .top, .top, .top, .top, .top, .top, .top, .top, .top, .top, .top, .top, .top, .top, .top, .top, .top, .top, .top, .top, .top, .top, .top, .top, .top, .top, .top, .top, .top, .top, .top, .top, .top, .top, .top, .top, .top, .top, .top, .top, .top, .top, .top, .top, .top, .top, .top, .top, .top, .top, .top, .top, .top, .top, .top, .top, .top, .top, .top, .top, .top, .top, .top, .top, .top, .top, .top, .top, .top, .top, .top, .top, .top, .top, .top, .top, .top, .top, .top, .top, .top, .top, .top, .top, .top, .top, .top, .top], [], none⟩
noncomputable def f169.j5a (k : Nat) (y s_ un0 q1 un21 q0 : Int) : Option PV := gateK k (placeAt Tryz.prog cf ext hint k 169 [1, 1, 1, 1, 1, 1, 1, 1, 1, 1, 1, 1, 1, 1, 1, 1, 1, 1, 1]) ⟨[.top, .top, .sc (.int .u64 y), .top, .top, .top, .top, .top, .sc (.int .u64 s_), .top, .top, .top, .top, .top, .sc (.int .u64 un0), .sc (.int .u64 q1), .top, .sc (.int .u64 un21), .sc (.int .u64 q0), .top, .top, .top, .top, .top, .top, .top, .top, .top, .top, .top, .top, .top, .top, .top, .top, .top, .top, .top, .top, .top, .top, .top, .top, .top, .top, .top, .top, .top, .top, .top, .top, .top, .top, .top, .top, .top, .top, .top, .top, .top, .top, .top, .top, .top, .top, .top, .top, .top, .top, .top, .top, .top, .top, .top, .top, .top, .top, .top, .top, .top, .top, .top, .top, .top, .top, .top, .top, .top, .top, .top, .top, .top, .top, .top, .top, .top, .top, .top, .top, .top, .top, .top, .top, .top, .top, .top, .top, .top, .top, .top, .top, .top, .top, .top, .top, .top, .top, .top, .top, .top, .top, .top, .top, .top, .top, .top, .top, .top, .top, .top, .top, .top, .top, .top, .top], [], none⟩
theorem f169_eq (k : Nat) (hi lo y : Int) : D 169 [.sc (.int .u64 hi), .sc (.int .u64 lo), .sc (.int .u64 y)] =
  if (y == 0) = true then
    none
  else
    f169.j0a k hi lo y :=
  (denI_eq k _ _).trans (by kernel_rfl)
theorem f169.j0a_eq (k : Nat) (hi lo y : Int) : f169.j0a k hi lo y =
  if decide (y ≤ hi) = true then
    none
  else
    f169.j1a k hi lo y :=
  (gateK_open _ _ _).trans (by kernel_rfl)
theorem f169.j1a_eq (k : Nat) (hi lo y : Int) : f169.j1a k hi lo y =
  if (hi == 0) = true then
    if IntKind.u64 = IntKind.u64 ∧ y ≠ 0 then
      if IntKind.u64 = IntKind.u64 ∧ y ≠ 0 then
        some (.tup [.sc (.int .u64 (IntKind.u64.wrap (lo.tdiv y))), .sc (.int .u64 (lo.tmod y))])
      else none
    else none
  else
    (D 191 [.sc (.int .u64 y)]).bind fun r1 => if hasSh (.int .i64) r1 = true then
    if 0 ≤ IntKind.u64.wrap (r1.toInt) then
      if 0 ≤ IntKind.u64.wrap (r1.toInt) then
        if 0 ≤ IntKind.u64.wrap ((64 : Int) - (IntKind.u64.wrap (r1.toInt))) then
          if 0 ≤ IntKind.u64.wrap (r1.toInt) then
            if IntKind.u64 = IntKind.u64 ∧ (IntKind.u64.wrap (y * 2 ^ (min (IntKind.u64.wrap (r1.toInt)).toNat 64))).fdiv 4294967296 ≠ 0 then
              f169.l2a k (IntKind.u64.wrap (y * 2 ^ (min (IntKind.u64.wrap (r1.toInt)).toNat 64))) (IntKind.u64.wrap (r1.toInt)) ((IntKind.u64.wrap (y * 2 ^ (min (IntKind.u64.wrap (r1.toInt)).toNat 64))).fdiv 4294967296) (bits .and .u64 (IntKind.u64.wrap (y * 2 ^ (min (IntKind.u64.wrap (r1.toInt)).toNat 64))) 4294967295) (bits .or .u64 (IntKind.u64.wrap (hi * 2 ^ (min (IntKind.u64.wrap (r1.toInt)).toNat 64))) (lo.fdiv (2 ^ (min (IntKind.u64.wrap ((64 : Int) - (IntKind.u64.wrap (r1.toInt)))).toNat 64)))) ((IntKind.u64.wrap (lo * 2 ^ (min (IntKind.u64.wrap (r1.toInt)).toNat 64))).fdiv 4294967296) (bits .and .u64 (IntKind.u64.wrap (lo * 2 ^ (min (IntKind.u64.wrap (r1.toInt)).toNat 64))) 4294967295) (IntKind.u64.wrap ((bits .or .u64 (IntKind.u64.wrap (hi * 2 ^ (min (IntKind.u64.wrap (r1.toInt)).toNat 64))) (lo.fdiv (2 ^ (min (IntKind.u64.wrap ((64 : Int) - (IntKind.u64.wrap (r1.toInt)))).toNat 64)))).tdiv ((IntKind.u64.wrap (y * 2 ^ (min (IntKind.u64.wrap (r1.toInt)).toNat 64))).fdiv 4294967296))) (IntKind.u64.wrap ((bits .or .u64 (IntKind.u64.wrap (hi * 2 ^ (min (IntKind.u64.wrap (r1.toInt)).toNat 64))) (lo.fdiv (2 ^ (min (IntKind.u64.wrap ((64 : Int) - (IntKind.u64.wrap (r1.toInt)))).toNat 64)))) - (IntKind.u64.wrap ((IntKind.u64.wrap ((bits .or .u64 (IntKind.u64.wrap (hi * 2 ^ (min (IntKind.u64.wrap (r1.toInt)).toNat 64))) (lo.fdiv (2 ^ (min (IntKind.u64.wrap ((64 : Int) - (IntKind.u64.wrap (r1.toInt)))).toNat 64)))).tdiv ((IntKind.u64.wrap (y * 2 ^ (min (IntKind.u64.wrap (r1.toInt)).toNat 64))).fdiv 4294967296))) * ((IntKind.u64.wrap (y * 2 ^ (min (IntKind.u64.wrap (r1.toInt)).toNat 64))).fdiv 4294967296)))))
            else none
          else none
        else none
      else none
    else none
    else none :=
  (gateK_open _ _ _).trans (by kernel_rfl)
theorem f169.l2a_eq (k : Nat) (y s_ yn1 yn0 un32 un1 un0 q1 rhat : Int) : f169.l2a k y s_ yn1 yn0 un32 un1 un0 q1 rhat =
  Option.bind (α := PV) (
    if decide (q1 ≥ 4294967296) = true then
      some (.sc (.bool true))
    else
      some (.sc (.bool (decide ((IntKind.u64.wrap (q1 * yn0)) > (IntKind.u64.wrap ((IntKind.u64.wrap ((4294967296 : Int) * rhat)) + un1))))))) fun r2 =>
  if r2.toBool = true then
    if decide ((IntKind.u64.wrap (rhat + yn1)) ≥ 4294967296) = true then
      f169.j3a k y s_ yn1 yn0 un32 un1 un0 (IntKind.u64.wrap (q1 - 1))
    else
      f169.l2a k y s_ yn1 yn0 un32 un1 un0 (IntKind.u64.wrap (q1 - 1)) (IntKind.u64.wrap (rhat + yn1))
  else
    f169.j3a k y s_ yn1 yn0 un32 un1 un0 q1 :=
  (loopAt_eq _ _ _ _).trans (by kernel_rfl)
theorem f169.j3a_eq (k : Nat) (y s_ yn1 yn0 un32 un1 un0 q1 : Int) : f169.j3a k y s_ yn1 yn0 un32 un1 un0 q1 =
  if IntKind.u64 = IntKind.u64 ∧ yn1 ≠ 0 then
    f169.l4a k y s_ yn1 yn0 un0 q1 (IntKind.u64.wrap ((IntKind.u64.wrap ((IntKind.u64.wrap ((IntKind.u64.wrap (un32 * 4294967296)) + un1)) - (IntKind.u64.wrap (q1 * y)))) - (IntKind.u64.wrap ((IntKind.u64.wrap ((IntKind.u64.wrap ((IntKind.u64.wrap ((IntKind.u64.wrap (un32 * 4294967296)) + un1)) - (IntKind.u64.wrap (q1 * y)))).tdiv yn1)) * yn1)))) (IntKind.u64.wrap ((IntKind.u64.wrap ((IntKind.u64.wrap (un32 * 4294967296)) + un1)) - (IntKind.u64.wrap (q1 * y)))) (IntKind.u64.wrap ((IntKind.u64.wrap ((IntKind.u64.wrap ((IntKind.u64.wrap (un32 * 4294967296)) + un1)) - (IntKind.u64.wrap (q1 * y)))).tdiv yn1))
  else none :=
  (gateK_open _ _ _).trans (by kernel_rfl)
theorem f169.l4a_eq (k : Nat) (y s_ yn1 yn0 un0 q1 rhat un21 q0 : Int) : f169.l4a k y s_ yn1 yn0 un0 q1 rhat un21 q0 =
  Option.bind (α := PV) (
    if decide (q0 ≥ 4294967296) = true then
      some (.sc (.bool true))
    else
      some (.sc (.bool (decide ((IntKind.u64.wrap (q0 * yn0)) > (IntKind.u64.wrap ((IntKind.u64.wrap ((4294967296 : Int) * rhat)) + un0))))))) fun r3 =>
  if r3.toBool = true then
    if decide ((IntKind.u64.wrap (rhat + yn1)) ≥ 4294967296) = true then
      f169.j5a k y s_ un0 q1 un21 (IntKind.u64.wrap (q0 - 1))
    else
      f169.l4a k y s_ yn1 yn0 un0 q1 (IntKind.u64.wrap (rhat + yn1)) un21 (IntKind.u64.wrap (q0 - 1))
  else
    f169.j5a k y s_ un0 q1 un21 q0 :=
  (loopAt_eq _ _ _ _).trans (by kernel_rfl)
theorem f169.j5a_eq (k : Nat) (y s_ un0 q1 un21 q0 : Int) : f169.j5a k y s_ un0 q1 un21 q0 =
  if 0 ≤ s_ then
    some (.tup [.sc (.int .u64 (IntKind.u64.wrap ((IntKind.u64.wrap (q1 * 4294967296)) + q0))), .sc (.int .u64 ((IntKind.u64.wrap ((IntKind.u64.wrap ((IntKind.u64.wrap (un21 * 4294967296)) + un0)) - (IntKind.u64.wrap (q0 * y)))).fdiv (2 ^ (min s_.toNat 64))))])
  else none :=
  (gateK_open _ _ _).trans (by kernel_rfl)
-- math/bits.LeadingZeros64
theorem f191_eq (k : Nat) (x_ : Int) : D 191 [.sc (.int .u64 x_)] =
  (D 193 [.sc (.int .u64 x_)]).bind fun r1 => if hasSh (.int .i64) r1 = true then
  some (.sc (.int .i64 (IntKind.i64.wrap ((64 : Int) - r1.toInt))))
  else none :=
  (denI_eq k _ _).trans (by kernel_rfl)
-- math/bits.Len64
noncomputable def f193.j0a (k : Nat) (x_ n_ : Int) : Option PV := gateK k (placeAt Tryz.prog cf ext hint k 193 [1, 1]) ⟨[.sc (.int .u64 x_), .top, .sc (.int .i64 n_), .top, .top, .top, .top, .top, .top, .top, .top, .top, .top, .top, .top, .top, .top, .top, .top, .top, .top, .top, .top, .top, .top], [], none⟩
noncomputable def f193.j1a (k : Nat) (x_ n_ : Int) : Option PV := gateK k (placeAt Tryz.prog cf ext hint k 193 [1, 1, 1]) ⟨[.sc (.int .u64 x_), .top, .sc (.int .i64 n_), .top, .top, .top, .top, .top, .top, .top, .top, .top, .top, .top, .top, .top, .top, .top, .top, .top, .top, .top, .top, .top, .top], [], none⟩
theorem f193_eq (k : Nat) (x_ : Int) : D 193 [.sc (.int .u64 x_)] =
  if decide (x_ ≥ 4294967296) = true then
    f193.j0a k (x_.fdiv 4294967296) 32
  else
    f193.j0a k x_ 0 :=
  (denI_eq k _ _).trans (by kernel_rfl)
theorem f193.j0a_eq (k : Nat) (x_ n_ : Int) : f193.j0a k x_ n_ =
  if decide (x_ ≥ 65536) = true then
    f193.j1a k (x_.fdiv 65536) (IntKind.i64.wrap (n_ + 16))
  else
    f193.j1a k x_ n_ :=
  (gateK_open _ _ _).trans (by kernel_rfl)
theorem f193.j1a_eq (k : Nat) (x_ n_ : Int) : f193.j1a k x_ n_ =
  if decide (x_ ≥ 256) = true then
    if 0 ≤ IntKind.u8.wrap (x_.fdiv 256) then
      if IntKind.u8.wrap (x_.fdiv 256) < (256 : Int) then
        some (.sc (.int .i64 (IntKind.i64.wrap ((IntKind.i64.wrap (n_ + 8)) + (IntKind.i64.wrap (bt (⟨#[0, 1, 2, 2, 3, 3, 3, 3, 4, 4, 4, 4, 4, 4, 4, 4, 5, 5, 5, 5, 5, 5, 5, 5, 5, 5, 5, 5, 5, 5, 5, 5, 6, 6, 6, 6, 6, 6, 6, 6, 6, 6, 6, 6, 6, 6, 6, 6, 6, 6, 6, 6, 6, 6, 6, 6, 6, 6, 6, 6, 6, 6, 6, 6, 7, 7, 7, 7, 7, 7, 7, 7, 7, 7, 7, 7, 7, 7, 7, 7, 7, 7, 7, 7, 7, 7, 7, 7, 7, 7, 7, 7, 7, 7, 7, 7, 7, 7, 7, 7, 7, 7, 7, 7, 7, 7, 7, 7, 7, 7, 7, 7, 7, 7, 7, 7, 7, 7, 7, 7, 7, 7, 7, 7, 7, 7, 7, 7, 8, 8, 8, 8, 8, 8, 8, 8, 8, 8, 8, 8, 8, 8, 8, 8, 8, 8, 8, 8, 8, 8, 8, 8, 8, 8, 8, 8, 8, 8, 8, 8, 8, 8, 8, 8, 8, 8, 8, 8, 8, 8, 8, 8, 8, 8, 8, 8, 8, 8, 8, 8, 8, 8, 8, 8, 8, 8, 8, 8, 8, 8, 8, 8, 8, 8, 8, 8, 8, 8, 8, 8, 8, 8, 8, 8, 8, 8, 8, 8, 8, 8, 8, 8, 8, 8, 8, 8, 8, 8, 8, 8, 8, 8, 8, 8, 8, 8, 8, 8, 8, 8, 8, 8, 8, 8, 8, 8, 8, 8, 8, 8, 8, 8, 8, 8, 8, 8, 8, 8, 8, 8, 8, 8, 8, 8, 8, 8]⟩ : ByteArray) (IntKind.u8.wrap (x_.fdiv 256))))))))
      else none
    else none
  else
    if 0 ≤ IntKind.u8.wrap (x_) then
      if IntKind.u8.wrap (x_) < (256 : Int) then
        some (.sc (.int .i64 (IntKind.i64.wrap (n_ + (IntKind.i64.wrap (bt (⟨#[0, 1, 2, 2, 3, 3, 3, 3, 4, 4, 4, 4, 4, 4, 4, 4, 5, 5, 5, 5, 5, 5, 5, 5, 5, 5, 5, 5, 5, 5, 5, 5, 6, 6, 6, 6, 6, 6, 6, 6, 6, 6, 6, 6, 6, 6, 6, 6, 6, 6, 6, 6, 6, 6, 6, 6, 6, 6, 6, 6, 6, 6, 6, 6, 7, 7, 7, 7, 7, 7, 7, 7, 7, 7, 7, 7, 7, 7, 7, 7, 7, 7, 7, 7, 7, 7, 7, 7, 7, 7, 7, 7, 7, 7, 7, 7, 7, 7, 7, 7, 7, 7, 7, 7, 7, 7, 7, 7, 7, 7, 7, 7, 7, 7, 7, 7, 7, 7, 7, 7, 7, 7, 7, 7, 7, 7, 7, 7, 8, 8, 8, 8, 8, 8, 8, 8, 8, 8, 8, 8, 8, 8, 8, 8, 8, 8, 8, 8, 8, 8, 8, 8, 8, 8, 8, 8, 8, 8, 8, 8, 8, 8, 8, 8, 8, 8, 8, 8, 8, 8, 8, 8, 8, 8, 8, 8, 8, 8, 8, 8, 8, 8, 8, 8, 8, 8, 8, 8, 8, 8, 8, 8, 8, 8, 8, 8, 8, 8, 8, 8, 8, 8, 8, 8, 8, 8, 8, 8, 8, 8, 8, 8, 8, 8, 8, 8, 8, 8, 8, 8, 8, 8, 8, 8, 8, 8, 8, 8, 8, 8, 8, 8, 8, 8, 8, 8, 8, 8, 8, 8, 8, 8, 8, 8, 8, 8, 8, 8, 8, 8, 8, 8, 8, 8, 8, 8]⟩ : ByteArray) (IntKind.u8.wrap (x_))))))))
      else none
    else none :=
  (gateK_open _ _ _).trans (by kernel_rfl)
-- oculus/dec.Add
theorem f138_eq (k : Nat) (a b : Int) : D 138 [.sc (.int .i64 a), .sc (.int .i64 b)] =
  (D 106 [.sc (.int .i64 a)]).bind fun r1 => if hasSh .bool r1 = true then
  Option.bind (α := PV) (
    if (!r1.toBool) = true then
      some (.sc (.bool true))
    else
      Option.bind (α := PV) (
        (D 106 [.sc (.int .i64 b)]).bind fun r2 => if hasSh .bool r2 = true then
        some (.sc (.bool (!r2.toBool)))
        else none) fun r3 =>
      some (.sc (.bool r3.toBool))) fun r4 =>
  Option.bind (α := PV) (
    if r4.toBool = true then
      some (.sc (.bool true))
    else
      Option.bind (α := PV) (
        (D 106 [.sc (.int .i64 (IntKind.i64.wrap (a + b)))]).bind fun r5 => if hasSh .bool r5 = true then
        some (.sc (.bool (!r5.toBool)))
        else none) fun r6 =>
      some (.sc (.bool r6.toBool))) fun r7 =>
  Option.bind (α := PV) (
    if r7.toBool = true then
      some (.sc (.bool true))
    else
      Option.bind (α := PV) (
        Option.bind (α := PV) (
          Option.bind (α := PV) (
            if decide (a > 0) = true then
              some (.sc (.bool (decide (b > 0))))
            else
              some (.sc (.bool false))) fun r8 =>
          Option.bind (α := PV) (
            Option.bind (α := PV) (
              if r8.toBool = true then
                some (.sc (.bool (decide ((IntKind.i64.wrap (a + b)) < 0))))
              else
                some (.sc (.bool false))) fun r9 =>
            some (.sc (.bool r9.toBool))) fun r10 =>
          some (.sc (.bool r10.toBool))) fun r11 =>
        some (.sc (.bool r11.toBool))) fun r12 =>
      some (.sc (.bool r12.toBool))) fun r13 =>
  Option.bind (α := PV) (
    if r13.toBool = true then
      some (.sc (.bool true))
    else
      Option.bind (α := PV) (
        Option.bind (α := PV) (
          Option.bind (α := PV) (
            if decide (a < 0) = true then
              some (.sc (.bool (decide (b < 0))))
            else
              some (.sc (.bool false))) fun r14 =>
          Option.bind (α := PV) (
            Option.bind (α := PV) (
              if r14.toBool = true then
                some (.sc (.bool (decide ((IntKind.i64.wrap (a + b)) ≥ 0))))
              else
                some (.sc (.bool false))) fun r15 =>
            some (.sc (.bool r15.toBool))) fun r16 =>
          some (.sc (.bool r16.toBool))) fun r17 =>
        some (.sc (.bool r17.toBool))) fun r18 =>
      some (.sc (.bool r18.toBool))) fun r19 =>
  if r19.toBool = true then
    some (.tup [.sc (.int .i64 0), .sc (.bool false)])
  else
    some (.tup [.sc (.int .i64 (IntKind.i64.wrap (a + b))), .sc (.bool true)])
  else none :=
  (denI_eq k _ _).trans (by kernel_rfl)
-- oculus/digits.put
theorem f105_eq (k : Nat) (x_ y : Int) (minus : Bool) : D 105 [.sc (.int .i64 x_), .sc (.int .i64 y), .sc (.bool minus)] =
  (D 139 [.sc (.int .i64 x_)]).bind fun r1 => if hasSh (.tup [(.int .i64), .bool]) r1 = true then
  (D 138 [.sc (.int .i64 ((cel 0 r1.parts).toInt)), .sc (.int .i64 y)]).bind fun r2 => if hasSh (.tup [(.int .i64), .bool]) r2 = true then
  Option.bind (α := PV) (
    if (!((cel 1 r1.parts).toBool)) = true then
      some (.sc (.bool true))
    else
      some (.sc (.bool (!((cel 1 r2.parts).toBool))))) fun r3 =>
  if r3.toBool = true then
    some (.tup [.sc (.int .i64 0), .sc (.bool false)])
  else
    if minus = true then
      (D 140 [.sc (.int .i64 ((cel 0 r2.parts).toInt))]).bind fun r4 => if hasSh (.tup [(.int .i64), .bool]) r4 = true then
      some (.tup [.sc (.int .i64 ((cel 0 r4.parts).toInt)), .sc (.bool ((cel 1 r4.parts).toBool))])
      else none
    else
      some (.tup [.sc (.int .i64 ((cel 0 r2.parts).toInt)), .sc (.bool true)])
  else none
  else none :=
  (denI_eq k _ _).trans (by kernel_rfl)
-- oculus/dec.Of
theorem f139_eq (k : Nat) (n_ : Int) : D 139 [.sc (.int .i64 n_)] =
  (D 137 [.sc (.int .i64 n_), .sc (.int .i64 10000), .sc (.int .i64 1)]).bind fun r1 => if hasSh (.tup [(.int .i64), .bool]) r1 = true then
  some (.tup [.sc (.int .i64 ((cel 0 r1.parts).toInt)), .sc (.bool ((cel 1 r1.parts).toBool))])
  else none :=
  (denI_eq k _ _).trans (by kernel_rfl)
-- oculus/dec.Neg
theorem f140_eq (k : Nat) (x_ : Int) : D 140 [.sc (.int .i64 x_)] =
  (D 106 [.sc (.int .i64 x_)]).bind fun r1 => if hasSh .bool r1 = true then
  if (!r1.toBool) = true then
    some (.tup [.sc (.int .i64 0), .sc (.bool false)])
  else
    some (.tup [.sc (.int .i64 (IntKind.i64.wrap (0 - x_))), .sc (.bool true)])
  else none :=
  (denI_eq k _ _).trans (by kernel_rfl)
-- oculus/value.Num
theorem f58_eq (k : Nat) (x_ : Int) : D 58 [.sc (.int .i64 x_)] =
  (D 99 [.agg [.sc (.int .i64 1), .sc (.int .i64 x_), .sc (.string (⟨#[]⟩ : ByteArray))], .sc (.int .i64 4)]).bind fun r1 => if hasSh (.agg [(.int .i64), (.int .i64), .str]) r1 = true then
  some (.agg [.sc (.int .i64 ((cel 0 r1.cells).toInt)), .sc (.int .i64 ((cel 1 r1.cells).toInt)), .sc (.string ((cel 2 r1.cells).toStr))])
  else none :=
  (denI_eq k _ _).trans (by kernel_rfl)
-- oculus/oculuslaw45.small
noncomputable def f22.l0a (k : Nat) (ln : Nat) (lf : Nat → PV) (t8 t9 : Int) : Option PV := loopAt Tryz.prog cf ext hint k 22 [1, 1, 0, 1, 0] ⟨[.lst 7 ln lf, .top, .top, .top, .top, .top, .top, .top, .sc (.int .i64 t8), .sc (.int .i64 t9), .top, .top, .top, .top, .top, .top, .top, .top, .top, .top, .top, .top, .top, .top, .top, .top, .top, .top, .top], [], none⟩
theorem f22_eq (k : Nat) (ln : Nat) (lf : Nat → PV) : D 22 [.lst 7 ln lf] =
  if decide ((ln : Int) > 100) = true then
    some (.sc (.bool false))
  else
    f22.l0a k ln lf (ln : Int) 0 :=
  (denI_eq k _ _).trans (by kernel_rfl)
theorem f22.l0a_eq (k : Nat) (ln : Nat) (lf : Nat → PV) (t8 t9 : Int) : f22.l0a k ln lf t8 t9 =
  if decide (t9 < t8) = true then
    if 0 ≤ t9 then
      if t9 < (ln : Int) then
        if hasSh (.agg [(.int .i64), (.int .i64), .str, .bool, (.int .i64), (.int .i64), .str]) (lf t9.toNat) = true then
          (D 9 [.agg [.sc (.int .i64 ((cel 4 (lf t9.toNat).cells).toInt)), .sc (.int .i64 ((cel 5 (lf t9.toNat).cells).toInt)), .sc (.string ((cel 6 (lf t9.toNat).cells).toStr))]]).bind fun r1 => if hasSh .bool r1 = true then
          Option.bind (α := PV) (
            if (!r1.toBool) = true then
              some (.sc (.bool true))
            else
              Option.bind (α := PV) (
                Option.bind (α := PV) (
                  if 0 ≤ t9 then
                    if t9 < (ln : Int) then
                      if hasSh (.agg [(.int .i64), (.int .i64), .str, .bool, (.int .i64), (.int .i64), .str]) (lf t9.toNat) = true then
                        some (.sc (.bool (decide ((((cel 2 (lf t9.toNat).cells).toStr).size : Int) > 300))))
                      else none
                    else none
                  else none) fun r2 =>
                some (.sc (.bool r2.toBool))) fun r3 =>
              some (.sc (.bool r3.toBool))) fun r4 =>
          if r4.toBool = true then
            some (.sc (.bool false))
          else
            f22.l0a k ln lf t8 (IntKind.i64.wrap (t9 + 1))
          else none
        else none
      else none
    else none
  else
    some (.sc (.bool true)) :=
  (loopAt_eq _ _ _ _).trans (by kernel_rfl)
-- oculus/oculusref12.May
theorem f9_eq (k : Nat) (v_ v__1 : Int) (v__2 : ByteArray) : D 9 [.agg [.sc (.int .i64 v_), .sc (.int .i64 v__1), .sc (.string v__2)]] =
  Option.bind (α := PV) (
    if (v_ == 0) = true then
      some (.sc (.bool (v__2.toList == (⟨#[]⟩ : ByteArray).toList)))
    else
      some (.sc (.bool false))) fun r1 =>
  Option.bind (α := PV) (
    if r1.toBool = true then
      some (.sc (.bool (v__1 == 0)))
    else
      some (.sc (.bool false))) fun r2 =>
  Option.bind (α := PV) (
    if r2.toBool = true then
      some (.sc (.bool true))
    else
      Option.bind (α := PV) (
        Option.bind (α := PV) (
          Option.bind (α := PV) (
            Option.bind (α := PV) (
              if (v_ == 1) = true then
                some (.sc (.bool (v__2.toList == (⟨#[]⟩ : ByteArray).toList)))
              else
                some (.sc (.bool false))) fun r3 =>
            Option.bind (α := PV) (
              Option.bind (α := PV) (
                if r3.toBool = true then
                  Option.bind (α := PV) (
                    Option.bind (α := PV) (
                      (D 56 [.sc (.int .i64 v__1)]).bind fun r4 => if hasSh .bool r4 = true then
                      some (.sc (.bool r4.toBool))
                      else none) fun r5 =>
                    some (.sc (.bool r5.toBool))) fun r6 =>
                  some (.sc (.bool r6.toBool))
                else
                  some (.sc (.bool false))) fun r7 =>
              some (.sc (.bool r7.toBool))) fun r8 =>
            some (.sc (.bool r8.toBool))) fun r9 =>
          some (.sc (.bool r9.toBool))) fun r10 =>
        some (.sc (.bool r10.toBool))) fun r11 =>
      some (.sc (.bool r11.toBool))) fun r12 =>
  Option.bind (α := PV) (
    if r12.toBool = true then
      some (.sc (.bool true))
    else
      Option.bind (α := PV) (
        Option.bind (α := PV) (
          Option.bind (α := PV) (
            Option.bind (α := PV) (
              if (v_ == 2) = true then
                some (.sc (.bool (v__1 == 0)))
              else
                some (.sc (.bool false))) fun r13 =>
            Option.bind (α := PV) (
              Option.bind (α := PV) (
                if r13.toBool = true then
                  some (.sc (.bool (decide ((v__2.size : Int) ≤ 256))))
                else
                  some (.sc (.bool false))) fun r14 =>
              some (.sc (.bool r14.toBool))) fun r15 =>
            some (.sc (.bool r15.toBool))) fun r16 =>
          some (.sc (.bool r16.toBool))) fun r17 =>
        some (.sc (.bool r17.toBool))) fun r18 =>
      some (.sc (.bool r18.toBool))) fun r19 =>
  Option.bind (α := PV) (
    if r19.toBool = true then
      some (.sc (.bool true))
    else
      Option.bind (α := PV) (
        Option.bind (α := PV) (
          Option.bind (α := PV) (
            Option.bind (α := PV) (
              if (v_ == 3) = true then
                some (.sc (.bool (v__2.toList == (⟨#[]⟩ : ByteArray).toList)))
              else
                some (.sc (.bool false))) fun r20 =>
            Option.bind (α := PV) (
              Option.bind (α := PV) (
                if r20.toBool = true then
                  Option.bind (α := PV) (
                    Option.bind (α := PV) (
                      Option.bind (α := PV) (
                        Option.bind (α := PV) (
                          if (v__1 == 0) = true then
                            some (.sc (.bool true))
                          else
                            some (.sc (.bool (v__1 == 1)))) fun r21 =>
                        some (.sc (.bool r21.toBool))) fun r22 =>
                      some (.sc (.bool r22.toBool))) fun r23 =>
                    some (.sc (.bool r23.toBool))) fun r24 =>
                  some (.sc (.bool r24.toBool))
                else
                  some (.sc (.bool false))) fun r25 =>
              some (.sc (.bool r25.toBool))) fun r26 =>
            some (.sc (.bool r26.toBool))) fun r27 =>
          some (.sc (.bool r27.toBool))) fun r28 =>
        some (.sc (.bool r28.toBool))) fun r29 =>
      some (.sc (.bool r29.toBool))) fun r30 =>
  Option.bind (α := PV) (
    if r30.toBool = true then
      some (.sc (.bool true))
    else
      Option.bind (α := PV) (
        Option.bind (α := PV) (
          Option.bind (α := PV) (
            Option.bind (α := PV) (
              if (v_ == 4) = true then
                some (.sc (.bool (v__2.toList == (⟨#[]⟩ : ByteArray).toList)))
              else
                some (.sc (.bool false))) fun r31 =>
            Option.bind (α := PV) (
              Option.bind (α := PV) (
                if r31.toBool = true then
                  some (.sc (.bool (decide (v__1 ≥ 1))))
                else
                  some (.sc (.bool false))) fun r32 =>
              Option.bind (α := PV) (
                Option.bind (α := PV) (
                  if r32.toBool = true then
                    some (.sc (.bool (decide (v__1 ≤ 7))))
                  else
                    some (.sc (.bool false))) fun r33 =>
                some (.sc (.bool r33.toBool))) fun r34 =>
              some (.sc (.bool r34.toBool))) fun r35 =>
            some (.sc (.bool r35.toBool))) fun r36 =>
          some (.sc (.bool r36.toBool))) fun r37 =>
        some (.sc (.bool r37.toBool))) fun r38 =>
      some (.sc (.bool r38.toBool))) fun r39 =>
  some (.sc (.bool r39.toBool)) :=
  (denI_eq k _ _).trans (by kernel_rfl)
-- oculus/oculusref08.May
theorem f56_eq (k : Nat) (x_ : Int) : D 56 [.sc (.int .i64 x_)] =
  some (.sc (.bool (decide (x_ ≥ (-9223372036854775807))))) :=
  (denI_eq k _ _).trans (by kernel_rfl)
end EC
end Go.Den
