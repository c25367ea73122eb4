import Derived.Test.YtbkdoeghgdbjlaaDoorEMh
import Derived.KernelRfl
set_option maxRecDepth 100000
set_option linter.unusedVariables false
namespace Go.Den
open Go Go.Proofs
namespace EM
-- oculus/digits.number
noncomputable def f59.l0a (k : Nat) (t : ByteArray) (n_ t11 t12 : Int) : Option PV := loopAt Tryd.prog cf ext hint k 59 [1, 1, 0, 1, 0] ⟨[.sc (.string t), .top, .top, .top, .sc (.int .i64 n_), .top, .top, .top, .top, .top, .top, .sc (.int .i64 t11), .sc (.int .i64 t12), .top, .top, .top, .top, .top, .top, .top, .top, .top, .top, .top, .top, .top, .top, .top, .top, .top, .top, .top, .top, .top, .top, .top, .top, .top, .top, .top, .top, .top, .top, .top, .top, .top, .top, .top, .top, .top, .top], [], none⟩
theorem f59_eq (k : Nat) (t : ByteArray) : D 59 [.sc (.string t)] =
  f59.l0a k t 0 (t.size : Int) 0 :=
  (denI_eq k _ _).trans (by kernel_rfl)
theorem f59.l0a_eq (k : Nat) (t : ByteArray) (n_ t11 t12 : Int) : f59.l0a k t n_ t11 t12 =
  if decide (t12 < t11) = true then
    if 0 ≤ t12 then
      if t12 < (t.size : Int) then
        Option.bind (α := PV) (
          if decide ((bt t t12) < 48) = true then
            some (.sc (.bool true))
          else
            Option.bind (α := PV) (
              Option.bind (α := PV) (
                if 0 ≤ t12 then
                  if t12 < (t.size : Int) then
                    some (.sc (.bool (decide ((bt t t12) > 57))))
                  else none
                else none) fun r1 =>
              some (.sc (.bool r1.toBool))) fun r2 =>
            some (.sc (.bool r2.toBool))) fun r3 =>
        if r3.toBool = true then
          some (.tup [.sc (.int .i64 0), .sc (.bool false)])
        else
          (D 83 [.sc (.int .i64 n_), .sc (.int .i64 10), .sc (.int .i64 1)]).bind fun r4 => if hasSh (.tup [(.int .i64), .bool]) r4 = true then
          if 0 ≤ t12 then
            if t12 < (t.size : Int) then
              (D 84 [.sc (.int .i64 ((cel 0 r4.parts).toInt)), .sc (.int .i64 (IntKind.i64.wrap (IntKind.u8.wrap ((bt t t12) - 48))))]).bind fun r5 => if hasSh (.tup [(.int .i64), .bool]) r5 = true then
              Option.bind (α := PV) (
                if (!((cel 1 r4.parts).toBool)) = true then
                  some (.sc (.bool true))
                else
                  some (.sc (.bool (!((cel 1 r5.parts).toBool))))) fun r6 =>
              if r6.toBool = true then
                some (.tup [.sc (.int .i64 0), .sc (.bool false)])
              else
                f59.l0a k t ((cel 0 r5.parts).toInt) t11 (IntKind.i64.wrap (t12 + 1))
              else none
            else none
          else none
          else none
      else none
    else none
  else
    some (.tup [.sc (.int .i64 n_), .sc (.bool (!(t.toList == (⟨#[]⟩ : ByteArray).toList)))]) :=
  (loopAt_eq _ _ _ _).trans (by kernel_rfl)
-- oculus/dec.Scaled
noncomputable def f83.j0a (k : Nat) (a b c q : Int) : Option PV := gateK k (placeAt Tryd.prog cf ext hint k 83 [1, 1, 1, 1, 1, 1, 1]) ⟨[.sc (.int .i64 a), .sc (.int .i64 b), .sc (.int .i64 c), .top, .top, .top, .top, .top, .top, .top, .top, .sc (.int .u64 q), .top, .top, .top, .top, .top, .top, .top, .top, .top, .top, .top, .top, .top, .top, .top, .top, .top, .top, .top, .top, .top, .top, .top, .top, .top, .top, .top, .top, .top, .top, .top, .top, .top, .top, .top, .top, .top, .top, .top, .top, .top, .top, .top, .top, .top, .top, .top, .top, .top, .top, .top, .top, .top, .top, .top, .top, .top, .top, .top, .top, .top], [], none⟩
theorem f83_eq (k : Nat) (a b c : Int) : D 83 [.sc (.int .i64 a), .sc (.int .i64 b), .sc (.int .i64 c)] =
  (D 32 [.sc (.int .i64 a)]).bind fun r1 => if hasSh .bool r1 = true then
  Option.bind (α := PV) (
    if (!r1.toBool) = true then
      some (.sc (.bool true))
    else
      Option.bind (α := PV) (
        (D 32 [.sc (.int .i64 b)]).bind fun r2 => if hasSh .bool r2 = true then
        some (.sc (.bool (!r2.toBool)))
        else none) fun r3 =>
      some (.sc (.bool r3.toBool))) fun r4 =>
  Option.bind (α := PV) (
    if r4.toBool = true then
      some (.sc (.bool true))
    else
      Option.bind (α := PV) (
        (D 32 [.sc (.int .i64 c)]).bind fun r5 => if hasSh .bool r5 = true then
        some (.sc (.bool (!r5.toBool)))
        else none) fun r6 =>
      some (.sc (.bool r6.toBool))) fun r7 =>
  Option.bind (α := PV) (
    if r7.toBool = true then
      some (.sc (.bool true))
    else
      some (.sc (.bool (c == 0)))) fun r8 =>
  if r8.toBool = true then
    some (.tup [.sc (.int .i64 0), .sc (.bool false)])
  else
    (D 99 [.sc (.int .i64 c)]).bind fun r9 => if hasSh (.int .u64) r9 = true then
    (D 99 [.sc (.int .i64 a)]).bind fun r10 => if hasSh (.int .u64) r10 = true then
    (D 99 [.sc (.int .i64 b)]).bind fun r11 => if hasSh (.int .u64) r11 = true then
    (D 100 [.sc (.int .u64 r10.toInt), .sc (.int .u64 r11.toInt)]).bind fun r12 => if hasSh (.tup [(.int .u64), (.int .u64)]) r12 = true then
    if decide (((cel 0 r12.parts).toInt) ≥ r9.toInt) = true then
      some (.tup [.sc (.int .i64 0), .sc (.bool false)])
    else
      (D 101 [.sc (.int .u64 ((cel 0 r12.parts).toInt)), .sc (.int .u64 ((cel 1 r12.parts).toInt)), .sc (.int .u64 r9.toInt)]).bind fun r13 => if hasSh (.tup [(.int .u64), (.int .u64)]) r13 = true then
      if decide (((cel 1 r13.parts).toInt) ≥ (IntKind.u64.wrap (r9.toInt - ((cel 1 r13.parts).toInt)))) = true then
        f83.j0a k a b c (IntKind.u64.wrap (((cel 0 r13.parts).toInt) + 1))
      else
        f83.j0a k a b c ((cel 0 r13.parts).toInt)
      else none
    else none
    else none
    else none
    else none
  else none :=
  (denI_eq k _ _).trans (by kernel_rfl)
theorem f83.j0a_eq (k : Nat) (a b c q : Int) : f83.j0a k a b c q =
  if decide (q > 9223372036854775807) = true then
    some (.tup [.sc (.int .i64 0), .sc (.bool false)])
  else
    (D 102 [.sc (.int .i64 a)]).bind fun r14 => if hasSh (.int .i64) r14 = true then
    (D 102 [.sc (.int .i64 b)]).bind fun r15 => if hasSh (.int .i64) r15 = true then
    (D 102 [.sc (.int .i64 c)]).bind fun r16 => if hasSh (.int .i64) r16 = true then
    if decide ((IntKind.i64.wrap ((IntKind.i64.wrap (r14.toInt * r15.toInt)) * r16.toInt)) < 0) = true then
      some (.tup [.sc (.int .i64 (IntKind.i64.wrap (0 - (IntKind.i64.wrap (q))))), .sc (.bool true)])
    else
      some (.tup [.sc (.int .i64 (IntKind.i64.wrap (q))), .sc (.bool true)])
    else none
    else none
    else none :=
  (gateK_open _ _ _).trans (by kernel_rfl)
-- oculus/dec.size
theorem f99_eq (k : Nat) (x_ : Int) : D 99 [.sc (.int .i64 x_)] =
  if decide (x_ < 0) = true then
    some (.sc (.int .u64 (IntKind.u64.wrap (IntKind.i64.wrap (0 - x_)))))
  else
    some (.sc (.int .u64 (IntKind.u64.wrap (x_)))) :=
  (denI_eq k _ _).trans (by kernel_rfl)
-- math/bits.Mul64
theorem f100_eq (k : Nat) (x_ y : Int) : D 100 [.sc (.int .u64 x_), .sc (.int .u64 y)] =
  some (.tup [.sc (.int .u64 (IntKind.u64.wrap ((IntKind.u64.wrap ((IntKind.u64.wrap ((x_.fdiv 4294967296) * (y.fdiv 4294967296))) + ((IntKind.u64.wrap ((IntKind.u64.wrap ((x_.fdiv 4294967296) * (bits .and .u64 y 4294967295))) + ((IntKind.u64.wrap ((bits .and .u64 x_ 4294967295) * (bits .and .u64 y 4294967295))).fdiv 4294967296))).fdiv 4294967296))) + ((IntKind.u64.wrap ((bits .and .u64 (IntKind.u64.wrap ((IntKind.u64.wrap ((x_.fdiv 4294967296) * (bits .and .u64 y 4294967295))) + ((IntKind.u64.wrap ((bits .and .u64 x_ 4294967295) * (bits .and .u64 y 4294967295))).fdiv 4294967296))) 4294967295) + (IntKind.u64.wrap ((bits .and .u64 x_ 4294967295) * (y.fdiv 4294967296))))).fdiv 4294967296)))), .sc (.int .u64 (IntKind.u64.wrap (x_ * y)))]) :=
  (denI_eq k _ _).trans (by kernel_rfl)
-- math/bits.Div64
noncomputable def f101.j0a (k : Nat) (hi lo y : Int) : Option PV := gateK k (placeAt Tryd.prog cf ext hint k 101 [1, 1]) ⟨[.sc (.int .u64 hi), .sc (.int .u64 lo), .sc (.int .u64 y), .top, .top, .top, .top, .top, .top, .top, .top, .top, .top, .top, .top, .top, .top, .top, .top, .top, .top, .top, .top, .top, .top, .top, .top, .top, .top, .top, .top, .top, .top, .top, .top, .top, .top, .top, .top, .top, .top, .top, .top, .top, .top, .top, .top, .top, .top, .top, .top, .top, .top, .top, .top, .top, .top, .top, .top, .top, .top, .top, .top, .top, .top, .top, .top, .top, .top, .top, .top, .top, .top, .top, .top, .top, .top, .top, .top, .top, .top, .top, .top, .top, .top, .top, .top, .top, .top, .top, .top, .top, .top, .top, .top, .top, .top, .top, .top, .top, .top, .top, .top, .top, .top, .top, .top, .top, .top, .top, .top, .top, .top, .top, .top, .top, .top, .top, .top, .top, .top, .top, .top, .top, .top, .top, .top, .top, .top, .top, .top, .top, .top, .top, .top], [], none⟩
noncomputable def f101.j1a (k : Nat) (hi lo y : Int) : Option PV := gateK k (placeAt Tryd.prog cf ext hint k 101 [1, 1, 1]) ⟨[.sc (.int .u64 hi), .sc (.int .u64 lo), .sc (.int .u64 y), .top, .top, .top, .top, .top, .top, .top, .top, .top, .top, .top, .top, .top, .top, .top, .top, .top, .top, .top, .top, .top, .top, .top, .top, .top, .top, .top, .top, .top, .top, .top, .top, .top, .top, .top, .top, .top, .top, .top, .top, .top, .top, .top, .top, .top, .top, .top, .top, .top, .top, .top, .top, .top, .top, .top, .top, .top, .top, .top, .top, .top, .top, .top, .top, .top, .top, .top, .top, .top, .top, .top, .top, .top, .top, .top, .top, .top, .top, .top, .top, .top, .top, .top, .top, .top, .top, .top, .top, .top, .top, .top, .top, .top, .top, .top, .top, .top, .top, .top, .top, .top, .top, .top, .top, .top, .top, .top, .top, .top, .top, .top, .top, .top, .top, .top, .top, .top, .top, .top, .top, .top, .top, .top, .top, .top, .top, .top, .top, .top, .top, .top, .top], [], none⟩
noncomputable def f101.l2a (k : Nat) (y s_ yn1 yn0 un32 un1 un0 q1 rhat : Int) : Option PV := loopAt Tryd.prog cf ext hint k 101 [1, 1, 1, 1, 1, 1, 1, 1, 1, 1, 1, 1, 1, 1, 0, 0] ⟨[.top, .top, .sc (.int .u64 y), .top, .top, .top, .top, .top, .sc (.int .u64 s_), .sc (.int .u64 yn1), .sc (.int .u64 yn0), .sc (.int .u64 un32), .top, .sc (.int .u64 un1), .sc (.int .u64 un0), .sc (.int .u64 q1), .sc (.int .u64 rhat), .top, .top, .top, .top, .top, .top, .top, .top, .top, .top, .top, .top, .top, .top, .top, .top, .top, .top, .top, .top, .top, .top, .top, .top, .top, .top, .top, .top, .top, .top, .top, .top, .top, .top, .top, .top, .top, .top, .top, .top, .top, .top, .top, .top, .top, .top, .top, .top, .top, .top, .top, .top, .top, .top, .top, .top, .top, .top, .top, .top, .top, .top, .top, .top, .top, .top, .top, .top, .top, .top, .top, .top, .top, .top, .top, .top, .top, .top, .top, .top, .top, .top, .top, .top, .top, .top, .top, .top, .top, .top, .top, .top, .top, .top, .top, .top, .top, .top, .top, .top, .top, .top, .top, .top, .top, .top, .top, .top, .top, .top, .top, .top, .top, .top, .top, .top, .top, .top], [], none⟩
noncomputable def f101.j3a (k : Nat) (y s_ yn1 yn0 un32 un1 un0 q1 : Int) : Option PV := gateK k (placeAt Tryd.prog cf ext hint k 101 [1, 1, 1, 1, 1, 1, 1, 1, 1, 1, 1, 1, 1, 1, 1]) ⟨[.top, .top, .sc (.int .u64 y), .top, .top, .top, .top, .top, .sc (.int .u64 s_), .sc (.int .u64 yn1), .sc (.int .u64 yn0), .sc (.int .u64 un32), .top, .sc (.int .u64 un1), .sc (.int .u64 un0), .sc (.int .u64 q1), .top, .top, .top, .top, .top, .top, .top, .top, .top, .top, .top, .top, .top, .top, .top, .top, .top, .top, .top, .top, .top, .top, .top, .top, .top, .top, .top, .top, .top, .top, .top, .top, .top, .top, .top, .top, .top, .top, .top, .top, .top, .top, .top, .top, .top, .top, .top, .top, .top, .top, .top, .top, .top, .top, .top, .top, .top, .top, .top, .top, .top, .top, .top, .top, .top, .top, .top, .top, .top, .top, .top, .top, .top, .top, .top, .top, .top, .top, .top, .top, .top, .top, .top, .top, .top, .top, .top, .top, .top, .top, .top, .top, .top, .top, .top, .top, .top, .top, .top, .top, .top, .top, .top, .top, .top, .top, .top, .top, .top, .top, .top, .top, .top, .top, .top, .top, .top, .top, .top], [], none⟩
noncomputable def f101.l4a (k : Nat) (y s_ yn1 yn0 un0 q1 rhat un21 q0 : Int) : Option PV := loopAt Tryd.prog cf ext hint k 101 [1, 1, 1, 1, 1, 1, 1, 1, 1, 1, 1, 1, 1, 1, 1, 1, 1, 1, 0, 0] ⟨[.top, .top, .sc (.int .u64 y), .top, .top, .top, .top, .top, .sc (.int .u64 s_), .sc (.int .u64 yn1), .sc (.int .u64 yn0), .top, .top, .top, .sc (.int .u64 un0), .sc (.int .u64 q1), .sc (.int .u64 rhat), .sc (.int .u64 un21), .sc (.int .u64 q0), .top, .top, .top, .top, .top, .top, .top, .top, .top, .top, .top, .top, .top, .top, .top, .top, .top, .top, .top, .top, .top, .top, .top, .top, .top, .top, .top, .top, .top, .top, .top, .top, .top, .top, .top, .top, .top, .top, .top, .top, .top, .top, .top, .top, .top, .top, .top, .top, .top, .top, .top, .top, .top, .top, .top, .top, .top, .top, .top, .top, .top, .top, .top, .top, .top, .top, .top, .top, .top, .top, .top, .top, .top, .top, .top, .top, .top, .top, .top, .top, .top, .top, .top, .top, .top, .top, .top, .top, .top, .top, .top, .top, .top, .top, .top, .top, .top, .top, .top, .top, .top, .top, .top, .top, .top, .top, .top, .top, .top, .top, .top, .top, .top, .top, .top, .top], [], none⟩
noncomputable def f101.j5a (k : Nat) (y s_ un0 q1 un21 q0 : Int) : Option PV := gateK k (placeAt Tryd.prog cf ext hint k 101 [1, 1, 1, 1, 1, 1, 1, 1, 1, 1, 1, 1, 1, 1, 1, 1, 1, 1, 1]) ⟨[.top, .top, .sc (.int .u64 y), .top, .top, .top, .top, .top, .sc (.int .u64 s_), .top, .top, .top, .top, .top, .sc (.int .u64 un0), .sc (.int .u64 q1), .top, .sc (.int .u64 un21), .sc (.int .u64 q0), .top, .top, .top, .top, .top, .top, .top, .top, .top, .top, .top, .top, .top, .top, .top, .top, .top, .top, .top, .top, .top, .top, .top, .top, .top, .top, .top, .top, .top, .top, .top, .top, .top, .top, .top, .top, .top, .top, .top, .top, .top, .top, .top, .top, .top, .top, .top, .top, .top, .top, .top, .top, .top, .top, .top, .top, .top, .top, .top, .top, .top, .top, .top, .top, .top, .top, .top, .top, .top, .top, .top, .top, .top, .top, .top, .top, .top, .top, .top, .top, .top, .top, .top, .top, .top, .top, .top, .top, .top, .top, .top, .top, .top, .top, .top, .top, .top, .top, .top, .top, .top, .top, .top, .top, .top, .top, .top, .top, .top, .top, .top, .top, .top, .top, .top, .top], [], none⟩
theorem f101_eq (k : Nat) (hi lo y : Int) : D 101 [.sc (.int .u64 hi), .sc (.int .u64 lo), .sc (.int .u64 y)] =
  if (y == 0) = true then
    none
  else
    f101.j0a k hi lo y :=
  (denI_eq k _ _).trans (by kernel_rfl)
theorem f101.j0a_eq (k : Nat) (hi lo y : Int) : f101.j0a k hi lo y =
  if decide (y ≤ hi) = true then
    none
  else
    f101.j1a k hi lo y :=
  (gateK_open _ _ _).trans (by kernel_rfl)
theorem f101.j1a_eq (k : Nat) (hi lo y : Int) : f101.j1a k hi lo y =
  if (hi == 0) = true then
    if IntKind.u64 = IntKind.u64 ∧ y ≠ 0 then
      if IntKind.u64 = IntKind.u64 ∧ y ≠ 0 then
        some (.tup [.sc (.int .u64 (IntKind.u64.wrap (lo.tdiv y))), .sc (.int .u64 (lo.tmod y))])
      else none
    else none
  else
    (D 109 [.sc (.int .u64 y)]).bind fun r1 => if hasSh (.int .i64) r1 = true then
    if 0 ≤ IntKind.u64.wrap (r1.toInt) then
      if 0 ≤ IntKind.u64.wrap (r1.toInt) then
        if 0 ≤ IntKind.u64.wrap ((64 : Int) - (IntKind.u64.wrap (r1.toInt))) then
          if 0 ≤ IntKind.u64.wrap (r1.toInt) then
            if IntKind.u64 = IntKind.u64 ∧ (IntKind.u64.wrap (y * 2 ^ (min (IntKind.u64.wrap (r1.toInt)).toNat 64))).fdiv 4294967296 ≠ 0 then
              f101.l2a k (IntKind.u64.wrap (y * 2 ^ (min (IntKind.u64.wrap (r1.toInt)).toNat 64))) (IntKind.u64.wrap (r1.toInt)) ((IntKind.u64.wrap (y * 2 ^ (min (IntKind.u64.wrap (r1.toInt)).toNat 64))).fdiv 4294967296) (bits .and .u64 (IntKind.u64.wrap (y * 2 ^ (min (IntKind.u64.wrap (r1.toInt)).toNat 64))) 4294967295) (bits .or .u64 (IntKind.u64.wrap (hi * 2 ^ (min (IntKind.u64.wrap (r1.toInt)).toNat 64))) (lo.fdiv (2 ^ (min (IntKind.u64.wrap ((64 : Int) - (IntKind.u64.wrap (r1.toInt)))).toNat 64)))) ((IntKind.u64.wrap (lo * 2 ^ (min (IntKind.u64.wrap (r1.toInt)).toNat 64))).fdiv 4294967296) (bits .and .u64 (IntKind.u64.wrap (lo * 2 ^ (min (IntKind.u64.wrap (r1.toInt)).toNat 64))) 4294967295) (IntKind.u64.wrap ((bits .or .u64 (IntKind.u64.wrap (hi * 2 ^ (min (IntKind.u64.wrap (r1.toInt)).toNat 64))) (lo.fdiv (2 ^ (min (IntKind.u64.wrap ((64 : Int) - (IntKind.u64.wrap (r1.toInt)))).toNat 64)))).tdiv ((IntKind.u64.wrap (y * 2 ^ (min (IntKind.u64.wrap (r1.toInt)).toNat 64))).fdiv 4294967296))) (IntKind.u64.wrap ((bits .or .u64 (IntKind.u64.wrap (hi * 2 ^ (min (IntKind.u64.wrap (r1.toInt)).toNat 64))) (lo.fdiv (2 ^ (min (IntKind.u64.wrap ((64 : Int) - (IntKind.u64.wrap (r1.toInt)))).toNat 64)))) - (IntKind.u64.wrap ((IntKind.u64.wrap ((bits .or .u64 (IntKind.u64.wrap (hi * 2 ^ (min (IntKind.u64.wrap (r1.toInt)).toNat 64))) (lo.fdiv (2 ^ (min (IntKind.u64.wrap ((64 : Int) - (IntKind.u64.wrap (r1.toInt)))).toNat 64)))).tdiv ((IntKind.u64.wrap (y * 2 ^ (min (IntKind.u64.wrap (r1.toInt)).toNat 64))).fdiv 4294967296))) * ((IntKind.u64.wrap (y * 2 ^ (min (IntKind.u64.wrap (r1.toInt)).toNat 64))).fdiv 4294967296)))))
            else none
          else none
        else none
      else none
    else none
    else none :=
  (gateK_open _ _ _).trans (by kernel_rfl)
theorem f101.l2a_eq (k : Nat) (y s_ yn1 yn0 un32 un1 un0 q1 rhat : Int) : f101.l2a k y s_ yn1 yn0 un32 un1 un0 q1 rhat =
  Option.bind (α := PV) (
    if decide (q1 ≥ 4294967296) = true then
      some (.sc (.bool true))
    else
      some (.sc (.bool (decide ((IntKind.u64.wrap (q1 * yn0)) > (IntKind.u64.wrap ((IntKind.u64.wrap ((4294967296 : Int) * rhat)) + un1))))))) fun r2 =>
  if r2.toBool = true then
    if decide ((IntKind.u64.wrap (rhat + yn1)) ≥ 4294967296) = true then
      f101.j3a k y s_ yn1 yn0 un32 un1 un0 (IntKind.u64.wrap (q1 - 1))
    else
      f101.l2a k y s_ yn1 yn0 un32 un1 un0 (IntKind.u64.wrap (q1 - 1)) (IntKind.u64.wrap (rhat + yn1))
  else
    f101.j3a k y s_ yn1 yn0 un32 un1 un0 q1 :=
  (loopAt_eq _ _ _ _).trans (by kernel_rfl)
theorem f101.j3a_eq (k : Nat) (y s_ yn1 yn0 un32 un1 un0 q1 : Int) : f101.j3a k y s_ yn1 yn0 un32 un1 un0 q1 =
  if IntKind.u64 = IntKind.u64 ∧ yn1 ≠ 0 then
    f101.l4a k y s_ yn1 yn0 un0 q1 (IntKind.u64.wrap ((IntKind.u64.wrap ((IntKind.u64.wrap ((IntKind.u64.wrap (un32 * 4294967296)) + un1)) - (IntKind.u64.wrap (q1 * y)))) - (IntKind.u64.wrap ((IntKind.u64.wrap ((IntKind.u64.wrap ((IntKind.u64.wrap ((IntKind.u64.wrap (un32 * 4294967296)) + un1)) - (IntKind.u64.wrap (q1 * y)))).tdiv yn1)) * yn1)))) (IntKind.u64.wrap ((IntKind.u64.wrap ((IntKind.u64.wrap (un32 * 4294967296)) + un1)) - (IntKind.u64.wrap (q1 * y)))) (IntKind.u64.wrap ((IntKind.u64.wrap ((IntKind.u64.wrap ((IntKind.u64.wrap (un32 * 4294967296)) + un1)) - (IntKind.u64.wrap (q1 * y)))).tdiv yn1))
  else none :=
  (gateK_open _ _ _).trans (by kernel_rfl)
theorem f101.l4a_eq (k : Nat) (y s_ yn1 yn0 un0 q1 rhat un21 q0 : Int) : f101.l4a k y s_ yn1 yn0 un0 q1 rhat un21 q0 =
  Option.bind (α := PV) (
    if decide (q0 ≥ 4294967296) = true then
      some (.sc (.bool true))
    else
      some (.sc (.bool (decide ((IntKind.u64.wrap (q0 * yn0)) > (IntKind.u64.wrap ((IntKind.u64.wrap ((4294967296 : Int) * rhat)) + un0))))))) fun r3 =>
  if r3.toBool = true then
    if decide ((IntKind.u64.wrap (rhat + yn1)) ≥ 4294967296) = true then
      f101.j5a k y s_ un0 q1 un21 (IntKind.u64.wrap (q0 - 1))
    else
      f101.l4a k y s_ yn1 yn0 un0 q1 (IntKind.u64.wrap (rhat + yn1)) un21 (IntKind.u64.wrap (q0 - 1))
  else
    f101.j5a k y s_ un0 q1 un21 q0 :=
  (loopAt_eq _ _ _ _).trans (by kernel_rfl)
theorem f101.j5a_eq (k : Nat) (y s_ un0 q1 un21 q0 : Int) : f101.j5a k y s_ un0 q1 un21 q0 =
  if 0 ≤ s_ then
    some (.tup [.sc (.int .u64 (IntKind.u64.wrap ((IntKind.u64.wrap (q1 * 4294967296)) + q0))), .sc (.int .u64 ((IntKind.u64.wrap ((IntKind.u64.wrap ((IntKind.u64.wrap (un21 * 4294967296)) + un0)) - (IntKind.u64.wrap (q0 * y)))).fdiv (2 ^ (min s_.toNat 64))))])
  else none :=
  (gateK_open _ _ _).trans (by kernel_rfl)
-- math/bits.LeadingZeros64
theorem f109_eq (k : Nat) (x_ : Int) : D 109 [.sc (.int .u64 x_)] =
  (D 88 [.sc (.int .u64 x_)]).bind fun r1 => if hasSh (.int .i64) r1 = true then
  some (.sc (.int .i64 (IntKind.i64.wrap ((64 : Int) - r1.toInt))))
  else none :=
  (denI_eq k _ _).trans (by kernel_rfl)
-- math/bits.Len64
noncomputable def f88.j0a (k : Nat) (x_ n_ : Int) : Option PV := gateK k (placeAt Tryd.prog cf ext hint k 88 [1, 1]) ⟨[.sc (.int .u64 x_), .top, .sc (.int .i64 n_), .top, .top, .top, .top, .top, .top, .top, .top, .top, .top, .top, .top, .top, .top, .top, .top, .top, .top, .top, .top, .top, .top], [], none⟩
noncomputable def f88.j1a (k : Nat) (x_ n_ : Int) : Option PV := gateK k (placeAt Tryd.prog cf ext hint k 88 [1, 1, 1]) ⟨[.sc (.int .u64 x_), .top, .sc (.int .i64 n_), .top, .top, .top, .top, .top, .top, .top, .top, .top, .top, .top, .top, .top, .top, .top, .top, .top, .top, .top, .top, .top, .top], [], none⟩
theorem f88_eq (k : Nat) (x_ : Int) : D 88 [.sc (.int .u64 x_)] =
  if decide (x_ ≥ 4294967296) = true then
    f88.j0a k (x_.fdiv 4294967296) 32
  else
    f88.j0a k x_ 0 :=
  (denI_eq k _ _).trans (by kernel_rfl)
theorem f88.j0a_eq (k : Nat) (x_ n_ : Int) : f88.j0a k x_ n_ =
  if decide (x_ ≥ 65536) = true then
    f88.j1a k (x_.fdiv 65536) (IntKind.i64.wrap (n_ + 16))
  else
    f88.j1a k x_ n_ :=
  (gateK_open _ _ _).trans (by kernel_rfl)
theorem f88.j1a_eq (k : Nat) (x_ n_ : Int) : f88.j1a k x_ n_ =
  if decide (x_ ≥ 256) = true then
    if 0 ≤ IntKind.u8.wrap (x_.fdiv 256) then
      if IntKind.u8.wrap (x_.fdiv 256) < (256 : Int) then
        some (.sc (.int .i64 (IntKind.i64.wrap ((IntKind.i64.wrap (n_ + 8)) + (IntKind.i64.wrap (bt (⟨#[0, 1, 2, 2, 3, 3, 3, 3, 4, 4, 4, 4, 4, 4, 4, 4, 5, 5, 5, 5, 5, 5, 5, 5, 5, 5, 5, 5, 5, 5, 5, 5, 6, 6, 6, 6, 6, 6, 6, 6, 6, 6, 6, 6, 6, 6, 6, 6, 6, 6, 6, 6, 6, 6, 6, 6, 6, 6, 6, 6, 6, 6, 6, 6, 7, 7, 7, 7, 7, 7, 7, 7, 7, 7, 7, 7, 7, 7, 7, 7, 7, 7, 7, 7, 7, 7, 7, 7, 7, 7, 7, 7, 7, 7, 7, 7, 7, 7, 7, 7, 7, 7, 7, 7, 7, 7, 7, 7, 7, 7, 7, 7, 7, 7, 7, 7, 7, 7, 7, 7, 7, 7, 7, 7, 7, 7, 7, 7, 8, 8, 8, 8, 8, 8, 8, 8, 8, 8, 8, 8, 8, 8, 8, 8, 8, 8, 8, 8, 8, 8, 8, 8, 8, 8, 8, 8, 8, 8, 8, 8, 8, 8, 8, 8, 8, 8, 8, 8, 8, 8, 8, 8, 8, 8, 8, 8, 8, 8, 8, 8, 8, 8, 8, 8, 8, 8, 8, 8, 8, 8, 8, 8, 8, 8, 8, 8, 8, 8, 8, 8, 8, 8, 8, 8, 8, 8, 8, 8, 8, 8, 8, 8, 8, 8, 8, 8, 8, 8, 8, 8, 8, 8, 8, 8, 8, 8, 8, 8, 8, 8, 8, 8, 8, 8, 8, 8, 8, 8, 8, 8, 8, 8, 8, 8, 8, 8, 8, 8, 8, 8, 8, 8, 8, 8, 8, 8]⟩ : ByteArray) (IntKind.u8.wrap (x_.fdiv 256))))))))
      else none
    else none
  else
    if 0 ≤ IntKind.u8.wrap (x_) then
      if IntKind.u8.wrap (x_) < (256 : Int) then
        some (.sc (.int .i64 (IntKind.i64.wrap (n_ + (IntKind.i64.wrap (bt (⟨#[0, 1, 2, 2, 3, 3, 3, 3, 4, 4, 4, 4, 4, 4, 4, 4, 5, 5, 5, 5, 5, 5, 5, 5, 5, 5, 5, 5, 5, 5, 5, 5, 6, 6, 6, 6, 6, 6, 6, 6, 6, 6, 6, 6, 6, 6, 6, 6, 6, 6, 6, 6, 6, 6, 6, 6, 6, 6, 6, 6, 6, 6, 6, 6, 7, 7, 7, 7, 7, 7, 7, 7, 7, 7, 7, 7, 7, 7, 7, 7, 7, 7, 7, 7, 7, 7, 7, 7, 7, 7, 7, 7, 7, 7, 7, 7, 7, 7, 7, 7, 7, 7, 7, 7, 7, 7, 7, 7, 7, 7, 7, 7, 7, 7, 7, 7, 7, 7, 7, 7, 7, 7, 7, 7, 7, 7, 7, 7, 8, 8, 8, 8, 8, 8, 8, 8, 8, 8, 8, 8, 8, 8, 8, 8, 8, 8, 8, 8, 8, 8, 8, 8, 8, 8, 8, 8, 8, 8, 8, 8, 8, 8, 8, 8, 8, 8, 8, 8, 8, 8, 8, 8, 8, 8, 8, 8, 8, 8, 8, 8, 8, 8, 8, 8, 8, 8, 8, 8, 8, 8, 8, 8, 8, 8, 8, 8, 8, 8, 8, 8, 8, 8, 8, 8, 8, 8, 8, 8, 8, 8, 8, 8, 8, 8, 8, 8, 8, 8, 8, 8, 8, 8, 8, 8, 8, 8, 8, 8, 8, 8, 8, 8, 8, 8, 8, 8, 8, 8, 8, 8, 8, 8, 8, 8, 8, 8, 8, 8, 8, 8, 8, 8, 8, 8, 8, 8]⟩ : ByteArray) (IntKind.u8.wrap (x_))))))))
      else none
    else none :=
  (gateK_open _ _ _).trans (by kernel_rfl)
-- oculus/dec.Sign
theorem f102_eq (k : Nat) (x_ : Int) : D 102 [.sc (.int .i64 x_)] =
  if decide (x_ < 0) = true then
    some (.sc (.int .i64 (-1)))
  else
    if decide (x_ > 0) = true then
      some (.sc (.int .i64 1))
    else
      some (.sc (.int .i64 0)) :=
  (denI_eq k _ _).trans (by kernel_rfl)
-- oculus/dec.Add
theorem f84_eq (k : Nat) (a b : Int) : D 84 [.sc (.int .i64 a), .sc (.int .i64 b)] =
  (D 32 [.sc (.int .i64 a)]).bind fun r1 => if hasSh .bool r1 = true then
  Option.bind (α := PV) (
    if (!r1.toBool) = true then
      some (.sc (.bool true))
    else
      Option.bind (α := PV) (
        (D 32 [.sc (.int .i64 b)]).bind fun r2 => if hasSh .bool r2 = true then
        some (.sc (.bool (!r2.toBool)))
        else none) fun r3 =>
      some (.sc (.bool r3.toBool))) fun r4 =>
  Option.bind (α := PV) (
    if r4.toBool = true then
      some (.sc (.bool true))
    else
      Option.bind (α := PV) (
        (D 32 [.sc (.int .i64 (IntKind.i64.wrap (a + b)))]).bind fun r5 => if hasSh .bool r5 = true then
        some (.sc (.bool (!r5.toBool)))
        else none) fun r6 =>
      some (.sc (.bool r6.toBool))) fun r7 =>
  Option.bind (α := PV) (
    if r7.toBool = true then
      some (.sc (.bool true))
    else
      Option.bind (α := PV) (
        Option.bind (α := PV) (
          Option.bind (α := PV) (
            if decide (a > 0) = true then
              some (.sc (.bool (decide (b > 0))))
            else
              some (.sc (.bool false))) fun r8 =>
          Option.bind (α := PV) (
            Option.bind (α := PV) (
              if r8.toBool = true then
                some (.sc (.bool (decide ((IntKind.i64.wrap (a + b)) < 0))))
              else
                some (.sc (.bool false))) fun r9 =>
            some (.sc (.bool r9.toBool))) fun r10 =>
          some (.sc (.bool r10.toBool))) fun r11 =>
        some (.sc (.bool r11.toBool))) fun r12 =>
      some (.sc (.bool r12.toBool))) fun r13 =>
  Option.bind (α := PV) (
    if r13.toBool = true then
      some (.sc (.bool true))
    else
      Option.bind (α := PV) (
        Option.bind (α := PV) (
          Option.bind (α := PV) (
            if decide (a < 0) = true then
              some (.sc (.bool (decide (b < 0))))
            else
              some (.sc (.bool false))) fun r14 =>
          Option.bind (α := PV) (
            Option.bind (α := PV) (
              if r14.toBool = true then
                some (.sc (.bool (decide ((IntKind.i64.wrap (a + b)) ≥ 0))))
              else
                some (.sc (.bool false))) fun r15 =>
            some (.sc (.bool r15.toBool))) fun r16 =>
          some (.sc (.bool r16.toBool))) fun r17 =>
        some (.sc (.bool r17.toBool))) fun r18 =>
      some (.sc (.bool r18.toBool))) fun r19 =>
  if r19.toBool = true then
    some (.tup [.sc (.int .i64 0), .sc (.bool false)])
  else
    some (.tup [.sc (.int .i64 (IntKind.i64.wrap (a + b))), .sc (.bool true)])
  else none :=
  (denI_eq k _ _).trans (by kernel_rfl)
-- oculus/digits.put
theorem f60_eq (k : Nat) (x_ y : Int) (minus : Bool) : D 60 [.sc (.int .i64 x_), .sc (.int .i64 y), .sc (.bool minus)] =
  (D 85 [.sc (.int .i64 x_)]).bind fun r1 => if hasSh (.tup [(.int .i64), .bool]) r1 = true then
  (D 84 [.sc (.int .i64 ((cel 0 r1.parts).toInt)), .sc (.int .i64 y)]).bind fun r2 => if hasSh (.tup [(.int .i64), .bool]) r2 = true then
  Option.bind (α := PV) (
    if (!((cel 1 r1.parts).toBool)) = true then
      some (.sc (.bool true))
    else
      some (.sc (.bool (!((cel 1 r2.parts).toBool))))) fun r3 =>
  if r3.toBool = true then
    some (.tup [.sc (.int .i64 0), .sc (.bool false)])
  else
    if minus = true then
      (D 86 [.sc (.int .i64 ((cel 0 r2.parts).toInt))]).bind fun r4 => if hasSh (.tup [(.int .i64), .bool]) r4 = true then
      some (.tup [.sc (.int .i64 ((cel 0 r4.parts).toInt)), .sc (.bool ((cel 1 r4.parts).toBool))])
      else none
    else
      some (.tup [.sc (.int .i64 ((cel 0 r2.parts).toInt)), .sc (.bool true)])
  else none
  else none :=
  (denI_eq k _ _).trans (by kernel_rfl)
-- oculus/dec.Of
theorem f85_eq (k : Nat) (n_ : Int) : D 85 [.sc (.int .i64 n_)] =
  (D 83 [.sc (.int .i64 n_), .sc (.int .i64 10000), .sc (.int .i64 1)]).bind fun r1 => if hasSh (.tup [(.int .i64), .bool]) r1 = true then
  some (.tup [.sc (.int .i64 ((cel 0 r1.parts).toInt)), .sc (.bool ((cel 1 r1.parts).toBool))])
  else none :=
  (denI_eq k _ _).trans (by kernel_rfl)
-- oculus/dec.Neg
theorem f86_eq (k : Nat) (x_ : Int) : D 86 [.sc (.int .i64 x_)] =
  (D 32 [.sc (.int .i64 x_)]).bind fun r1 => if hasSh .bool r1 = true then
  if (!r1.toBool) = true then
    some (.tup [.sc (.int .i64 0), .sc (.bool false)])
  else
    some (.tup [.sc (.int .i64 (IntKind.i64.wrap (0 - x_))), .sc (.bool true)])
  else none :=
  (denI_eq k _ _).trans (by kernel_rfl)
-- oculus/meter.cost
theorem f22_eq (k : Nat) (n_ n__1 n__2 n__3 n__4 : Int) : D 22 [.agg [.sc (.int .i64 n_), .sc (.int .i64 n__1), .sc (.int .i64 n__2), .sc (.int .i64 n__3), .sc (.int .i64 n__4)]] =
  some (.agg [.sc (.int .i64 n_), .sc (.int .i64 n__1), .sc (.int .i64 n__2), .sc (.int .i64 n__3), .sc (.int .i64 n__4)]) :=
  (denI_eq k _ _).trans (by kernel_rfl)
-- oculus/meter.Fits
theorem f14_eq (k : Nat) (c c_1 c_2 c_3 c_4 b b_1 b_2 b_3 b_4 : Int) : D 14 [.agg [.sc (.int .i64 c), .sc (.int .i64 c_1), .sc (.int .i64 c_2), .sc (.int .i64 c_3), .sc (.int .i64 c_4)], .agg [.sc (.int .i64 b), .sc (.int .i64 b_1), .sc (.int .i64 b_2), .sc (.int .i64 b_3), .sc (.int .i64 b_4)]] =
  Option.bind (α := PV) (
    if (c == b) = true then
      some (.sc (.bool (c_1 == b_1)))
    else
      some (.sc (.bool false))) fun r1 =>
  Option.bind (α := PV) (
    if r1.toBool = true then
      Option.bind (α := PV) (
        Option.bind (α := PV) (
          Option.bind (α := PV) (
            Option.bind (α := PV) (
              Option.bind (α := PV) (
                (D 29 [.sc (.int .i64 c_2), .sc (.int .i64 b_2)]).bind fun r2 => if hasSh .bool r2 = true then
                some (.sc (.bool r2.toBool))
                else none) fun r3 =>
              some (.sc (.bool r3.toBool))) fun r4 =>
            some (.sc (.bool r4.toBool))) fun r5 =>
          some (.sc (.bool r5.toBool))) fun r6 =>
        some (.sc (.bool r6.toBool))) fun r7 =>
      some (.sc (.bool r7.toBool))
    else
      some (.sc (.bool false))) fun r8 =>
  Option.bind (α := PV) (
    if r8.toBool = true then
      Option.bind (α := PV) (
        Option.bind (α := PV) (
          Option.bind (α := PV) (
            Option.bind (α := PV) (
              Option.bind (α := PV) (
                (D 29 [.sc (.int .i64 c_3), .sc (.int .i64 b_3)]).bind fun r9 => if hasSh .bool r9 = true then
                some (.sc (.bool r9.toBool))
                else none) fun r10 =>
              some (.sc (.bool r10.toBool))) fun r11 =>
            some (.sc (.bool r11.toBool))) fun r12 =>
          some (.sc (.bool r12.toBool))) fun r13 =>
        some (.sc (.bool r13.toBool))) fun r14 =>
      some (.sc (.bool r14.toBool))
    else
      some (.sc (.bool false))) fun r15 =>
  Option.bind (α := PV) (
    if r15.toBool = true then
      Option.bind (α := PV) (
        Option.bind (α := PV) (
          Option.bind (α := PV) (
            Option.bind (α := PV) (
              Option.bind (α := PV) (
                (D 29 [.sc (.int .i64 c_4), .sc (.int .i64 b_4)]).bind fun r16 => if hasSh .bool r16 = true then
                some (.sc (.bool r16.toBool))
                else none) fun r17 =>
              some (.sc (.bool r17.toBool))) fun r18 =>
            some (.sc (.bool r18.toBool))) fun r19 =>
          some (.sc (.bool r19.toBool))) fun r20 =>
        some (.sc (.bool r20.toBool))) fun r21 =>
      some (.sc (.bool r21.toBool))
    else
      some (.sc (.bool false))) fun r22 =>
  some (.sc (.bool r22.toBool)) :=
  (denI_eq k _ _).trans (by kernel_rfl)
-- oculus/meter.Fits$1
theorem f29_eq (k : Nat) (n_ high : Int) : D 29 [.sc (.int .i64 n_), .sc (.int .i64 high)] =
  Option.bind (α := PV) (
    if decide (n_ ≥ 0) = true then
      some (.sc (.bool (decide (n_ ≤ high))))
    else
      some (.sc (.bool false))) fun r1 =>
  some (.sc (.bool r1.toBool)) :=
  (denI_eq k _ _).trans (by kernel_rfl)
-- oculus/meter.Add
noncomputable def f15.l0a (k : Nat) (t13 t13_1 t13_2 t13_3 t13_4 n_ n__1 n__2 n__3 n__4 : Int) : Option PV := loopAt Tryd.prog cf ext hint k 15 [1, 1, 0, 1, 0] ⟨[.top, .top, .top, .top, .ptr 0 0, .ptr 1 0, .top, .top, .top, .top, .top, .top, .top, .agg [.sc (.int .i64 t13), .sc (.int .i64 t13_1), .sc (.int .i64 t13_2), .sc (.int .i64 t13_3), .sc (.int .i64 t13_4)], .sc (.int .i64 0), .top, .top, .top, .top, .top, .top, .top, .top, .top, .top, .top, .top], [.cells 23 [.sc (.int .i64 0), .sc (.int .i64 0), .sc (.int .i64 0), .sc (.int .i64 0), .sc (.int .i64 0)], .cells 45 [.sc (.int .i64 n_), .sc (.int .i64 n__1), .sc (.int .i64 n__2), .sc (.int .i64 n__3), .sc (.int .i64 n__4)]], none⟩
noncomputable def f15.l0b (k : Nat) (t13 t13_1 t13_2 t13_3 t13_4 n_ n__1 n__2 n__3 n__4 : Int) : Option PV := loopAt Tryd.prog cf ext hint k 15 [1, 1, 0, 1, 0] ⟨[.top, .top, .top, .top, .ptr 0 0, .ptr 1 0, .top, .top, .top, .top, .top, .top, .top, .agg [.sc (.int .i64 t13), .sc (.int .i64 t13_1), .sc (.int .i64 t13_2), .sc (.int .i64 t13_3), .sc (.int .i64 t13_4)], .sc (.int .i64 1), .top, .top, .top, .top, .top, .top, .top, .top, .top, .top, .top, .top], [.cells 23 [.sc (.int .i64 0), .sc (.int .i64 0), .sc (.int .i64 0), .sc (.int .i64 0), .sc (.int .i64 0)], .cells 45 [.sc (.int .i64 n_), .sc (.int .i64 n__1), .sc (.int .i64 n__2), .sc (.int .i64 n__3), .sc (.int .i64 n__4)]], none⟩
noncomputable def f15.l0c (k : Nat) (t13 t13_1 t13_2 t13_3 t13_4 n_ n__1 n__2 n__3 n__4 : Int) : Option PV := loopAt Tryd.prog cf ext hint k 15 [1, 1, 0, 1, 0] ⟨[.top, .top, .top, .top, .ptr 0 0, .ptr 1 0, .top, .top, .top, .top, .top, .top, .top, .agg [.sc (.int .i64 t13), .sc (.int .i64 t13_1), .sc (.int .i64 t13_2), .sc (.int .i64 t13_3), .sc (.int .i64 t13_4)], .sc (.int .i64 2), .top, .top, .top, .top, .top, .top, .top, .top, .top, .top, .top, .top], [.cells 23 [.sc (.int .i64 0), .sc (.int .i64 0), .sc (.int .i64 0), .sc (.int .i64 0), .sc (.int .i64 0)], .cells 45 [.sc (.int .i64 n_), .sc (.int .i64 n__1), .sc (.int .i64 n__2), .sc (.int .i64 n__3), .sc (.int .i64 n__4)]], none⟩
noncomputable def f15.l0d (k : Nat) (t13 t13_1 t13_2 t13_3 t13_4 n_ n__1 n__2 n__3 n__4 : Int) : Option PV := loopAt Tryd.prog cf ext hint k 15 [1, 1, 0, 1, 0] ⟨[.top, .top, .top, .top, .ptr 0 0, .ptr 1 0, .top, .top, .top, .top, .top, .top, .top, .agg [.sc (.int .i64 t13), .sc (.int .i64 t13_1), .sc (.int .i64 t13_2), .sc (.int .i64 t13_3), .sc (.int .i64 t13_4)], .sc (.int .i64 3), .top, .top, .top, .top, .top, .top, .top, .top, .top, .top, .top, .top], [.cells 23 [.sc (.int .i64 0), .sc (.int .i64 0), .sc (.int .i64 0), .sc (.int .i64 0), .sc (.int .i64 0)], .cells 45 [.sc (.int .i64 n_), .sc (.int .i64 n__1), .sc (.int .i64 n__2), .sc (.int .i64 n__3), .sc (.int .i64 n__4)]], none⟩
noncomputable def f15.l0e (k : Nat) (t13 t13_1 t13_2 t13_3 t13_4 n_ n__1 n__2 n__3 n__4 : Int) : Option PV := loopAt Tryd.prog cf ext hint k 15 [1, 1, 0, 1, 0] ⟨[.top, .top, .top, .top, .ptr 0 0, .ptr 1 0, .top, .top, .top, .top, .top, .top, .top, .agg [.sc (.int .i64 t13), .sc (.int .i64 t13_1), .sc (.int .i64 t13_2), .sc (.int .i64 t13_3), .sc (.int .i64 t13_4)], .sc (.int .i64 4), .top, .top, .top, .top, .top, .top, .top, .top, .top, .top, .top, .top], [.cells 23 [.sc (.int .i64 0), .sc (.int .i64 0), .sc (.int .i64 0), .sc (.int .i64 0), .sc (.int .i64 0)], .cells 45 [.sc (.int .i64 n_), .sc (.int .i64 n__1), .sc (.int .i64 n__2), .sc (.int .i64 n__3), .sc (.int .i64 n__4)]], none⟩
noncomputable def f15.l0f (k : Nat) (t13 t13_1 t13_2 t13_3 t13_4 n_ n__1 n__2 n__3 n__4 : Int) : Option PV := loopAt Tryd.prog cf ext hint k 15 [1, 1, 0, 1, 0] ⟨[.top, .top, .top, .top, .ptr 0 0, .ptr 1 0, .top, .top, .top, .top, .top, .top, .top, .agg [.sc (.int .i64 t13), .sc (.int .i64 t13_1), .sc (.int .i64 t13_2), .sc (.int .i64 t13_3), .sc (.int .i64 t13_4)], .sc (.int .i64 5), .top, .top, .top, .top, .top, .top, .top, .top, .top, .top, .top, .top], [.cells 23 [.sc (.int .i64 0), .sc (.int .i64 0), .sc (.int .i64 0), .sc (.int .i64 0), .sc (.int .i64 0)], .cells 45 [.sc (.int .i64 n_), .sc (.int .i64 n__1), .sc (.int .i64 n__2), .sc (.int .i64 n__3), .sc (.int .i64 n__4)]], none⟩
theorem f15_eq (k : Nat) (a a_1 a_2 a_3 a_4 b b_1 b_2 b_3 b_4 : Int) : D 15 [.agg [.sc (.int .i64 a), .sc (.int .i64 a_1), .sc (.int .i64 a_2), .sc (.int .i64 a_3), .sc (.int .i64 a_4)], .agg [.sc (.int .i64 b), .sc (.int .i64 b_1), .sc (.int .i64 b_2), .sc (.int .i64 b_3), .sc (.int .i64 b_4)]] =
  (D 16 [.agg [.sc (.int .i64 a), .sc (.int .i64 a_1), .sc (.int .i64 a_2), .sc (.int .i64 a_3), .sc (.int .i64 a_4)]]).bind fun r1 => if hasSh (.agg [(.int .i64), (.int .i64), (.int .i64), (.int .i64), (.int .i64)]) r1 = true then
  (D 16 [.agg [.sc (.int .i64 b), .sc (.int .i64 b_1), .sc (.int .i64 b_2), .sc (.int .i64 b_3), .sc (.int .i64 b_4)]]).bind fun r2 => if hasSh (.agg [(.int .i64), (.int .i64), (.int .i64), (.int .i64), (.int .i64)]) r2 = true then
  f15.l0a k ((cel 0 r2.cells).toInt) ((cel 1 r2.cells).toInt) ((cel 2 r2.cells).toInt) ((cel 3 r2.cells).toInt) ((cel 4 r2.cells).toInt) ((cel 0 r1.cells).toInt) ((cel 1 r1.cells).toInt) ((cel 2 r1.cells).toInt) ((cel 3 r1.cells).toInt) ((cel 4 r1.cells).toInt)
  else none
  else none :=
  (denI_eq k _ _).trans (by kernel_rfl)
theorem f15.l0a_eq (k : Nat) (t13 t13_1 t13_2 t13_3 t13_4 n_ n__1 n__2 n__3 n__4 : Int) : f15.l0a k t13 t13_1 t13_2 t13_3 t13_4 n_ n__1 n__2 n__3 n__4 =
  f15.l0b k t13 t13_1 t13_2 t13_3 t13_4 (IntKind.i64.wrap (n_ + t13)) n__1 n__2 n__3 n__4 :=
  (loopAt_eq _ _ _ _).trans (by kernel_rfl)
theorem f15.l0b_eq (k : Nat) (t13 t13_1 t13_2 t13_3 t13_4 n_ n__1 n__2 n__3 n__4 : Int) : f15.l0b k t13 t13_1 t13_2 t13_3 t13_4 n_ n__1 n__2 n__3 n__4 =
  f15.l0c k t13 t13_1 t13_2 t13_3 t13_4 n_ (IntKind.i64.wrap (n__1 + t13_1)) n__2 n__3 n__4 :=
  (loopAt_eq _ _ _ _).trans (by kernel_rfl)
theorem f15.l0c_eq (k : Nat) (t13 t13_1 t13_2 t13_3 t13_4 n_ n__1 n__2 n__3 n__4 : Int) : f15.l0c k t13 t13_1 t13_2 t13_3 t13_4 n_ n__1 n__2 n__3 n__4 =
  f15.l0d k t13 t13_1 t13_2 t13_3 t13_4 n_ n__1 (IntKind.i64.wrap (n__2 + t13_2)) n__3 n__4 :=
  (loopAt_eq _ _ _ _).trans (by kernel_rfl)
theorem f15.l0d_eq (k : Nat) (t13 t13_1 t13_2 t13_3 t13_4 n_ n__1 n__2 n__3 n__4 : Int) : f15.l0d k t13 t13_1 t13_2 t13_3 t13_4 n_ n__1 n__2 n__3 n__4 =
  f15.l0e k t13 t13_1 t13_2 t13_3 t13_4 n_ n__1 n__2 (IntKind.i64.wrap (n__3 + t13_3)) n__4 :=
  (loopAt_eq _ _ _ _).trans (by kernel_rfl)
theorem f15.l0e_eq (k : Nat) (t13 t13_1 t13_2 t13_3 t13_4 n_ n__1 n__2 n__3 n__4 : Int) : f15.l0e k t13 t13_1 t13_2 t13_3 t13_4 n_ n__1 n__2 n__3 n__4 =
  f15.l0f k t13 t13_1 t13_2 t13_3 t13_4 n_ n__1 n__2 n__3 (IntKind.i64.wrap (n__4 + t13_4)) :=
  (loopAt_eq _ _ _ _).trans (by kernel_rfl)
theorem f15.l0f_eq (k : Nat) (t13 t13_1 t13_2 t13_3 t13_4 n_ n__1 n__2 n__3 n__4 : Int) : f15.l0f k t13 t13_1 t13_2 t13_3 t13_4 n_ n__1 n__2 n__3 n__4 =
  (D 22 [.agg [.sc (.int .i64 n_), .sc (.int .i64 n__1), .sc (.int .i64 n__2), .sc (.int .i64 n__3), .sc (.int .i64 n__4)]]).bind fun r3 => if hasSh (.agg [(.int .i64), (.int .i64), (.int .i64), (.int .i64), (.int .i64)]) r3 = true then
  some (.agg [.sc (.int .i64 ((cel 0 r3.cells).toInt)), .sc (.int .i64 ((cel 1 r3.cells).toInt)), .sc (.int .i64 ((cel 2 r3.cells).toInt)), .sc (.int .i64 ((cel 3 r3.cells).toInt)), .sc (.int .i64 ((cel 4 r3.cells).toInt))])
  else none :=
  (loopAt_eq _ _ _ _).trans (by kernel_rfl)
end EM
end Go.Den
