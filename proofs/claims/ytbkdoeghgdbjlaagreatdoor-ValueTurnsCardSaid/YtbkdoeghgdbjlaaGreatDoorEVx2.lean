import Derived.Test.YtbkdoeghgdbjlaaGreatDoorEVh
import Derived.KernelRfl
set_option maxRecDepth 100000
set_option linter.unusedVariables false
namespace Go.Den
open Go Go.Proofs
namespace EV
-- oculus/oculusref11.Read
noncomputable def f66.j0a (k : Nat) (t : ByteArray) (minus : Bool) (c0 : Int) (c0_1 : Bool) : Option PV := gateK k (placeAt Tryz.prog cf ext hint k 66 [1, 1, 1, 1]) ⟨[.sc (.string t), .top, .ptr 0 0, .sc (.bool minus), .top, .top, .top, .top, .top, .top, .top, .top, .top, .top, .top, .top, .top, .top, .top, .top, .top, .top, .top, .top, .top, .top, .top, .top, .top, .top, .top, .top, .top, .top, .top, .top, .top, .top, .top, .top, .top, .top, .top, .top, .top, .top, .top, .top, .top, .top, .top, .top, .top, .top, .top, .top, .top, .top, .top, .top, .top, .top, .top, .top, .top, .top, .top, .top, .top, .top, .top, .top, .top, .top, .top, .top, .top, .top, .top, .top, .top, .top, .top, .top], [.cells 93 [.sc (.int .i64 c0), .sc (.bool c0_1)]], none⟩
noncomputable def f66.l1a (k : Nat) (t : ByteArray) (minus : Bool) (behind i c0 : Int) (c0_1 : Bool) (n_ : Int) (n__1 : Bool) : Option PV := loopAt Tryz.prog cf ext hint k 66 [1, 1, 1, 1, 1, 1, 0, 1, 0] ⟨[.sc (.string t), .top, .ptr 0 0, .sc (.bool minus), .ptr 1 0, .sc (.int .i64 behind), .sc (.int .i64 i), .top, .top, .top, .top, .top, .top, .top, .top, .top, .top, .top, .top, .top, .top, .top, .top, .top, .top, .top, .top, .top, .top, .top, .top, .top, .top, .top, .top, .top, .top, .top, .top, .top, .top, .top, .top, .top, .top, .top, .top, .top, .top, .top, .top, .top, .top, .top, .top, .top, .top, .top, .top, .top, .top, .top, .top, .top, .top, .top, .top, .top, .top, .top, .top, .top, .top, .top, .top, .top, .top, .top, .top, .top, .top, .top, .top, .top], [.cells 93 [.sc (.int .i64 c0), .sc (.bool c0_1)], .cells 93 [.sc (.int .i64 n_), .sc (.bool n__1)]], none⟩
noncomputable def f66.j2a (k : Nat) (t : ByteArray) (minus : Bool) (behind i c0 : Int) (c0_1 : Bool) (n_ : Int) (n__1 : Bool) : Option PV := gateK k (placeAt Tryz.prog cf ext hint k 66 [1, 1, 1, 1, 1, 1, 0, 1, 0, 0, 1, 0, 0, 1, 1, 1]) ⟨[.sc (.string t), .top, .ptr 0 0, .sc (.bool minus), .ptr 1 0, .sc (.int .i64 behind), .sc (.int .i64 i), .top, .top, .top, .top, .top, .top, .top, .top, .top, .top, .top, .top, .top, .top, .top, .top, .top, .top, .top, .top, .top, .top, .top, .top, .top, .top, .top, .top, .top, .top, .top, .top, .top, .top, .top, .top, .top, .top, .top, .top, .top, .top, .top, .top, .top, .top, .top, .top, .top, .top, .top, .top, .top, .top, .top, .top, .top, .top, .top, .top, .top, .top, .top, .top, .top, .top, .top, .top, .top, .top, .top, .top, .top, .top, .top, .top, .top], [.cells 93 [.sc (.int .i64 c0), .sc (.bool c0_1)], .cells 93 [.sc (.int .i64 n_), .sc (.bool n__1)]], none⟩
noncomputable def f66.l3a (k : Nat) (minus : Bool) (k_ c0 : Int) (c0_1 : Bool) (n_ : Int) (n__1 : Bool) : Option PV := loopAt Tryz.prog cf ext hint k 66 [1, 1, 1, 1, 1, 1, 1, 1, 0, 1, 0] ⟨[.top, .top, .ptr 0 0, .sc (.bool minus), .ptr 1 0, .top, .top, .sc (.int .i64 k_), .top, .top, .top, .top, .top, .top, .top, .top, .top, .top, .top, .top, .top, .top, .top, .top, .top, .top, .top, .top, .top, .top, .top, .top, .top, .top, .top, .top, .top, .top, .top, .top, .top, .top, .top, .top, .top, .top, .top, .top, .top, .top, .top, .top, .top, .top, .top, .top, .top, .top, .top, .top, .top, .top, .top, .top, .top, .top, .top, .top, .top, .top, .top, .top, .top, .top, .top, .top, .top, .top, .top, .top, .top, .top, .top, .top], [.cells 93 [.sc (.int .i64 c0), .sc (.bool c0_1)], .cells 93 [.sc (.int .i64 n_), .sc (.bool n__1)]], none⟩
theorem f66_eq (k : Nat) (t : ByteArray) : D 66 [.sc (.string t)] =
  if decide ((t.size : Int) > 40) = true then
    some (.agg [.sc (.int .i64 0), .sc (.bool false)])
  else
    Option.bind (α := PV) (
      if decide ((t.size : Int) > 0) = true then
        Option.bind (α := PV) (
          if 0 < (t.size : Int) then
            some (.sc (.bool ((bt t 0) == 45)))
          else none) fun r1 =>
        some (.sc (.bool r1.toBool))
      else
        some (.sc (.bool false))) fun r2 =>
    if r2.toBool = true then
      if 0 ≤ (t.size : Int) then
        if (t.size : Int) ≤ (t.size : Int) then
          if 1 ≤ (t.size : Int) then
            f66.j0a k (t.extract 1 (t.size : Int).toNat) r2.toBool 0 false
          else none
        else none
      else none
    else
      f66.j0a k t r2.toBool 0 false :=
  (denI_eq k _ _).trans (by kernel_rfl)
theorem f66.j0a_eq (k : Nat) (t : ByteArray) (minus : Bool) (c0 : Int) (c0_1 : Bool) : f66.j0a k t minus c0 c0_1 =
  f66.l1a k t minus (-1) 0 c0 c0_1 0 true :=
  (gateK_open _ _ _).trans (by kernel_rfl)
theorem f66.l1a_eq (k : Nat) (t : ByteArray) (minus : Bool) (behind i c0 : Int) (c0_1 : Bool) (n_ : Int) (n__1 : Bool) : f66.l1a k t minus behind i c0 c0_1 n_ n__1 =
  if decide (i < (t.size : Int)) = true then
    if 0 ≤ i then
      if i < (t.size : Int) then
        Option.bind (α := PV) (
          if ((bt t i) == 46) = true then
            some (.sc (.bool (decide (behind < 0))))
          else
            some (.sc (.bool false))) fun r3 =>
        Option.bind (α := PV) (
          if r3.toBool = true then
            some (.sc (.bool (decide (i > 0))))
          else
            some (.sc (.bool false))) fun r4 =>
        if r4.toBool = true then
          f66.l1a k t minus 0 (IntKind.i64.wrap (i + 1)) c0 c0_1 n_ n__1
        else
          (D 93 [.sc (.string t), .sc (.int .i64 i)]).bind fun r5 => if hasSh .bool r5 = true then
          if (!r5.toBool) = true then
            some (.agg [.sc (.int .i64 0), .sc (.bool false)])
          else
            if decide (behind ≥ 0) = true then
              f66.j2a k t minus (IntKind.i64.wrap (behind + 1)) i c0 c0_1 n_ n__1
            else
              f66.j2a k t minus behind i c0 c0_1 n_ n__1
          else none
      else none
    else none
  else
    Option.bind (α := PV) (
      if ((t.size : Int) == 0) = true then
        some (.sc (.bool true))
      else
        some (.sc (.bool (behind == 0)))) fun r6 =>
    Option.bind (α := PV) (
      if r6.toBool = true then
        some (.sc (.bool true))
      else
        some (.sc (.bool (decide (behind > 4))))) fun r7 =>
    if r7.toBool = true then
      some (.agg [.sc (.int .i64 0), .sc (.bool false)])
    else
      f66.l3a k minus (if 0 > behind then 0 else behind) c0 c0_1 n_ n__1 :=
  (loopAt_eq _ _ _ _).trans (by kernel_rfl)
theorem f66.j2a_eq (k : Nat) (t : ByteArray) (minus : Bool) (behind i c0 : Int) (c0_1 : Bool) (n_ : Int) (n__1 : Bool) : f66.j2a k t minus behind i c0 c0_1 n_ n__1 =
  if 0 ≤ i then
    if i < (t.size : Int) then
      (D 110 [.agg [.sc (.int .i64 n_), .sc (.bool n__1)], .sc (.int .i64 (IntKind.i64.wrap ((IntKind.i64.wrap (bt t i)) - 48)))]).bind fun r8 => if hasSh (.agg [(.int .i64), .bool]) r8 = true then
      f66.l1a k t minus behind (IntKind.i64.wrap (i + 1)) c0 c0_1 ((cel 0 r8.cells).toInt) ((cel 1 r8.cells).toBool)
      else none
    else none
  else none :=
  (gateK_open _ _ _).trans (by kernel_rfl)
theorem f66.l3a_eq (k : Nat) (minus : Bool) (k_ c0 : Int) (c0_1 : Bool) (n_ : Int) (n__1 : Bool) : f66.l3a k minus k_ c0 c0_1 n_ n__1 =
  if decide (k_ < 4) = true then
    (D 110 [.agg [.sc (.int .i64 n_), .sc (.bool n__1)], .sc (.int .i64 0)]).bind fun r9 => if hasSh (.agg [(.int .i64), .bool]) r9 = true then
    f66.l3a k minus (IntKind.i64.wrap (k_ + 1)) c0 c0_1 ((cel 0 r9.cells).toInt) ((cel 1 r9.cells).toBool)
    else none
  else
    if minus = true then
      some (.agg [.sc (.int .i64 (IntKind.i64.wrap ((0 : Int) - n_))), .sc (.bool n__1)])
    else
      some (.agg [.sc (.int .i64 n_), .sc (.bool n__1)]) :=
  (loopAt_eq _ _ _ _).trans (by kernel_rfl)
-- oculus/oculusref11.Digit
theorem f93_eq (k : Nat) (t : ByteArray) (i : Int) : D 93 [.sc (.string t), .sc (.int .i64 i)] =
  Option.bind (α := PV) (
    if decide (i < (t.size : Int)) = true then
      Option.bind (α := PV) (
        Option.bind (α := PV) (
          if 0 ≤ i then
            if i < (t.size : Int) then
              some (.sc (.bool (decide ((bt t i) ≥ 48))))
            else none
          else none) fun r1 =>
        some (.sc (.bool r1.toBool))) fun r2 =>
      some (.sc (.bool r2.toBool))
    else
      some (.sc (.bool false))) fun r3 =>
  Option.bind (α := PV) (
    if r3.toBool = true then
      Option.bind (α := PV) (
        Option.bind (α := PV) (
          if 0 ≤ i then
            if i < (t.size : Int) then
              some (.sc (.bool (decide ((bt t i) ≤ 57))))
            else none
          else none) fun r4 =>
        some (.sc (.bool r4.toBool))) fun r5 =>
      some (.sc (.bool r5.toBool))
    else
      some (.sc (.bool false))) fun r6 =>
  some (.sc (.bool r6.toBool)) :=
  (denI_eq k _ _).trans (by kernel_rfl)
-- oculus/oculusref11.more
theorem f110_eq (k : Nat) (n_ : Int) (n__1 : Bool) (d_ : Int) : D 110 [.agg [.sc (.int .i64 n_), .sc (.bool n__1)], .sc (.int .i64 d_)] =
  if (!n__1) = true then
    some (.agg [.sc (.int .i64 n_), .sc (.bool n__1)])
  else
    (D 146 [.sc (.int .i64 n_), .sc (.int .i64 10), .sc (.int .i64 1)]).bind fun r1 => if hasSh (.agg [(.int .i64), .bool]) r1 = true then
    if (!((cel 1 r1.cells).toBool)) = true then
      some (.agg [.sc (.int .i64 ((cel 0 r1.cells).toInt)), .sc (.bool ((cel 1 r1.cells).toBool))])
    else
      (D 147 [.sc (.int .i64 ((cel 0 r1.cells).toInt)), .sc (.int .i64 d_)]).bind fun r2 => if hasSh (.agg [(.int .i64), .bool]) r2 = true then
      some (.agg [.sc (.int .i64 ((cel 0 r2.cells).toInt)), .sc (.bool ((cel 1 r2.cells).toBool))])
      else none
    else none :=
  (denI_eq k _ _).trans (by kernel_rfl)
-- oculus/oculusref08.Scaled
noncomputable def f146.j0a (k : Nat) (a b c q c0 : Int) (c0_1 : Bool) : Option PV := gateK k (placeAt Tryz.prog cf ext hint k 146 [1, 1, 1, 1, 1, 1, 1]) ⟨[.sc (.int .i64 a), .sc (.int .i64 b), .sc (.int .i64 c), .top, .top, .top, .ptr 0 0, .top, .top, .sc (.int .u64 q), .top, .top, .top, .top, .top, .top, .top, .top, .top, .top, .top, .top, .top, .top, .top, .top, .top, .top, .top, .top, .top, .top, .top, .top, .top, .top, .top, .top, .top, .top, .top, .top, .top, .top, .top, .top, .top, .top, .top, .top, .top, .top, .top, .top, .top, .top, .top, .top, .top, .top, .top, .top, .top, .top, .top, .top, .top, .top, .top, .top, .top, .top, .top, .top, .top, .top], [.cells 93 [.sc (.int .i64 c0), .sc (.bool c0_1)]], none⟩
theorem f146_eq (k : Nat) (a b c : Int) : D 146 [.sc (.int .i64 a), .sc (.int .i64 b), .sc (.int .i64 c)] =
  (D 56 [.sc (.int .i64 a)]).bind fun r1 => if hasSh .bool r1 = true then
  Option.bind (α := PV) (
    if (!r1.toBool) = true then
      some (.sc (.bool true))
    else
      Option.bind (α := PV) (
        (D 56 [.sc (.int .i64 b)]).bind fun r2 => if hasSh .bool r2 = true then
        some (.sc (.bool (!r2.toBool)))
        else none) fun r3 =>
      some (.sc (.bool r3.toBool))) fun r4 =>
  Option.bind (α := PV) (
    if r4.toBool = true then
      some (.sc (.bool true))
    else
      Option.bind (α := PV) (
        (D 56 [.sc (.int .i64 c)]).bind fun r5 => if hasSh .bool r5 = true then
        some (.sc (.bool (!r5.toBool)))
        else none) fun r6 =>
      some (.sc (.bool r6.toBool))) fun r7 =>
  Option.bind (α := PV) (
    if r7.toBool = true then
      some (.sc (.bool true))
    else
      some (.sc (.bool (c == 0)))) fun r8 =>
  if r8.toBool = true then
    some (.agg [.sc (.int .i64 0), .sc (.bool false)])
  else
    (D 132 [.sc (.int .i64 c)]).bind fun r9 => if hasSh (.int .u64) r9 = true then
    (D 132 [.sc (.int .i64 a)]).bind fun r10 => if hasSh (.int .u64) r10 = true then
    (D 132 [.sc (.int .i64 b)]).bind fun r11 => if hasSh (.int .u64) r11 = true then
    (D 178 [.sc (.int .u64 r10.toInt), .sc (.int .u64 r11.toInt)]).bind fun r12 => if hasSh (.agg [(.int .u64), (.int .u64)]) r12 = true then
    (D 177 [.agg [.sc (.int .u64 ((cel 0 r12.cells).toInt)), .sc (.int .u64 ((cel 1 r12.cells).toInt))], .sc (.int .u64 r9.toInt)]).bind fun r13 => if hasSh (.agg [(.int .u64), (.int .u64), .bool]) r13 = true then
    Option.bind (α := PV) (
      if (!((cel 2 r13.cells).toBool)) = true then
        some (.sc (.bool true))
      else
        some (.sc (.bool (decide (((cel 0 r13.cells).toInt) > 9223372036854775807))))) fun r14 =>
    if r14.toBool = true then
      some (.agg [.sc (.int .i64 0), .sc (.bool false)])
    else
      if decide ((IntKind.u64.wrap (r9.toInt - ((cel 1 r13.cells).toInt))) ≤ ((cel 1 r13.cells).toInt)) = true then
        f146.j0a k a b c (IntKind.u64.wrap (((cel 0 r13.cells).toInt) + 1)) 0 false
      else
        f146.j0a k a b c ((cel 0 r13.cells).toInt) 0 false
    else none
    else none
    else none
    else none
    else none
  else none :=
  (denI_eq k _ _).trans (by kernel_rfl)
theorem f146.j0a_eq (k : Nat) (a b c q c0 : Int) (c0_1 : Bool) : f146.j0a k a b c q c0 c0_1 =
  if decide (q > 9223372036854775807) = true then
    some (.agg [.sc (.int .i64 0), .sc (.bool false)])
  else
    if (!((decide (a < 0)) == (decide (b < 0)))) = true then
      if decide (c < 0) = true then
        some (.agg [.sc (.int .i64 (IntKind.i64.wrap ((0 : Int) - (IntKind.i64.wrap ((0 : Int) - (IntKind.i64.wrap (q))))))), .sc (.bool true)])
      else
        some (.agg [.sc (.int .i64 (IntKind.i64.wrap ((0 : Int) - (IntKind.i64.wrap (q))))), .sc (.bool true)])
    else
      if decide (c < 0) = true then
        some (.agg [.sc (.int .i64 (IntKind.i64.wrap ((0 : Int) - (IntKind.i64.wrap (q))))), .sc (.bool true)])
      else
        some (.agg [.sc (.int .i64 (IntKind.i64.wrap (q))), .sc (.bool true)]) :=
  (gateK_open _ _ _).trans (by kernel_rfl)
-- oculus/oculusref08.Abs
theorem f132_eq (k : Nat) (x_ : Int) : D 132 [.sc (.int .i64 x_)] =
  if decide (x_ < 0) = true then
    some (.sc (.int .u64 (IntKind.u64.wrap (IntKind.i64.wrap ((0 : Int) - x_)))))
  else
    some (.sc (.int .u64 (IntKind.u64.wrap (x_)))) :=
  (denI_eq k _ _).trans (by kernel_rfl)
-- oculus/oculusref08.Divide
noncomputable def f177.l0a (k : Nat) (by_ i n_ n__1 c1 c1_1 : Int) (c1_2 : Bool) (out out_1 : Int) (out_2 : Bool) : Option PV := loopAt Tryz.prog cf ext hint k 177 [1, 1, 0, 1, 0] ⟨[.top, .sc (.int .u64 by_), .ptr 0 0, .top, .ptr 1 0, .ptr 2 0, .sc (.int .i64 i), .top, .top, .top, .top, .top, .top, .top, .top, .top, .top, .top, .top, .top, .top, .top, .top, .top, .top, .top, .top, .top, .top, .top, .top, .top, .top, .top, .top, .top, .top, .top, .top, .top, .top, .top, .top, .top, .top, .top, .top, .top, .top, .top, .top, .top, .top, .top, .top, .top, .top, .top, .top, .top], [.cells 196 [.sc (.int .u64 n_), .sc (.int .u64 n__1)], .cells 193 [.sc (.int .u64 c1), .sc (.int .u64 c1_1), .sc (.bool c1_2)], .cells 193 [.sc (.int .u64 out), .sc (.int .u64 out_1), .sc (.bool out_2)]], none⟩
theorem f177_eq (k : Nat) (n_ n__1 by_ : Int) : D 177 [.agg [.sc (.int .u64 n_), .sc (.int .u64 n__1)], .sc (.int .u64 by_)] =
  f177.l0a k by_ 0 n_ n__1 0 0 false 0 0 true :=
  (denI_eq k _ _).trans (by kernel_rfl)
theorem f177.l0a_eq (k : Nat) (by_ i n_ n__1 c1 c1_1 : Int) (c1_2 : Bool) (out out_1 : Int) (out_2 : Bool) : f177.l0a k by_ i n_ n__1 c1 c1_1 c1_2 out out_1 out_2 =
  if decide (i < 128) = true then
    Option.bind (α := PV) (
      if out_2 = true then
        some (.sc (.bool (decide (out < 9223372036854775808))))
      else
        some (.sc (.bool false))) fun r1 =>
    if decide ((IntKind.u64.wrap ((IntKind.u64.wrap (out_1 * 2)) + (IntKind.u64.wrap (n_.tdiv 9223372036854775808)))) ≥ by_) = true then
      f177.l0a k by_ (IntKind.i64.wrap (i + 1)) (IntKind.u64.wrap ((IntKind.u64.wrap (n_ * 2)) + (IntKind.u64.wrap (n__1.tdiv 9223372036854775808)))) (IntKind.u64.wrap (n__1 * 2)) c1 c1_1 c1_2 (IntKind.u64.wrap ((IntKind.u64.wrap (out * 2)) + 1)) (IntKind.u64.wrap ((IntKind.u64.wrap ((IntKind.u64.wrap (out_1 * 2)) + (IntKind.u64.wrap (n_.tdiv 9223372036854775808)))) - by_)) r1.toBool
    else
      f177.l0a k by_ (IntKind.i64.wrap (i + 1)) (IntKind.u64.wrap ((IntKind.u64.wrap (n_ * 2)) + (IntKind.u64.wrap (n__1.tdiv 9223372036854775808)))) (IntKind.u64.wrap (n__1 * 2)) c1 c1_1 c1_2 (IntKind.u64.wrap (out * 2)) (IntKind.u64.wrap ((IntKind.u64.wrap (out_1 * 2)) + (IntKind.u64.wrap (n_.tdiv 9223372036854775808)))) r1.toBool
  else
    some (.agg [.sc (.int .u64 out), .sc (.int .u64 out_1), .sc (.bool out_2)]) :=
  (loopAt_eq _ _ _ _).trans (by kernel_rfl)
-- oculus/oculusref08.Times
theorem f178_eq (k : Nat) (a b : Int) : D 178 [.sc (.int .u64 a), .sc (.int .u64 b)] =
  some (.agg [.sc (.int .u64 (IntKind.u64.wrap ((IntKind.u64.wrap ((IntKind.u64.wrap ((IntKind.u64.wrap (a.tdiv 4294967296)) * (IntKind.u64.wrap (b.tdiv 4294967296)))) + (IntKind.u64.wrap ((IntKind.u64.wrap ((IntKind.u64.wrap ((IntKind.u64.wrap (a.tdiv 4294967296)) * (b.tmod 4294967296))) + (IntKind.u64.wrap ((IntKind.u64.wrap ((a.tmod 4294967296) * (b.tmod 4294967296))).tdiv 4294967296)))).tdiv 4294967296)))) + (IntKind.u64.wrap ((IntKind.u64.wrap ((IntKind.u64.wrap ((a.tmod 4294967296) * (IntKind.u64.wrap (b.tdiv 4294967296)))) + ((IntKind.u64.wrap ((IntKind.u64.wrap ((IntKind.u64.wrap (a.tdiv 4294967296)) * (b.tmod 4294967296))) + (IntKind.u64.wrap ((IntKind.u64.wrap ((a.tmod 4294967296) * (b.tmod 4294967296))).tdiv 4294967296)))).tmod 4294967296))).tdiv 4294967296))))), .sc (.int .u64 (IntKind.u64.wrap ((IntKind.u64.wrap (((IntKind.u64.wrap ((IntKind.u64.wrap ((a.tmod 4294967296) * (IntKind.u64.wrap (b.tdiv 4294967296)))) + ((IntKind.u64.wrap ((IntKind.u64.wrap ((IntKind.u64.wrap (a.tdiv 4294967296)) * (b.tmod 4294967296))) + (IntKind.u64.wrap ((IntKind.u64.wrap ((a.tmod 4294967296) * (b.tmod 4294967296))).tdiv 4294967296)))).tmod 4294967296))).tmod 4294967296) * 4294967296)) + ((IntKind.u64.wrap ((a.tmod 4294967296) * (b.tmod 4294967296))).tmod 4294967296))))]) :=
  (denI_eq k _ _).trans (by kernel_rfl)
-- oculus/oculusref08.Add
theorem f147_eq (k : Nat) (a b : Int) : D 147 [.sc (.int .i64 a), .sc (.int .i64 b)] =
  (D 56 [.sc (.int .i64 a)]).bind fun r1 => if hasSh .bool r1 = true then
  Option.bind (α := PV) (
    if (!r1.toBool) = true then
      some (.sc (.bool true))
    else
      Option.bind (α := PV) (
        (D 56 [.sc (.int .i64 b)]).bind fun r2 => if hasSh .bool r2 = true then
        some (.sc (.bool (!r2.toBool)))
        else none) fun r3 =>
      some (.sc (.bool r3.toBool))) fun r4 =>
  Option.bind (α := PV) (
    if r4.toBool = true then
      some (.sc (.bool true))
    else
      Option.bind (α := PV) (
        Option.bind (α := PV) (
          Option.bind (α := PV) (
            if decide (b > 0) = true then
              some (.sc (.bool (decide (a > (IntKind.i64.wrap ((9223372036854775807 : Int) - b))))))
            else
              some (.sc (.bool false))) fun r5 =>
          some (.sc (.bool r5.toBool))) fun r6 =>
        some (.sc (.bool r6.toBool))) fun r7 =>
      some (.sc (.bool r7.toBool))) fun r8 =>
  Option.bind (α := PV) (
    if r8.toBool = true then
      some (.sc (.bool true))
    else
      Option.bind (α := PV) (
        Option.bind (α := PV) (
          Option.bind (α := PV) (
            if decide (b < 0) = true then
              some (.sc (.bool (decide (a < (IntKind.i64.wrap (((-9223372036854775807) : Int) - b))))))
            else
              some (.sc (.bool false))) fun r9 =>
          some (.sc (.bool r9.toBool))) fun r10 =>
        some (.sc (.bool r10.toBool))) fun r11 =>
      some (.sc (.bool r11.toBool))) fun r12 =>
  if r12.toBool = true then
    some (.agg [.sc (.int .i64 0), .sc (.bool false)])
  else
    some (.agg [.sc (.int .i64 (IntKind.i64.wrap (a + b))), .sc (.bool true)])
  else none :=
  (denI_eq k _ _).trans (by kernel_rfl)
-- oculus/oculusref12.AsText
theorem f15_eq (k : Nat) (v_ v__1 : Int) (v__2 : ByteArray) : D 15 [.agg [.sc (.int .i64 v_), .sc (.int .i64 v__1), .sc (.string v__2)]] =
  if (v_ == 4) = true then
    some (.agg [.sc (.int .i64 v_), .sc (.int .i64 v__1), .sc (.string v__2)])
  else
    (D 69 [.agg [.sc (.int .i64 v_), .sc (.int .i64 v__1), .sc (.string v__2)]]).bind fun r1 => if hasSh .str r1 = true then
    (D 68 [.sc (.string r1.toStr)]).bind fun r2 => if hasSh (.agg [(.int .i64), (.int .i64), .str]) r2 = true then
    some (.agg [.sc (.int .i64 ((cel 0 r2.cells).toInt)), .sc (.int .i64 ((cel 1 r2.cells).toInt)), .sc (.string ((cel 2 r2.cells).toStr))])
    else none
    else none :=
  (denI_eq k _ _).trans (by kernel_rfl)
-- oculus/oculusref12.Str
theorem f68_eq (k : Nat) (t : ByteArray) : D 68 [.sc (.string t)] =
  if decide ((t.size : Int) > 256) = true then
    (D 67 [.sc (.int .i64 2)]).bind fun r1 => if hasSh (.agg [(.int .i64), (.int .i64), .str]) r1 = true then
    some (.agg [.sc (.int .i64 ((cel 0 r1.cells).toInt)), .sc (.int .i64 ((cel 1 r1.cells).toInt)), .sc (.string ((cel 2 r1.cells).toStr))])
    else none
  else
    some (.agg [.sc (.int .i64 2), .sc (.int .i64 0), .sc (.string t)]) :=
  (denI_eq k _ _).trans (by kernel_rfl)
-- oculus/oculusref12.Words
theorem f69_eq (k : Nat) (v_ v__1 : Int) (v__2 : ByteArray) : D 69 [.agg [.sc (.int .i64 v_), .sc (.int .i64 v__1), .sc (.string v__2)]] =
  if (v_ == 1) = true then
    (D 92 [.sc (.int .i64 v__1)]).bind fun r1 => if hasSh .str r1 = true then
    some (.sc (.string r1.toStr))
    else none
  else
    Option.bind (α := PV) (
      if (v_ == 3) = true then
        some (.sc (.bool (v__1 == 1)))
      else
        some (.sc (.bool false))) fun r2 =>
    if r2.toBool = true then
      some (.sc (.string (⟨#[84, 82, 85, 69]⟩ : ByteArray)))
    else
      if (v_ == 3) = true then
        some (.sc (.string (⟨#[70, 65, 76, 83, 69]⟩ : ByteArray)))
      else
        some (.sc (.string v__2)) :=
  (denI_eq k _ _).trans (by kernel_rfl)
-- oculus/oculusref11.Text
noncomputable def f92.j0a (k : Nat) (n_ : Int) (s_ : ByteArray) : Option PV := gateK k (placeAt Tryz.prog cf ext hint k 92 [1, 1, 1, 1, 1]) ⟨[.top, .top, .top, .sc (.int .u64 n_), .sc (.string s_), .top, .top, .top, .top, .top, .top, .top, .top, .top, .top, .top, .top, .top, .top, .top, .top, .top, .top, .top, .top, .top, .top, .top, .top, .top, .top, .top, .top, .top, .top], [], none⟩
noncomputable def f92.j1a (k : Nat) (s_ : ByteArray) (rest : Int) : Option PV := gateK k (placeAt Tryz.prog cf ext hint k 92 [1, 1, 1, 1, 1, 1, 1]) ⟨[.top, .top, .top, .top, .sc (.string s_), .sc (.int .u64 rest), .top, .top, .top, .top, .top, .top, .top, .top, .top, .top, .top, .top, .top, .top, .top, .top, .top, .top, .top, .top, .top, .top, .top, .top, .top, .top, .top, .top, .top], [], none⟩
noncomputable def f92.l2a (k : Nat) (s_ : ByteArray) (rest : Int) : Option PV := loopAt Tryz.prog cf ext hint k 92 [1, 1, 1, 1, 1, 1, 1, 0, 0] ⟨[.top, .top, .top, .top, .sc (.string s_), .sc (.int .u64 rest), .top, .top, .top, .top, .top, .top, .top, .top, .top, .top, .top, .top, .top, .top, .top, .top, .top, .top, .top, .top, .top, .top, .top, .top, .top, .top, .top, .top, .top], [], none⟩
theorem f92_eq (k : Nat) (x_ : Int) : D 92 [.sc (.int .i64 x_)] =
  (D 56 [.sc (.int .i64 x_)]).bind fun r1 => if hasSh .bool r1 = true then
  if (!r1.toBool) = true then
    some (.sc (.string (⟨#[]⟩ : ByteArray)))
  else
    (D 132 [.sc (.int .i64 x_)]).bind fun r2 => if hasSh (.int .u64) r2 = true then
    (D 133 [.sc (.int .u64 (IntKind.u64.wrap (r2.toInt.tdiv 10000)))]).bind fun r3 => if hasSh .str r3 = true then
    if decide (x_ < 0) = true then
      if 1 + r3.toStr.size ≤ 9223372036854775807 then
        f92.j0a k r2.toInt ((⟨#[45]⟩ : ByteArray) ++ r3.toStr)
      else none
    else
      f92.j0a k r2.toInt r3.toStr
    else none
    else none
  else none :=
  (denI_eq k _ _).trans (by kernel_rfl)
theorem f92.j0a_eq (k : Nat) (n_ : Int) (s_ : ByteArray) : f92.j0a k n_ s_ =
  if decide ((n_.tmod 10000) > 0) = true then
    if s_.size + 1 ≤ 9223372036854775807 then
      f92.j1a k (s_ ++ (⟨#[46]⟩ : ByteArray)) (n_.tmod 10000)
    else none
  else
    f92.j1a k s_ (n_.tmod 10000) :=
  (gateK_open _ _ _).trans (by kernel_rfl)
theorem f92.j1a_eq (k : Nat) (s_ : ByteArray) (rest : Int) : f92.j1a k s_ rest =
  f92.l2a k s_ rest :=
  (gateK_open _ _ _).trans (by kernel_rfl)
theorem f92.l2a_eq (k : Nat) (s_ : ByteArray) (rest : Int) : f92.l2a k s_ rest =
  if decide (rest > 0) = true then
    (D 133 [.sc (.int .u64 (IntKind.u64.wrap (rest.tdiv 1000)))]).bind fun r4 => if hasSh .str r4 = true then
    if s_.size + r4.toStr.size ≤ 9223372036854775807 then
      f92.l2a k (s_ ++ r4.toStr) (IntKind.u64.wrap ((rest.tmod 1000) * 10))
    else none
    else none
  else
    some (.sc (.string s_)) :=
  (loopAt_eq _ _ _ _).trans (by kernel_rfl)
-- oculus/oculusref11.whole
noncomputable def f133.l0a (k : Nat) (n_ : Int) (s_ : ByteArray) : Option PV := loopAt Tryz.prog cf ext hint k 133 [1, 1, 0, 1, 0] ⟨[.sc (.int .u64 n_), .top, .top, .sc (.string s_), .top, .top, .top, .top, .top, .top, .top, .top, .top, .top, .top, .top, .top, .top, .top, .top, .top, .top, .top, .top, .top], [], none⟩
theorem f133_eq (k : Nat) (n_ : Int) : D 133 [.sc (.int .u64 n_)] =
  if ([.sc (.int .u8 (IntKind.u8.wrap (IntKind.u64.wrap ((48 : Int) + (n_.tmod 10)))))] : List PV).all (hasSh (.int .u8)) = true then
    f133.l0a k (IntKind.u64.wrap (n_.tdiv 10)) (bytesOf ([.sc (.int .u8 (IntKind.u8.wrap (IntKind.u64.wrap ((48 : Int) + (n_.tmod 10)))))] : List PV))
  else none :=
  (denI_eq k _ _).trans (by kernel_rfl)
theorem f133.l0a_eq (k : Nat) (n_ : Int) (s_ : ByteArray) : f133.l0a k n_ s_ =
  if decide (n_ > 0) = true then
    if ([.sc (.int .u8 (IntKind.u8.wrap (IntKind.u64.wrap ((48 : Int) + (n_.tmod 10)))))] : List PV).all (hasSh (.int .u8)) = true then
      if (bytesOf ([.sc (.int .u8 (IntKind.u8.wrap (IntKind.u64.wrap ((48 : Int) + (n_.tmod 10)))))] : List PV)).size + s_.size ≤ 9223372036854775807 then
        f133.l0a k (IntKind.u64.wrap (n_.tdiv 10)) ((bytesOf ([.sc (.int .u8 (IntKind.u8.wrap (IntKind.u64.wrap ((48 : Int) + (n_.tmod 10)))))] : List PV)) ++ s_)
      else none
    else none
  else
    some (.sc (.string s_)) :=
  (loopAt_eq _ _ _ _).trans (by kernel_rfl)
-- oculus/oculusref12.AsTruth
theorem f16_eq (k : Nat) (v_ v__1 : Int) (v__2 : ByteArray) : D 16 [.agg [.sc (.int .i64 v_), .sc (.int .i64 v__1), .sc (.string v__2)]] =
  Option.bind (α := PV) (
    if (v_ == 3) = true then
      some (.sc (.bool true))
    else
      some (.sc (.bool (v_ == 4)))) fun r1 =>
  if r1.toBool = true then
    some (.agg [.sc (.int .i64 v_), .sc (.int .i64 v__1), .sc (.string v__2)])
  else
    Option.bind (α := PV) (
      if (v_ == 2) = true then
        some (.sc (.bool (!(v__2.toList == (⟨#[84, 82, 85, 69]⟩ : ByteArray).toList))))
      else
        some (.sc (.bool false))) fun r2 =>
    Option.bind (α := PV) (
      if r2.toBool = true then
        some (.sc (.bool (!(v__2.toList == (⟨#[70, 65, 76, 83, 69]⟩ : ByteArray).toList))))
      else
        some (.sc (.bool false))) fun r3 =>
    if r3.toBool = true then
      (D 67 [.sc (.int .i64 2)]).bind fun r4 => if hasSh (.agg [(.int .i64), (.int .i64), .str]) r4 = true then
      some (.agg [.sc (.int .i64 ((cel 0 r4.cells).toInt)), .sc (.int .i64 ((cel 1 r4.cells).toInt)), .sc (.string ((cel 2 r4.cells).toStr))])
      else none
    else
      Option.bind (α := PV) (
        if (v__1 != 0) = true then
          some (.sc (.bool true))
        else
          some (.sc (.bool (v__2.toList == (⟨#[84, 82, 85, 69]⟩ : ByteArray).toList)))) fun r5 =>
      (D 70 [.sc (.bool r5.toBool)]).bind fun r6 => if hasSh (.agg [(.int .i64), (.int .i64), .str]) r6 = true then
      some (.agg [.sc (.int .i64 ((cel 0 r6.cells).toInt)), .sc (.int .i64 ((cel 1 r6.cells).toInt)), .sc (.string ((cel 2 r6.cells).toStr))])
      else none :=
  (denI_eq k _ _).trans (by kernel_rfl)
-- oculus/oculusref12.Bool
theorem f70_eq (k : Nat) (is : Bool) : D 70 [.sc (.bool is)] =
  if is = true then
    some (.agg [.sc (.int .i64 3), .sc (.int .i64 1), .sc (.string (⟨#[]⟩ : ByteArray))])
  else
    some (.agg [.sc (.int .i64 3), .sc (.int .i64 0), .sc (.string (⟨#[]⟩ : ByteArray))]) :=
  (denI_eq k _ _).trans (by kernel_rfl)
-- oculus/oculusref12.Show
theorem f18_eq (k : Nat) (v_ v__1 : Int) (v__2 : ByteArray) : D 18 [.agg [.sc (.int .i64 v_), .sc (.int .i64 v__1), .sc (.string v__2)]] =
  if (v_ == 2) = true then
    (D 20 [.sc (.string v__2)]).bind fun r1 => if hasSh .str r1 = true then
    some (.sc (.string r1.toStr))
    else none
  else
    if (v_ == 4) = true then
      (D 72 [.sc (.int .i64 v__1)]).bind fun r2 => if hasSh .str r2 = true then
      some (.sc (.string r2.toStr))
      else none
    else
      (D 69 [.agg [.sc (.int .i64 v_), .sc (.int .i64 v__1), .sc (.string v__2)]]).bind fun r3 => if hasSh .str r3 = true then
      some (.sc (.string r3.toStr))
      else none :=
  (denI_eq k _ _).trans (by kernel_rfl)
-- oculus/oculusref12.Quote
noncomputable def f20.l0a (k : Nat) (t : ByteArray) (i : Int) (out : List PV) : Option PV := loopAt Tryz.prog cf ext hint k 20 [1, 1, 0, 1, 0] ⟨[.sc (.string t), .top, .top, .buf 0 0, .sc (.int .i64 i), .top, .top, .top, .top, .top, .top, .top, .top, .top, .top, .top, .top, .top, .top, .top, .top, .top, .top, .top, .top, .top, .top, .top, .top, .top], [.buf 5 0 out], none⟩
theorem f20_eq (k : Nat) (t : ByteArray) : D 20 [.sc (.string t)] =
  f20.l0a k t 0 ([.sc (.int .u8 34)] : List PV) :=
  (denI_eq k _ _).trans (by kernel_rfl)
theorem f20.l0a_eq (k : Nat) (t : ByteArray) (i : Int) (out : List PV) : f20.l0a k t i out =
  if decide (i < (t.size : Int)) = true then
    if 0 ≤ i then
      if i < (t.size : Int) then
        if ((bt t i) == 34) = true then
          if (out.length + ([.sc (.int .u8 34)] : List PV).length) * 1 ≤ 140737488355328 ∧ out.length + ([.sc (.int .u8 34)] : List PV).length ≤ 140737488355328 then
            if 0 ≤ i then
              if i < (t.size : Int) then
                if ((out ++ ([.sc (.int .u8 34)] : List PV)).length + ([.sc (.int .u8 (bt t i))] : List PV).length) * 1 ≤ 140737488355328 ∧ (out ++ ([.sc (.int .u8 34)] : List PV)).length + ([.sc (.int .u8 (bt t i))] : List PV).length ≤ 140737488355328 then
                  f20.l0a k t (IntKind.i64.wrap (i + 1)) ((out ++ ([.sc (.int .u8 34)] : List PV)) ++ ([.sc (.int .u8 (bt t i))] : List PV))
                else none
              else none
            else none
          else none
        else
          if 0 ≤ i then
            if i < (t.size : Int) then
              if (out.length + ([.sc (.int .u8 (bt t i))] : List PV).length) * 1 ≤ 140737488355328 ∧ out.length + ([.sc (.int .u8 (bt t i))] : List PV).length ≤ 140737488355328 then
                f20.l0a k t (IntKind.i64.wrap (i + 1)) (out ++ ([.sc (.int .u8 (bt t i))] : List PV))
              else none
            else none
          else none
      else none
    else none
  else
    if (out.length + ([.sc (.int .u8 34)] : List PV).length) * 1 ≤ 140737488355328 ∧ out.length + ([.sc (.int .u8 34)] : List PV).length ≤ 140737488355328 then
      if (out ++ ([.sc (.int .u8 34)] : List PV)).all (hasSh (.int .u8)) = true then
        some (.sc (.string (bytesOf (out ++ ([.sc (.int .u8 34)] : List PV)))))
      else none
    else none :=
  (loopAt_eq _ _ _ _).trans (by kernel_rfl)
-- oculus/oculusref12.FaultText
theorem f72_eq (k : Nat) (code : Int) : D 72 [.sc (.int .i64 code)] =
  Option.bind (α := PV) (
    if decide (code < 1) = true then
      some (.sc (.bool true))
    else
      some (.sc (.bool (decide (code > 7))))) fun r1 =>
  if r1.toBool = true then
    some (.sc (.string (⟨#[]⟩ : ByteArray)))
  else
    if 0 ≤ IntKind.i64.wrap (code - 1) then
      if IntKind.i64.wrap (code - 1) < (([.sc (.string (⟨#[35, 68, 73, 86]⟩ : ByteArray)), .sc (.string (⟨#[35, 86, 65, 76, 85, 69]⟩ : ByteArray)), .sc (.string (⟨#[35, 82, 69, 70]⟩ : ByteArray)), .sc (.string (⟨#[35, 78, 85, 77]⟩ : ByteArray)), .sc (.string (⟨#[35, 78, 65]⟩ : ByteArray)), .sc (.string (⟨#[35, 65, 85, 84, 72]⟩ : ByteArray)), .sc (.string (⟨#[35, 67, 89, 67, 76, 69]⟩ : ByteArray))] : List PV).length : Int) then
        if hasSh .str (([.sc (.string (⟨#[35, 68, 73, 86]⟩ : ByteArray)), .sc (.string (⟨#[35, 86, 65, 76, 85, 69]⟩ : ByteArray)), .sc (.string (⟨#[35, 82, 69, 70]⟩ : ByteArray)), .sc (.string (⟨#[35, 78, 85, 77]⟩ : ByteArray)), .sc (.string (⟨#[35, 78, 65]⟩ : ByteArray)), .sc (.string (⟨#[35, 65, 85, 84, 72]⟩ : ByteArray)), .sc (.string (⟨#[35, 67, 89, 67, 76, 69]⟩ : ByteArray))] : List PV).getD (IntKind.i64.wrap (code - 1)).toNat .top) = true then
          some (.sc (.string ((([.sc (.string (⟨#[35, 68, 73, 86]⟩ : ByteArray)), .sc (.string (⟨#[35, 86, 65, 76, 85, 69]⟩ : ByteArray)), .sc (.string (⟨#[35, 82, 69, 70]⟩ : ByteArray)), .sc (.string (⟨#[35, 78, 85, 77]⟩ : ByteArray)), .sc (.string (⟨#[35, 78, 65]⟩ : ByteArray)), .sc (.string (⟨#[35, 65, 85, 84, 72]⟩ : ByteArray)), .sc (.string (⟨#[35, 67, 89, 67, 76, 69]⟩ : ByteArray))] : List PV).getD (IntKind.i64.wrap (code - 1)).toNat .top).toStr)))
        else none
      else none
    else none :=
  (denI_eq k _ _).trans (by kernel_rfl)
end EV
end Go.Den
