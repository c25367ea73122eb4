import Derived.Test.YtbkdoeghgdbjlaaGreatDoorEXh
import Derived.KernelRfl
set_option maxRecDepth 100000
set_option linter.unusedVariables false
namespace Go.Den
open Go Go.Proofs
namespace EX
-- oculus/oculusref08.Scaled
noncomputable def f146.j0a (k : Nat) (a b c q c0 : Int) (c0_1 : Bool) : Option PV := gateK k (placeAt Tryz.prog cf ext hint k 146 [1, 1, 1, 1, 1, 1, 1]) ⟨[.sc (.int .i64 a), .sc (.int .i64 b), .sc (.int .i64 c), .top, .top, .top, .ptr 0 0, .top, .top, .sc (.int .u64 q), .top, .top, .top, .top, .top, .top, .top, .top, .top, .top, .top, .top, .top, .top, .top, .top, .top, .top, .top, .top, .top, .top, .top, .top, .top, .top, .top, .top, .top, .top, .top, .top, .top, .top, .top, .top, .top, .top, .top, .top, .top, .top, .top, .top, .top, .top, .top, .top, .top, .top, .top, .top, .top, .top, .top, .top, .top, .top, .top, .top, .top, .top, .top, .top, .top, .top], [.cells 93 [.sc (.int .i64 c0), .sc (.bool c0_1)]], none⟩
theorem f146_eq (k : Nat) (a b c : Int) : D 146 [.sc (.int .i64 a), .sc (.int .i64 b), .sc (.int .i64 c)] =
  (D 56 [.sc (.int .i64 a)]).bind fun r1 => if hasSh .bool r1 = true then
  Option.bind (α := PV) (
    if (!r1.toBool) = true then
      some (.sc (.bool true))
    else
      Option.bind (α := PV) (
        (D 56 [.sc (.int .i64 b)]).bind fun r2 => if hasSh .bool r2 = true then
        some (.sc (.bool (!r2.toBool)))
        else none) fun r3 =>
      some (.sc (.bool r3.toBool))) fun r4 =>
  Option.bind (α := PV) (
    if r4.toBool = true then
      some (.sc (.bool true))
    else
      Option.bind (α := PV) (
        (D 56 [.sc (.int .i64 c)]).bind fun r5 => if hasSh .bool r5 = true then
        some (.sc (.bool (!r5.toBool)))
        else none) fun r6 =>
      some (.sc (.bool r6.toBool))) fun r7 =>
  Option.bind (α := PV) (
    if r7.toBool = true then
      some (.sc (.bool true))
    else
      some (.sc (.bool (c == 0)))) fun r8 =>
  if r8.toBool = true then
    some (.agg [.sc (.int .i64 0), .sc (.bool false)])
  else
    (D 132 [.sc (.int .i64 c)]).bind fun r9 => if hasSh (.int .u64) r9 = true then
    (D 132 [.sc (.int .i64 a)]).bind fun r10 => if hasSh (.int .u64) r10 = true then
    (D 132 [.sc (.int .i64 b)]).bind fun r11 => if hasSh (.int .u64) r11 = true then
    (D 178 [.sc (.int .u64 r10.toInt), .sc (.int .u64 r11.toInt)]).bind fun r12 => if hasSh (.agg [(.int .u64), (.int .u64)]) r12 = true then
    (D 177 [.agg [.sc (.int .u64 ((cel 0 r12.cells).toInt)), .sc (.int .u64 ((cel 1 r12.cells).toInt))], .sc (.int .u64 r9.toInt)]).bind fun r13 => if hasSh (.agg [(.int .u64), (.int .u64), .bool]) r13 = true then
    Option.bind (α := PV) (
      if (!((cel 2 r13.cells).toBool)) = true then
        some (.sc (.bool true))
      else
        some (.sc (.bool (decide (((cel 0 r13.cells).toInt) > 9223372036854775807))))) fun r14 =>
    if r14.toBool = true then
      some (.agg [.sc (.int .i64 0), .sc (.bool false)])
    else
      if decide ((IntKind.u64.wrap (r9.toInt - ((cel 1 r13.cells).toInt))) ≤ ((cel 1 r13.cells).toInt)) = true then
        f146.j0a k a b c (IntKind.u64.wrap (((cel 0 r13.cells).toInt) + 1)) 0 false
      else
        f146.j0a k a b c ((cel 0 r13.cells).toInt) 0 false
    else none
    else none
    else none
    else none
    else none
  else none :=
  (denI_eq k _ _).trans (by kernel_rfl)
theorem f146.j0a_eq (k : Nat) (a b c q c0 : Int) (c0_1 : Bool) : f146.j0a k a b c q c0 c0_1 =
  if decide (q > 9223372036854775807) = true then
    some (.agg [.sc (.int .i64 0), .sc (.bool false)])
  else
    if (!((decide (a < 0)) == (decide (b < 0)))) = true then
      if decide (c < 0) = true then
        some (.agg [.sc (.int .i64 (IntKind.i64.wrap ((0 : Int) - (IntKind.i64.wrap ((0 : Int) - (IntKind.i64.wrap (q))))))), .sc (.bool true)])
      else
        some (.agg [.sc (.int .i64 (IntKind.i64.wrap ((0 : Int) - (IntKind.i64.wrap (q))))), .sc (.bool true)])
    else
      if decide (c < 0) = true then
        some (.agg [.sc (.int .i64 (IntKind.i64.wrap ((0 : Int) - (IntKind.i64.wrap (q))))), .sc (.bool true)])
      else
        some (.agg [.sc (.int .i64 (IntKind.i64.wrap (q))), .sc (.bool true)]) :=
  (gateK_open _ _ _).trans (by kernel_rfl)
-- oculus/oculusref08.May
theorem f56_eq (k : Nat) (x_ : Int) : D 56 [.sc (.int .i64 x_)] =
  some (.sc (.bool (decide (x_ ≥ (-9223372036854775807))))) :=
  (denI_eq k _ _).trans (by kernel_rfl)
-- oculus/oculusref08.Abs
theorem f132_eq (k : Nat) (x_ : Int) : D 132 [.sc (.int .i64 x_)] =
  if decide (x_ < 0) = true then
    some (.sc (.int .u64 (IntKind.u64.wrap (IntKind.i64.wrap ((0 : Int) - x_)))))
  else
    some (.sc (.int .u64 (IntKind.u64.wrap (x_)))) :=
  (denI_eq k _ _).trans (by kernel_rfl)
-- oculus/oculusref08.Divide
noncomputable def f177.l0a (k : Nat) (by_ i n_ n__1 c1 c1_1 : Int) (c1_2 : Bool) (out out_1 : Int) (out_2 : Bool) : Option PV := loopAt Tryz.prog cf ext hint k 177 [1, 1, 0, 1, 0] ⟨[.top, .sc (.int .u64 by_), .ptr 0 0, .top, .ptr 1 0, .ptr 2 0, .sc (.int .i64 i), .top, .top, .top, .top, .top, .top, .top, .top, .top, .top, .top, .top, .top, .top, .top, .top, .top, .top, .top, .top, .top, .top, .top, .top, .top, .top, .top, .top, .top, .top, .top, .top, .top, .top, .top, .top, .top, .top, .top, .top, .top, .top, .top, .top, .top, .top, .top, .top, .top, .top, .top, .top, .top], [.cells 196 [.sc (.int .u64 n_), .sc (.int .u64 n__1)], .cells 193 [.sc (.int .u64 c1), .sc (.int .u64 c1_1), .sc (.bool c1_2)], .cells 193 [.sc (.int .u64 out), .sc (.int .u64 out_1), .sc (.bool out_2)]], none⟩
theorem f177_eq (k : Nat) (n_ n__1 by_ : Int) : D 177 [.agg [.sc (.int .u64 n_), .sc (.int .u64 n__1)], .sc (.int .u64 by_)] =
  f177.l0a k by_ 0 n_ n__1 0 0 false 0 0 true :=
  (denI_eq k _ _).trans (by kernel_rfl)
theorem f177.l0a_eq (k : Nat) (by_ i n_ n__1 c1 c1_1 : Int) (c1_2 : Bool) (out out_1 : Int) (out_2 : Bool) : f177.l0a k by_ i n_ n__1 c1 c1_1 c1_2 out out_1 out_2 =
  if decide (i < 128) = true then
    Option.bind (α := PV) (
      if out_2 = true then
        some (.sc (.bool (decide (out < 9223372036854775808))))
      else
        some (.sc (.bool false))) fun r1 =>
    if decide ((IntKind.u64.wrap ((IntKind.u64.wrap (out_1 * 2)) + (IntKind.u64.wrap (n_.tdiv 9223372036854775808)))) ≥ by_) = true then
      f177.l0a k by_ (IntKind.i64.wrap (i + 1)) (IntKind.u64.wrap ((IntKind.u64.wrap (n_ * 2)) + (IntKind.u64.wrap (n__1.tdiv 9223372036854775808)))) (IntKind.u64.wrap (n__1 * 2)) c1 c1_1 c1_2 (IntKind.u64.wrap ((IntKind.u64.wrap (out * 2)) + 1)) (IntKind.u64.wrap ((IntKind.u64.wrap ((IntKind.u64.wrap (out_1 * 2)) + (IntKind.u64.wrap (n_.tdiv 9223372036854775808)))) - by_)) r1.toBool
    else
      f177.l0a k by_ (IntKind.i64.wrap (i + 1)) (IntKind.u64.wrap ((IntKind.u64.wrap (n_ * 2)) + (IntKind.u64.wrap (n__1.tdiv 9223372036854775808)))) (IntKind.u64.wrap (n__1 * 2)) c1 c1_1 c1_2 (IntKind.u64.wrap (out * 2)) (IntKind.u64.wrap ((IntKind.u64.wrap (out_1 * 2)) + (IntKind.u64.wrap (n_.tdiv 9223372036854775808)))) r1.toBool
  else
    some (.agg [.sc (.int .u64 out), .sc (.int .u64 out_1), .sc (.bool out_2)]) :=
  (loopAt_eq _ _ _ _).trans (by kernel_rfl)
-- oculus/oculusref08.Times
theorem f178_eq (k : Nat) (a b : Int) : D 178 [.sc (.int .u64 a), .sc (.int .u64 b)] =
  some (.agg [.sc (.int .u64 (IntKind.u64.wrap ((IntKind.u64.wrap ((IntKind.u64.wrap ((IntKind.u64.wrap (a.tdiv 4294967296)) * (IntKind.u64.wrap (b.tdiv 4294967296)))) + (IntKind.u64.wrap ((IntKind.u64.wrap ((IntKind.u64.wrap ((IntKind.u64.wrap (a.tdiv 4294967296)) * (b.tmod 4294967296))) + (IntKind.u64.wrap ((IntKind.u64.wrap ((a.tmod 4294967296) * (b.tmod 4294967296))).tdiv 4294967296)))).tdiv 4294967296)))) + (IntKind.u64.wrap ((IntKind.u64.wrap ((IntKind.u64.wrap ((a.tmod 4294967296) * (IntKind.u64.wrap (b.tdiv 4294967296)))) + ((IntKind.u64.wrap ((IntKind.u64.wrap ((IntKind.u64.wrap (a.tdiv 4294967296)) * (b.tmod 4294967296))) + (IntKind.u64.wrap ((IntKind.u64.wrap ((a.tmod 4294967296) * (b.tmod 4294967296))).tdiv 4294967296)))).tmod 4294967296))).tdiv 4294967296))))), .sc (.int .u64 (IntKind.u64.wrap ((IntKind.u64.wrap (((IntKind.u64.wrap ((IntKind.u64.wrap ((a.tmod 4294967296) * (IntKind.u64.wrap (b.tdiv 4294967296)))) + ((IntKind.u64.wrap ((IntKind.u64.wrap ((IntKind.u64.wrap (a.tdiv 4294967296)) * (b.tmod 4294967296))) + (IntKind.u64.wrap ((IntKind.u64.wrap ((a.tmod 4294967296) * (b.tmod 4294967296))).tdiv 4294967296)))).tmod 4294967296))).tmod 4294967296) * 4294967296)) + ((IntKind.u64.wrap ((a.tmod 4294967296) * (b.tmod 4294967296))).tmod 4294967296))))]) :=
  (denI_eq k _ _).trans (by kernel_rfl)
-- oculus/oculusref08.Add
theorem f147_eq (k : Nat) (a b : Int) : D 147 [.sc (.int .i64 a), .sc (.int .i64 b)] =
  (D 56 [.sc (.int .i64 a)]).bind fun r1 => if hasSh .bool r1 = true then
  Option.bind (α := PV) (
    if (!r1.toBool) = true then
      some (.sc (.bool true))
    else
      Option.bind (α := PV) (
        (D 56 [.sc (.int .i64 b)]).bind fun r2 => if hasSh .bool r2 = true then
        some (.sc (.bool (!r2.toBool)))
        else none) fun r3 =>
      some (.sc (.bool r3.toBool))) fun r4 =>
  Option.bind (α := PV) (
    if r4.toBool = true then
      some (.sc (.bool true))
    else
      Option.bind (α := PV) (
        Option.bind (α := PV) (
          Option.bind (α := PV) (
            if decide (b > 0) = true then
              some (.sc (.bool (decide (a > (IntKind.i64.wrap ((9223372036854775807 : Int) - b))))))
            else
              some (.sc (.bool false))) fun r5 =>
          some (.sc (.bool r5.toBool))) fun r6 =>
        some (.sc (.bool r6.toBool))) fun r7 =>
      some (.sc (.bool r7.toBool))) fun r8 =>
  Option.bind (α := PV) (
    if r8.toBool = true then
      some (.sc (.bool true))
    else
      Option.bind (α := PV) (
        Option.bind (α := PV) (
          Option.bind (α := PV) (
            if decide (b < 0) = true then
              some (.sc (.bool (decide (a < (IntKind.i64.wrap (((-9223372036854775807) : Int) - b))))))
            else
              some (.sc (.bool false))) fun r9 =>
          some (.sc (.bool r9.toBool))) fun r10 =>
        some (.sc (.bool r10.toBool))) fun r11 =>
      some (.sc (.bool r11.toBool))) fun r12 =>
  if r12.toBool = true then
    some (.agg [.sc (.int .i64 0), .sc (.bool false)])
  else
    some (.agg [.sc (.int .i64 (IntKind.i64.wrap (a + b))), .sc (.bool true)])
  else none :=
  (denI_eq k _ _).trans (by kernel_rfl)
-- oculus/oculusref21.marked
noncomputable def f95.l0a (k : Nat) (s_ : ByteArray) (i : Int) (out : List PV) : Option PV := loopAt Tryz.prog cf ext hint k 95 [1, 1, 1, 0, 0] ⟨[.sc (.string s_), .top, .top, .top, .top, .top, .buf 0 0, .sc (.int .i64 i), .top, .top, .top, .top, .top, .top, .top, .top, .top, .top, .top, .top, .top, .top, .top, .top, .top, .top, .top, .top, .top, .top, .top, .top, .top, .top, .top, .top, .top, .top, .top, .top, .top, .top, .top, .top, .top, .top, .top, .top, .top, .top, .top, .top, .top], [.buf 5 0 out], none⟩
theorem f95_eq (k : Nat) (s_ : ByteArray) (at_ : Int) : D 95 [.sc (.string s_), .sc (.int .i64 at_)] =
  f95.l0a k s_ (IntKind.i64.wrap (at_ + 1)) ([] : List PV) :=
  (denI_eq k _ _).trans (by kernel_rfl)
theorem f95.l0a_eq (k : Nat) (s_ : ByteArray) (i : Int) (out : List PV) : f95.l0a k s_ i out =
  if decide (i < (s_.size : Int)) = true then
    if 0 ≤ i then
      if i < (s_.size : Int) then
        (D 53 [.sc (.int .u8 (bt s_ i))]).bind fun r1 => if hasSh .bool r1 = true then
        if (!r1.toBool) = true then
          some (.tup [.sc (.string (⟨#[]⟩ : ByteArray)), .sc (.int .i64 (-1))])
        else
          if 0 ≤ i then
            if i < (s_.size : Int) then
              if ((bt s_ i) != 34) = true then
                if 0 ≤ i then
                  if i < (s_.size : Int) then
                    if (out.length + ([.sc (.int .u8 (bt s_ i))] : List PV).length) * 1 ≤ 140737488355328 ∧ out.length + ([.sc (.int .u8 (bt s_ i))] : List PV).length ≤ 140737488355328 then
                      f95.l0a k s_ (IntKind.i64.wrap (i + 1)) (out ++ ([.sc (.int .u8 (bt s_ i))] : List PV))
                    else none
                  else none
                else none
              else
                Option.bind (α := PV) (
                  if decide ((IntKind.i64.wrap (i + 1)) ≥ (s_.size : Int)) = true then
                    some (.sc (.bool true))
                  else
                    Option.bind (α := PV) (
                      Option.bind (α := PV) (
                        Option.bind (α := PV) (
                          if 0 ≤ IntKind.i64.wrap (i + 1) then
                            if IntKind.i64.wrap (i + 1) < (s_.size : Int) then
                              some (.sc (.bool ((bt s_ (IntKind.i64.wrap (i + 1))) != 34)))
                            else none
                          else none) fun r2 =>
                        some (.sc (.bool r2.toBool))) fun r3 =>
                      some (.sc (.bool r3.toBool))) fun r4 =>
                    some (.sc (.bool r4.toBool))) fun r5 =>
                if r5.toBool = true then
                  if out.all (hasSh (.int .u8)) = true then
                    some (.tup [.sc (.string (bytesOf out)), .sc (.int .i64 (IntKind.i64.wrap (i + 1)))])
                  else none
                else
                  if (out.length + ([.sc (.int .u8 34)] : List PV).length) * 1 ≤ 140737488355328 ∧ out.length + ([.sc (.int .u8 34)] : List PV).length ≤ 140737488355328 then
                    f95.l0a k s_ (IntKind.i64.wrap (i + 2)) (out ++ ([.sc (.int .u8 34)] : List PV))
                  else none
            else none
          else none
        else none
      else none
    else none
  else
    some (.tup [.sc (.string (⟨#[]⟩ : ByteArray)), .sc (.int .i64 (-1))]) :=
  (loopAt_eq _ _ _ _).trans (by kernel_rfl)
-- oculus/oculusref21.Plain
theorem f53_eq (k : Nat) (b : Int) : D 53 [.sc (.int .u8 b)] =
  Option.bind (α := PV) (
    if decide (b ≥ 32) = true then
      some (.sc (.bool (b != 127)))
    else
      some (.sc (.bool false))) fun r1 =>
  some (.sc (.bool r1.toBool)) :=
  (denI_eq k _ _).trans (by kernel_rfl)
-- oculus/oculusref21.upper
theorem f96_eq (k : Nat) (b : Int) : D 96 [.sc (.int .u8 b)] =
  Option.bind (α := PV) (
    if decide (b ≥ 65) = true then
      some (.sc (.bool (decide (b ≤ 90))))
    else
      some (.sc (.bool false))) fun r1 =>
  Option.bind (α := PV) (
    if r1.toBool = true then
      some (.sc (.bool true))
    else
      some (.sc (.bool (b == 36)))) fun r2 =>
  some (.sc (.bool r2.toBool)) :=
  (denI_eq k _ _).trans (by kernel_rfl)
-- oculus/oculusref21.sign
noncomputable def f97.l0a (k : Nat) (s_ : ByteArray) (at_ i : Int) (l : List PV) : Option PV := loopAt Tryz.prog cf ext hint k 97 [1, 1, 0, 1, 0] ⟨[.sc (.string s_), .sc (.int .i64 at_), .top, .top, .top, .buf 0 0, .sc (.int .i64 i), .top, .top, .top, .top, .top, .top, .top, .top, .top, .top, .top, .top, .top, .top, .top, .top, .top, .top, .top, .top, .top, .top, .top, .top, .top, .top, .top, .top, .top, .top, .top, .top, .top, .top, .top, .top, .top, .top], [.buf 9 0 l], none⟩
theorem f97_eq (k : Nat) (s_ : ByteArray) (at_ : Int) : D 97 [.sc (.string s_), .sc (.int .i64 at_)] =
  f97.l0a k s_ at_ 0 ([.sc (.string (⟨#[35, 82, 69, 70]⟩ : ByteArray)), .sc (.string (⟨#[60, 62]⟩ : ByteArray)), .sc (.string (⟨#[60, 61]⟩ : ByteArray)), .sc (.string (⟨#[62, 61]⟩ : ByteArray)), .sc (.string (⟨#[43]⟩ : ByteArray)), .sc (.string (⟨#[45]⟩ : ByteArray)), .sc (.string (⟨#[42]⟩ : ByteArray)), .sc (.string (⟨#[47]⟩ : ByteArray)), .sc (.string (⟨#[94]⟩ : ByteArray)), .sc (.string (⟨#[38]⟩ : ByteArray)), .sc (.string (⟨#[61]⟩ : ByteArray)), .sc (.string (⟨#[60]⟩ : ByteArray)), .sc (.string (⟨#[62]⟩ : ByteArray)), .sc (.string (⟨#[40]⟩ : ByteArray)), .sc (.string (⟨#[41]⟩ : ByteArray)), .sc (.string (⟨#[44]⟩ : ByteArray)), .sc (.string (⟨#[58]⟩ : ByteArray))] : List PV) :=
  (denI_eq k _ _).trans (by kernel_rfl)
theorem f97.l0a_eq (k : Nat) (s_ : ByteArray) (at_ i : Int) (l : List PV) : f97.l0a k s_ at_ i l =
  if decide (i < (l.length : Int)) = true then
    if 0 ≤ i then
      if i < (l.length : Int) then
        if hasSh .str (l.getD i.toNat .top) = true then
          Option.bind (α := PV) (
            if decide ((IntKind.i64.wrap ((s_.size : Int) - at_)) ≥ (((l.getD i.toNat .top).toStr).size : Int)) = true then
              Option.bind (α := PV) (
                Option.bind (α := PV) (
                  Option.bind (α := PV) (
                    Option.bind (α := PV) (
                      Option.bind (α := PV) (
                        if 0 ≤ i then
                          if i < (l.length : Int) then
                            if hasSh .str (l.getD i.toNat .top) = true then
                              Option.bind (α := PV) (
                                Option.bind (α := PV) (
                                  Option.bind (α := PV) (
                                    Option.bind (α := PV) (
                                      if 0 ≤ IntKind.i64.wrap (at_ + (((l.getD i.toNat .top).toStr).size : Int)) then
                                        if IntKind.i64.wrap (at_ + (((l.getD i.toNat .top).toStr).size : Int)) ≤ (s_.size : Int) then
                                          if 0 ≤ at_ then
                                            if at_ ≤ IntKind.i64.wrap (at_ + (((l.getD i.toNat .top).toStr).size : Int)) then
                                              Option.bind (α := PV) (
                                                Option.bind (α := PV) (
                                                  Option.bind (α := PV) (
                                                    if 0 ≤ i then
                                                      if i < (l.length : Int) then
                                                        if hasSh .str (l.getD i.toNat .top) = true then
                                                          some (.sc (.bool ((s_.extract at_.toNat (IntKind.i64.wrap (at_ + (((l.getD i.toNat .top).toStr).size : Int))).toNat).toList == ((l.getD i.toNat .top).toStr).toList)))
                                                        else none
                                                      else none
                                                    else none) fun r1 =>
                                                  some (.sc (.bool r1.toBool))) fun r2 =>
                                                some (.sc (.bool r2.toBool))) fun r3 =>
                                              some (.sc (.bool r3.toBool))
                                            else none
                                          else none
                                        else none
                                      else none) fun r4 =>
                                    some (.sc (.bool r4.toBool))) fun r5 =>
                                  some (.sc (.bool r5.toBool))) fun r6 =>
                                some (.sc (.bool r6.toBool))) fun r7 =>
                              some (.sc (.bool r7.toBool))
                            else none
                          else none
                        else none) fun r8 =>
                      some (.sc (.bool r8.toBool))) fun r9 =>
                    some (.sc (.bool r9.toBool))) fun r10 =>
                  some (.sc (.bool r10.toBool))) fun r11 =>
                some (.sc (.bool r11.toBool))) fun r12 =>
              some (.sc (.bool r12.toBool))
            else
              some (.sc (.bool false))) fun r13 =>
          if r13.toBool = true then
            if 0 ≤ i then
              if i < (l.length : Int) then
                if hasSh .str (l.getD i.toNat .top) = true then
                  some (.sc (.string ((l.getD i.toNat .top).toStr)))
                else none
              else none
            else none
          else
            f97.l0a k s_ at_ (IntKind.i64.wrap (i + 1)) l
        else none
      else none
    else none
  else
    some (.sc (.string (⟨#[]⟩ : ByteArray))) :=
  (loopAt_eq _ _ _ _).trans (by kernel_rfl)
-- oculus/oculuslaw21.same
noncomputable def f54.l0a (k : Nat) (wn : Nat) (wf : Nat → PV) (t12n : Nat) (t12f : Nat → PV) (t13 t14 : Int) : Option PV := loopAt Tryz.prog cf ext hint k 54 [1, 1, 0, 1, 0] ⟨[.top, .lst 4 wn wf, .top, .top, .top, .top, .top, .top, .top, .top, .top, .top, .lst 4 t12n t12f, .sc (.int .i64 t13), .sc (.int .i64 t14), .top, .top, .top, .top, .top, .top, .top, .top, .top, .top, .top, .top, .top, .top, .top, .top, .top, .top, .top, .top, .top, .top, .top, .top, .top, .top, .top, .top, .top, .top, .top, .top, .top, .top, .top, .top, .top, .top, .top, .top, .top, .top, .top], [], none⟩
theorem f54_eq (k : Nat) (ln : Nat) (lf : Nat → PV) (wn : Nat) (wf : Nat → PV) : D 54 [.lst 4 ln lf, .lst 4 wn wf] =
  if ((ln : Int) != (wn : Int)) = true then
    some (.sc (.bool false))
  else
    f54.l0a k wn wf ln lf (ln : Int) 0 :=
  (denI_eq k _ _).trans (by kernel_rfl)
theorem f54.l0a_eq (k : Nat) (wn : Nat) (wf : Nat → PV) (t12n : Nat) (t12f : Nat → PV) (t13 t14 : Int) : f54.l0a k wn wf t12n t12f t13 t14 =
  if decide (t14 < t13) = true then
    if 0 ≤ t14 then
      if t14 < (t12n : Int) then
        if hasSh (.agg [(.int .i64), (.int .i64), .str, (.int .i64)]) (t12f t14.toNat) = true then
          if 0 ≤ t14 then
            if t14 < (wn : Int) then
              if hasSh (.agg [(.int .i64), (.int .i64), .str, (.int .i64)]) (wf t14.toNat) = true then
                Option.bind (α := PV) (
                  if (((cel 0 (t12f t14.toNat).cells).toInt) != ((cel 0 (wf t14.toNat).cells).toInt)) = true then
                    some (.sc (.bool true))
                  else
                    Option.bind (α := PV) (
                      Option.bind (α := PV) (
                        Option.bind (α := PV) (
                          Option.bind (α := PV) (
                            if 0 ≤ t14 then
                              if t14 < (wn : Int) then
                                if hasSh (.agg [(.int .i64), (.int .i64), .str, (.int .i64)]) (wf t14.toNat) = true then
                                  some (.sc (.bool (((cel 1 (t12f t14.toNat).cells).toInt) != ((cel 1 (wf t14.toNat).cells).toInt))))
                                else none
                              else none
                            else none) fun r1 =>
                          some (.sc (.bool r1.toBool))) fun r2 =>
                        some (.sc (.bool r2.toBool))) fun r3 =>
                      some (.sc (.bool r3.toBool))) fun r4 =>
                    some (.sc (.bool r4.toBool))) fun r5 =>
                Option.bind (α := PV) (
                  if r5.toBool = true then
                    some (.sc (.bool true))
                  else
                    Option.bind (α := PV) (
                      Option.bind (α := PV) (
                        Option.bind (α := PV) (
                          Option.bind (α := PV) (
                            if 0 ≤ t14 then
                              if t14 < (wn : Int) then
                                if hasSh (.agg [(.int .i64), (.int .i64), .str, (.int .i64)]) (wf t14.toNat) = true then
                                  some (.sc (.bool (!(((cel 2 (t12f t14.toNat).cells).toStr).toList == ((cel 2 (wf t14.toNat).cells).toStr).toList))))
                                else none
                              else none
                            else none) fun r6 =>
                          some (.sc (.bool r6.toBool))) fun r7 =>
                        some (.sc (.bool r7.toBool))) fun r8 =>
                      some (.sc (.bool r8.toBool))) fun r9 =>
                    some (.sc (.bool r9.toBool))) fun r10 =>
                Option.bind (α := PV) (
                  if r10.toBool = true then
                    some (.sc (.bool true))
                  else
                    Option.bind (α := PV) (
                      Option.bind (α := PV) (
                        Option.bind (α := PV) (
                          Option.bind (α := PV) (
                            if 0 ≤ t14 then
                              if t14 < (wn : Int) then
                                if hasSh (.agg [(.int .i64), (.int .i64), .str, (.int .i64)]) (wf t14.toNat) = true then
                                  some (.sc (.bool (((cel 3 (t12f t14.toNat).cells).toInt) != ((cel 3 (wf t14.toNat).cells).toInt))))
                                else none
                              else none
                            else none) fun r11 =>
                          some (.sc (.bool r11.toBool))) fun r12 =>
                        some (.sc (.bool r12.toBool))) fun r13 =>
                      some (.sc (.bool r13.toBool))) fun r14 =>
                    some (.sc (.bool r14.toBool))) fun r15 =>
                if r15.toBool = true then
                  some (.sc (.bool false))
                else
                  f54.l0a k wn wf t12n t12f t13 (IntKind.i64.wrap (t14 + 1))
              else none
            else none
          else none
        else none
      else none
    else none
  else
    some (.sc (.bool true)) :=
  (loopAt_eq _ _ _ _).trans (by kernel_rfl)
-- oculus/lex.Plain
noncomputable def f55.l0a (k : Nat) (t : ByteArray) (t5 t6 : Int) : Option PV := loopAt Tryz.prog cf ext hint k 55 [1, 0, 1, 0] ⟨[.sc (.string t), .top, .top, .top, .top, .sc (.int .i64 t5), .sc (.int .i64 t6), .top, .top, .top, .top, .top, .top, .top, .top], [], none⟩
theorem f55_eq (k : Nat) (t : ByteArray) : D 55 [.sc (.string t)] =
  f55.l0a k t (t.size : Int) 0 :=
  (denI_eq k _ _).trans (by kernel_rfl)
theorem f55.l0a_eq (k : Nat) (t : ByteArray) (t5 t6 : Int) : f55.l0a k t t5 t6 =
  if decide (t6 < t5) = true then
    if 0 ≤ t6 then
      if t6 < (t.size : Int) then
        (D 98 [.sc (.int .u8 (bt t t6))]).bind fun r1 => if hasSh .bool r1 = true then
        if (!r1.toBool) = true then
          some (.sc (.bool false))
        else
          f55.l0a k t t5 (IntKind.i64.wrap (t6 + 1))
        else none
      else none
    else none
  else
    some (.sc (.bool true)) :=
  (loopAt_eq _ _ _ _).trans (by kernel_rfl)
-- oculus/oculuslaw21.LexBack
theorem f7_eq (k : Nat) (s_ : ByteArray) : D 7 [.sc (.string s_)] =
  if decide ((s_.size : Int) > 300) = true then
    (D 47 []).bind fun r1 => if hasSh .bool r1 = true then
    some (.sc (.bool r1.toBool))
    else none
  else
    (D 48 [.sc (.string s_)]).bind fun r2 => if hasSh (.tup [(.lst 4), (.int .i64), (.int .i64)]) r2 = true then
    if (((cel 2 r2.parts).toInt) != 0) = true then
      Option.bind (α := PV) (
        if (((cel 0 r2.parts).len : Int) == 0) = true then
          Option.bind (α := PV) (
            (D 49 [.lst 4 ((cel 0 r2.parts).len) ((cel 0 r2.parts).at)]).bind fun r3 => if hasSh .str r3 = true then
            some (.sc (.bool (r3.toStr.toList == (⟨#[]⟩ : ByteArray).toList)))
            else none) fun r4 =>
          some (.sc (.bool r4.toBool))
        else
          some (.sc (.bool false))) fun r5 =>
      Option.bind (α := PV) (
        if r5.toBool = true then
          (D 47 []).bind fun r6 => if hasSh .bool r6 = true then
          some (.sc (.bool r6.toBool))
          else none
        else
          some (.sc (.bool false))) fun r7 =>
      some (.sc (.bool r7.toBool))
    else
      (D 49 [.lst 4 ((cel 0 r2.parts).len) ((cel 0 r2.parts).at)]).bind fun r8 => if hasSh .str r8 = true then
      (D 48 [.sc (.string r8.toStr)]).bind fun r9 => if hasSh (.tup [(.lst 4), (.int .i64), (.int .i64)]) r9 = true then
      (D 51 [.sc (.string s_)]).bind fun r10 => if hasSh (.agg [(.lst 4), (.int .i64), (.int .i64)]) r10 = true then
      (D 50 [.lst 4 ((cel 0 r10.cells).len) ((cel 0 r10.cells).at)]).bind fun r11 => if hasSh .str r11 = true then
      if (!(r8.toStr.toList == r11.toStr.toList)) = true then
        some (.sc (.bool false))
      else
        if decide ((r8.toStr.size : Int) > 200) = true then
          Option.bind (α := PV) (
            if (((cel 2 r9.parts).toInt) == 3) = true then
              (D 47 []).bind fun r12 => if hasSh .bool r12 = true then
              some (.sc (.bool r12.toBool))
              else none
            else
              some (.sc (.bool false))) fun r13 =>
          some (.sc (.bool r13.toBool))
        else
          Option.bind (α := PV) (
            if (((cel 2 r9.parts).toInt) == 0) = true then
              some (.sc (.bool (((cel 1 r9.parts).toInt) == 0)))
            else
              some (.sc (.bool false))) fun r14 =>
          Option.bind (α := PV) (
            if r14.toBool = true then
              Option.bind (α := PV) (
                Option.bind (α := PV) (
                  (D 52 [.lst 4 ((cel 0 r2.parts).len) ((cel 0 r2.parts).at), .lst 4 ((cel 0 r9.parts).len) ((cel 0 r9.parts).at)]).bind fun r15 => if hasSh .bool r15 = true then
                  some (.sc (.bool r15.toBool))
                  else none) fun r16 =>
                some (.sc (.bool r16.toBool))) fun r17 =>
              some (.sc (.bool r17.toBool))
            else
              some (.sc (.bool false))) fun r18 =>
          Option.bind (α := PV) (
            if r18.toBool = true then
              Option.bind (α := PV) (
                (D 49 [.lst 4 ((cel 0 r9.parts).len) ((cel 0 r9.parts).at)]).bind fun r19 => if hasSh .str r19 = true then
                some (.sc (.bool (r19.toStr.toList == r8.toStr.toList)))
                else none) fun r20 =>
              some (.sc (.bool r20.toBool))
            else
              some (.sc (.bool false))) fun r21 =>
          Option.bind (α := PV) (
            if r21.toBool = true then
              (D 47 []).bind fun r22 => if hasSh .bool r22 = true then
              some (.sc (.bool r22.toBool))
              else none
            else
              some (.sc (.bool false))) fun r23 =>
          some (.sc (.bool r23.toBool))
      else none
      else none
      else none
      else none
    else none :=
  (denI_eq k _ _).trans (by kernel_rfl)
-- oculus/oculusref21.Text
noncomputable def f50.l0a (k : Nat) (ln : Nat) (lf : Nat → PV) (out : ByteArray) (some_ : Bool) (i : Int) : Option PV := loopAt Tryz.prog cf ext hint k 50 [1, 1, 1, 0, 1, 0] ⟨[.lst 4 ln lf, .top, .top, .sc (.string out), .sc (.bool some_), .sc (.int .i64 i), .top, .top, .top, .top, .top, .top, .top, .top, .top, .top, .top, .top, .top, .top, .top, .top, .top, .top, .top, .top, .top, .top, .top, .top, .top, .top, .top, .top, .top, .top, .top, .top, .top, .top, .top, .top, .top, .top, .top, .top, .top, .top, .top, .top, .top, .top, .top, .top, .top, .top, .top, .top, .top, .top, .top, .top, .top], [], none⟩
noncomputable def f50.j1a (k : Nat) (ln : Nat) (lf : Nat → PV) (out : ByteArray) (some_ : Bool) (i : Int) (s_ : ByteArray) : Option PV := gateK k (placeAt Tryz.prog cf ext hint k 50 [1, 1, 1, 0, 1, 0, 0, 1, 0, 0, 1, 1]) ⟨[.lst 4 ln lf, .top, .top, .sc (.string out), .sc (.bool some_), .sc (.int .i64 i), .sc (.string s_), .top, .top, .top, .top, .top, .top, .top, .top, .top, .top, .top, .top, .top, .top, .top, .top, .top, .top, .top, .top, .top, .top, .top, .top, .top, .top, .top, .top, .top, .top, .top, .top, .top, .top, .top, .top, .top, .top, .top, .top, .top, .top, .top, .top, .top, .top, .top, .top, .top, .top, .top, .top, .top, .top, .top, .top], [], none⟩
noncomputable def f50.j2a (k : Nat) (ln : Nat) (lf : Nat → PV) (out : ByteArray) (some_ : Bool) (i : Int) (s_ : ByteArray) : Option PV := gateK k (placeAt Tryz.prog cf ext hint k 50 [1, 1, 1, 0, 1, 0, 0, 1, 0, 0, 1, 1, 1]) ⟨[.lst 4 ln lf, .top, .top, .sc (.string out), .sc (.bool some_), .sc (.int .i64 i), .sc (.string s_), .top, .top, .top, .top, .top, .top, .top, .top, .top, .top, .top, .top, .top, .top, .top, .top, .top, .top, .top, .top, .top, .top, .top, .top, .top, .top, .top, .top, .top, .top, .top, .top, .top, .top, .top, .top, .top, .top, .top, .top, .top, .top, .top, .top, .top, .top, .top, .top, .top, .top, .top, .top, .top, .top, .top, .top], [], none⟩
noncomputable def f50.j3a (k : Nat) (ln : Nat) (lf : Nat → PV) (out : ByteArray) (some_ : Bool) (i : Int) : Option PV := gateK k (placeAt Tryz.prog cf ext hint k 50 [1, 1, 1, 0, 1, 0, 0, 1, 1]) ⟨[.lst 4 ln lf, .top, .top, .sc (.string out), .sc (.bool some_), .sc (.int .i64 i), .top, .top, .top, .top, .top, .top, .top, .top, .top, .top, .top, .top, .top, .top, .top, .top, .top, .top, .top, .top, .top, .top, .top, .top, .top, .top, .top, .top, .top, .top, .top, .top, .top, .top, .top, .top, .top, .top, .top, .top, .top, .top, .top, .top, .top, .top, .top, .top, .top, .top, .top, .top, .top, .top, .top, .top, .top], [], none⟩
theorem f50_eq (k : Nat) (ln : Nat) (lf : Nat → PV) : D 50 [.lst 4 ln lf] =
  f50.l0a k ln lf (⟨#[]⟩ : ByteArray) false 0 :=
  (denI_eq k _ _).trans (by kernel_rfl)
theorem f50.l0a_eq (k : Nat) (ln : Nat) (lf : Nat → PV) (out : ByteArray) (some_ : Bool) (i : Int) : f50.l0a k ln lf out some_ i =
  if decide (i < (ln : Int)) = true then
    if 0 ≤ i then
      if i < (ln : Int) then
        if hasSh (.agg [(.int .i64), (.int .i64), .str, (.int .i64)]) (lf i.toNat) = true then
          if 0 ≤ i then
            if i < (ln : Int) then
              if hasSh (.agg [(.int .i64), (.int .i64), .str, (.int .i64)]) (lf i.toNat) = true then
                if (((cel 0 (lf i.toNat).cells).toInt) == 1) = true then
                  if 0 ≤ i then
                    if i < (ln : Int) then
                      if hasSh (.agg [(.int .i64), (.int .i64), .str, (.int .i64)]) (lf i.toNat) = true then
                        (D 92 [.sc (.int .i64 ((cel 3 (lf i.toNat).cells).toInt))]).bind fun r1 => if hasSh .str r1 = true then
                        f50.j1a k ln lf out some_ i r1.toStr
                        else none
                      else none
                    else none
                  else none
                else
                  f50.j1a k ln lf out some_ i ((cel 2 (lf i.toNat).cells).toStr)
              else none
            else none
          else none
        else none
      else none
    else none
  else
    some (.sc (.string out)) :=
  (loopAt_eq _ _ _ _).trans (by kernel_rfl)
theorem f50.j1a_eq (k : Nat) (ln : Nat) (lf : Nat → PV) (out : ByteArray) (some_ : Bool) (i : Int) (s_ : ByteArray) : f50.j1a k ln lf out some_ i s_ =
  if 0 ≤ i then
    if i < (ln : Int) then
      if hasSh (.agg [(.int .i64), (.int .i64), .str, (.int .i64)]) (lf i.toNat) = true then
        if (((cel 0 (lf i.toNat).cells).toInt) == 2) = true then
          if 0 ≤ i then
            if i < (ln : Int) then
              if hasSh (.agg [(.int .i64), (.int .i64), .str, (.int .i64)]) (lf i.toNat) = true then
                (D 20 [.sc (.string ((cel 2 (lf i.toNat).cells).toStr))]).bind fun r2 => if hasSh .str r2 = true then
                f50.j2a k ln lf out some_ i r2.toStr
                else none
              else none
            else none
          else none
        else
          f50.j2a k ln lf out some_ i s_
      else none
    else none
  else none :=
  (gateK_open _ _ _).trans (by kernel_rfl)
theorem f50.j2a_eq (k : Nat) (ln : Nat) (lf : Nat → PV) (out : ByteArray) (some_ : Bool) (i : Int) (s_ : ByteArray) : f50.j2a k ln lf out some_ i s_ =
  if 0 ≤ i then
    if i < (ln : Int) then
      if hasSh (.agg [(.int .i64), (.int .i64), .str, (.int .i64)]) (lf i.toNat) = true then
        Option.bind (α := PV) (
          if decide (((cel 0 (lf i.toNat).cells).toInt) < 1) = true then
            some (.sc (.bool true))
          else
            Option.bind (α := PV) (
              Option.bind (α := PV) (
                if 0 ≤ i then
                  if i < (ln : Int) then
                    if hasSh (.agg [(.int .i64), (.int .i64), .str, (.int .i64)]) (lf i.toNat) = true then
                      some (.sc (.bool (decide (((cel 0 (lf i.toNat).cells).toInt) > 4))))
                    else none
                  else none
                else none) fun r3 =>
              some (.sc (.bool r3.toBool))) fun r4 =>
            some (.sc (.bool r4.toBool))) fun r5 =>
        if r5.toBool = true then
          f50.j3a k ln lf out some_ i
        else
          if some_ = true then
            if out.size + 1 ≤ 9223372036854775807 then
              if (out ++ (⟨#[32]⟩ : ByteArray)).size + s_.size ≤ 9223372036854775807 then
                f50.j3a k ln lf ((out ++ (⟨#[32]⟩ : ByteArray)) ++ s_) true i
              else none
            else none
          else
            if out.size + s_.size ≤ 9223372036854775807 then
              f50.j3a k ln lf (out ++ s_) true i
            else none
      else none
    else none
  else none :=
  (gateK_open _ _ _).trans (by kernel_rfl)
theorem f50.j3a_eq (k : Nat) (ln : Nat) (lf : Nat → PV) (out : ByteArray) (some_ : Bool) (i : Int) : f50.j3a k ln lf out some_ i =
  f50.l0a k ln lf out some_ (IntKind.i64.wrap (i + 1)) :=
  (gateK_open _ _ _).trans (by kernel_rfl)
-- oculus/oculusref12.Quote
noncomputable def f20.l0a (k : Nat) (t : ByteArray) (i : Int) (out : List PV) : Option PV := loopAt Tryz.prog cf ext hint k 20 [1, 1, 0, 1, 0] ⟨[.sc (.string t), .top, .top, .buf 0 0, .sc (.int .i64 i), .top, .top, .top, .top, .top, .top, .top, .top, .top, .top, .top, .top, .top, .top, .top, .top, .top, .top, .top, .top, .top, .top, .top, .top, .top], [.buf 5 0 out], none⟩
theorem f20_eq (k : Nat) (t : ByteArray) : D 20 [.sc (.string t)] =
  f20.l0a k t 0 ([.sc (.int .u8 34)] : List PV) :=
  (denI_eq k _ _).trans (by kernel_rfl)
theorem f20.l0a_eq (k : Nat) (t : ByteArray) (i : Int) (out : List PV) : f20.l0a k t i out =
  if decide (i < (t.size : Int)) = true then
    if 0 ≤ i then
      if i < (t.size : Int) then
        if ((bt t i) == 34) = true then
          if (out.length + ([.sc (.int .u8 34)] : List PV).length) * 1 ≤ 140737488355328 ∧ out.length + ([.sc (.int .u8 34)] : List PV).length ≤ 140737488355328 then
            if 0 ≤ i then
              if i < (t.size : Int) then
                if ((out ++ ([.sc (.int .u8 34)] : List PV)).length + ([.sc (.int .u8 (bt t i))] : List PV).length) * 1 ≤ 140737488355328 ∧ (out ++ ([.sc (.int .u8 34)] : List PV)).length + ([.sc (.int .u8 (bt t i))] : List PV).length ≤ 140737488355328 then
                  f20.l0a k t (IntKind.i64.wrap (i + 1)) ((out ++ ([.sc (.int .u8 34)] : List PV)) ++ ([.sc (.int .u8 (bt t i))] : List PV))
                else none
              else none
            else none
          else none
        else
          if 0 ≤ i then
            if i < (t.size : Int) then
              if (out.length + ([.sc (.int .u8 (bt t i))] : List PV).length) * 1 ≤ 140737488355328 ∧ out.length + ([.sc (.int .u8 (bt t i))] : List PV).length ≤ 140737488355328 then
                f20.l0a k t (IntKind.i64.wrap (i + 1)) (out ++ ([.sc (.int .u8 (bt t i))] : List PV))
              else none
            else none
          else none
      else none
    else none
  else
    if (out.length + ([.sc (.int .u8 34)] : List PV).length) * 1 ≤ 140737488355328 ∧ out.length + ([.sc (.int .u8 34)] : List PV).length ≤ 140737488355328 then
      if (out ++ ([.sc (.int .u8 34)] : List PV)).all (hasSh (.int .u8)) = true then
        some (.sc (.string (bytesOf (out ++ ([.sc (.int .u8 34)] : List PV)))))
      else none
    else none :=
  (loopAt_eq _ _ _ _).trans (by kernel_rfl)
end EX
end Go.Den
