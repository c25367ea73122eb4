import Derived.Test.YtcfhllbobapaiaaDoorEFh
import Derived.KernelRfl
set_option maxRecDepth 100000
set_option linter.unusedVariables false
namespace Go.Den
open Go Go.Proofs
namespace EF
-- oculus/oculusref15.All
theorem f95_eq (k : Nat) (ln : Nat) (lf : Nat → PV) (way : Int) : D 95 [.lst 3 ln lf, .sc (.int .i64 way)] =
  (D 41 [.lst 3 ln lf]).bind fun r1 => if hasSh (.int .i64) r1 = true then
  if decide (r1.toInt ≥ 0) = true then
    if 0 ≤ r1.toInt then
      if r1.toInt < (ln : Int) then
        if hasSh (.agg [(.int .i64), (.int .i64), .str]) (lf r1.toInt.toNat) = true then
          some (.agg [.sc (.int .i64 ((cel 0 (lf r1.toInt.toNat).cells).toInt)), .sc (.int .i64 ((cel 1 (lf r1.toInt.toNat).cells).toInt)), .sc (.string ((cel 2 (lf r1.toInt.toNat).cells).toStr))])
        else none
      else none
    else none
  else
    (D 89 [.lst 3 ln lf]).bind fun r2 => if hasSh (.lst 1) r2 = true then
    (D 144 [.lst 1 r2.len r2.at, .sc (.int .i64 way)]).bind fun r3 => if hasSh (.agg [(.int .i64), .bool]) r3 = true then
    (D 97 [.agg [.sc (.int .i64 ((cel 0 r3.cells).toInt)), .sc (.bool ((cel 1 r3.cells).toBool))]]).bind fun r4 => if hasSh (.agg [(.int .i64), (.int .i64), .str]) r4 = true then
    some (.agg [.sc (.int .i64 ((cel 0 r4.cells).toInt)), .sc (.int .i64 ((cel 1 r4.cells).toInt)), .sc (.string ((cel 2 r4.cells).toStr))])
    else none
    else none
    else none
  else none :=
  (denI_eq k _ _).trans (by kernel_rfl)
-- oculus/oculusref12.Of
theorem f97_eq (k : Nat) (g : Int) (g_1 : Bool) : D 97 [.agg [.sc (.int .i64 g), .sc (.bool g_1)]] =
  if g_1 = true then
    (D 90 [.sc (.int .i64 g)]).bind fun r1 => if hasSh (.agg [(.int .i64), (.int .i64), .str]) r1 = true then
    some (.agg [.sc (.int .i64 ((cel 0 r1.cells).toInt)), .sc (.int .i64 ((cel 1 r1.cells).toInt)), .sc (.string ((cel 2 r1.cells).toStr))])
    else none
  else
    (D 96 [.sc (.int .i64 4)]).bind fun r2 => if hasSh (.agg [(.int .i64), (.int .i64), .str]) r2 = true then
    some (.agg [.sc (.int .i64 ((cel 0 r2.cells).toInt)), .sc (.int .i64 ((cel 1 r2.cells).toInt)), .sc (.string ((cel 2 r2.cells).toStr))])
    else none :=
  (denI_eq k _ _).trans (by kernel_rfl)
-- oculus/oculusref15.Total
noncomputable def f144.j0a (k : Nat) (nn : Nat) (nf : Nat → PV) (way c0 : Int) (c0_1 : Bool) (out : Int) (out_1 : Bool) : Option PV := gateK k (placeAt Tryd.prog cf ext hint k 144 [1, 1, 1]) ⟨[.lst 1 nn nf, .sc (.int .i64 way), .top, .top, .ptr 0 0, .ptr 1 0, .top, .top, .top, .top, .top, .top, .top, .top, .top, .top, .top, .top, .top, .top, .top, .top, .top, .top, .top, .top, .top, .top, .top, .top, .top, .top, .top, .top, .top], [.cells 28 [.sc (.int .i64 c0), .sc (.bool c0_1)], .cells 28 [.sc (.int .i64 out), .sc (.bool out_1)]], none⟩
noncomputable def f144.l1a (k : Nat) (nn : Nat) (nf : Nat → PV) (way i c0 : Int) (c0_1 : Bool) (out : Int) (out_1 : Bool) : Option PV := loopAt Tryd.prog cf ext hint k 144 [1, 1, 1, 0, 1, 0] ⟨[.lst 1 nn nf, .sc (.int .i64 way), .top, .top, .ptr 0 0, .ptr 1 0, .sc (.int .i64 i), .top, .top, .top, .top, .top, .top, .top, .top, .top, .top, .top, .top, .top, .top, .top, .top, .top, .top, .top, .top, .top, .top, .top, .top, .top, .top, .top, .top], [.cells 28 [.sc (.int .i64 c0), .sc (.bool c0_1)], .cells 28 [.sc (.int .i64 out), .sc (.bool out_1)]], none⟩
theorem f144_eq (k : Nat) (nn : Nat) (nf : Nat → PV) (way : Int) : D 144 [.lst 1 nn nf, .sc (.int .i64 way)] =
  Option.bind (α := PV) (
    if (way == 1) = true then
      some (.sc (.bool (decide ((nn : Int) > 0))))
    else
      some (.sc (.bool false))) fun r1 =>
  if r1.toBool = true then
    f144.j0a k nn nf way 0 false 10000 true
  else
    f144.j0a k nn nf way 0 false 0 true :=
  (denI_eq k _ _).trans (by kernel_rfl)
theorem f144.j0a_eq (k : Nat) (nn : Nat) (nf : Nat → PV) (way c0 : Int) (c0_1 : Bool) (out : Int) (out_1 : Bool) : f144.j0a k nn nf way c0 c0_1 out out_1 =
  f144.l1a k nn nf way 0 c0 c0_1 out out_1 :=
  (gateK_open _ _ _).trans (by kernel_rfl)
theorem f144.l1a_eq (k : Nat) (nn : Nat) (nf : Nat → PV) (way i c0 : Int) (c0_1 : Bool) (out : Int) (out_1 : Bool) : f144.l1a k nn nf way i c0 c0_1 out out_1 =
  Option.bind (α := PV) (
    if decide (i < (nn : Int)) = true then
      some (.sc (.bool out_1))
    else
      some (.sc (.bool false))) fun r2 =>
  if r2.toBool = true then
    if 0 ≤ i then
      if i < (nn : Int) then
        if hasSh (.int .i64) (nf i.toNat) = true then
          (D 171 [.sc (.int .i64 way), .sc (.int .i64 out), .sc (.int .i64 ((nf i.toNat).toInt))]).bind fun r3 => if hasSh (.agg [(.int .i64), .bool]) r3 = true then
          f144.l1a k nn nf way (IntKind.i64.wrap (i + 1)) c0 c0_1 ((cel 0 r3.cells).toInt) ((cel 1 r3.cells).toBool)
          else none
        else none
      else none
    else none
  else
    some (.agg [.sc (.int .i64 out), .sc (.bool out_1)]) :=
  (loopAt_eq _ _ _ _).trans (by kernel_rfl)
-- oculus/oculusref15.step
theorem f171_eq (k : Nat) (way have_ x_ : Int) : D 171 [.sc (.int .i64 way), .sc (.int .i64 have_), .sc (.int .i64 x_)] =
  if (way == 0) = true then
    (D 131 [.sc (.int .i64 have_), .sc (.int .i64 x_)]).bind fun r1 => if hasSh (.agg [(.int .i64), .bool]) r1 = true then
    some (.agg [.sc (.int .i64 ((cel 0 r1.cells).toInt)), .sc (.bool ((cel 1 r1.cells).toBool))])
    else none
  else
    if (way == 1) = true then
      (D 192 [.sc (.int .i64 have_), .sc (.int .i64 x_)]).bind fun r2 => if hasSh (.agg [(.int .i64), .bool]) r2 = true then
      some (.agg [.sc (.int .i64 ((cel 0 r2.cells).toInt)), .sc (.bool ((cel 1 r2.cells).toBool))])
      else none
    else
      (D 192 [.sc (.int .i64 x_), .sc (.int .i64 x_)]).bind fun r3 => if hasSh (.agg [(.int .i64), .bool]) r3 = true then
      if (!((cel 1 r3.cells).toBool)) = true then
        some (.agg [.sc (.int .i64 ((cel 0 r3.cells).toInt)), .sc (.bool ((cel 1 r3.cells).toBool))])
      else
        (D 131 [.sc (.int .i64 have_), .sc (.int .i64 ((cel 0 r3.cells).toInt))]).bind fun r4 => if hasSh (.agg [(.int .i64), .bool]) r4 = true then
        some (.agg [.sc (.int .i64 ((cel 0 r4.cells).toInt)), .sc (.bool ((cel 1 r4.cells).toBool))])
        else none
      else none :=
  (denI_eq k _ _).trans (by kernel_rfl)
-- oculus/oculusref08.Add
theorem f131_eq (k : Nat) (a b : Int) : D 131 [.sc (.int .i64 a), .sc (.int .i64 b)] =
  (D 19 [.sc (.int .i64 a)]).bind fun r1 => if hasSh .bool r1 = true then
  Option.bind (α := PV) (
    if (!r1.toBool) = true then
      some (.sc (.bool true))
    else
      Option.bind (α := PV) (
        (D 19 [.sc (.int .i64 b)]).bind fun r2 => if hasSh .bool r2 = true then
        some (.sc (.bool (!r2.toBool)))
        else none) fun r3 =>
      some (.sc (.bool r3.toBool))) fun r4 =>
  Option.bind (α := PV) (
    if r4.toBool = true then
      some (.sc (.bool true))
    else
      Option.bind (α := PV) (
        Option.bind (α := PV) (
          Option.bind (α := PV) (
            if decide (b > 0) = true then
              some (.sc (.bool (decide (a > (IntKind.i64.wrap ((9223372036854775807 : Int) - b))))))
            else
              some (.sc (.bool false))) fun r5 =>
          some (.sc (.bool r5.toBool))) fun r6 =>
        some (.sc (.bool r6.toBool))) fun r7 =>
      some (.sc (.bool r7.toBool))) fun r8 =>
  Option.bind (α := PV) (
    if r8.toBool = true then
      some (.sc (.bool true))
    else
      Option.bind (α := PV) (
        Option.bind (α := PV) (
          Option.bind (α := PV) (
            if decide (b < 0) = true then
              some (.sc (.bool (decide (a < (IntKind.i64.wrap (((-9223372036854775807) : Int) - b))))))
            else
              some (.sc (.bool false))) fun r9 =>
          some (.sc (.bool r9.toBool))) fun r10 =>
        some (.sc (.bool r10.toBool))) fun r11 =>
      some (.sc (.bool r11.toBool))) fun r12 =>
  if r12.toBool = true then
    some (.agg [.sc (.int .i64 0), .sc (.bool false)])
  else
    some (.agg [.sc (.int .i64 (IntKind.i64.wrap (a + b))), .sc (.bool true)])
  else none :=
  (denI_eq k _ _).trans (by kernel_rfl)
-- oculus/oculusref08.Mul
theorem f192_eq (k : Nat) (a b : Int) : D 192 [.sc (.int .i64 a), .sc (.int .i64 b)] =
  (D 98 [.sc (.int .i64 a), .sc (.int .i64 b), .sc (.int .i64 10000)]).bind fun r1 => if hasSh (.agg [(.int .i64), .bool]) r1 = true then
  some (.agg [.sc (.int .i64 ((cel 0 r1.cells).toInt)), .sc (.bool ((cel 1 r1.cells).toBool))])
  else none :=
  (denI_eq k _ _).trans (by kernel_rfl)
-- oculus/oculusref08.Scaled
noncomputable def f98.j0a (k : Nat) (a b c q c0 : Int) (c0_1 : Bool) : Option PV := gateK k (placeAt Tryd.prog cf ext hint k 98 [1, 1, 1, 1, 1, 1, 1]) ⟨[.sc (.int .i64 a), .sc (.int .i64 b), .sc (.int .i64 c), .top, .top, .top, .ptr 0 0, .top, .top, .sc (.int .u64 q), .top, .top, .top, .top, .top, .top, .top, .top, .top, .top, .top, .top, .top, .top, .top, .top, .top, .top, .top, .top, .top, .top, .top, .top, .top, .top, .top, .top, .top, .top, .top, .top, .top, .top, .top, .top, .top, .top, .top, .top, .top, .top, .top, .top, .top, .top, .top, .top, .top, .top, .top, .top, .top, .top, .top, .top, .top, .top, .top, .top, .top, .top, .top, .top, .top, .top], [.cells 28 [.sc (.int .i64 c0), .sc (.bool c0_1)]], none⟩
theorem f98_eq (k : Nat) (a b c : Int) : D 98 [.sc (.int .i64 a), .sc (.int .i64 b), .sc (.int .i64 c)] =
  (D 19 [.sc (.int .i64 a)]).bind fun r1 => if hasSh .bool r1 = true then
  Option.bind (α := PV) (
    if (!r1.toBool) = true then
      some (.sc (.bool true))
    else
      Option.bind (α := PV) (
        (D 19 [.sc (.int .i64 b)]).bind fun r2 => if hasSh .bool r2 = true then
        some (.sc (.bool (!r2.toBool)))
        else none) fun r3 =>
      some (.sc (.bool r3.toBool))) fun r4 =>
  Option.bind (α := PV) (
    if r4.toBool = true then
      some (.sc (.bool true))
    else
      Option.bind (α := PV) (
        (D 19 [.sc (.int .i64 c)]).bind fun r5 => if hasSh .bool r5 = true then
        some (.sc (.bool (!r5.toBool)))
        else none) fun r6 =>
      some (.sc (.bool r6.toBool))) fun r7 =>
  Option.bind (α := PV) (
    if r7.toBool = true then
      some (.sc (.bool true))
    else
      some (.sc (.bool (c == 0)))) fun r8 =>
  if r8.toBool = true then
    some (.agg [.sc (.int .i64 0), .sc (.bool false)])
  else
    (D 70 [.sc (.int .i64 c)]).bind fun r9 => if hasSh (.int .u64) r9 = true then
    (D 70 [.sc (.int .i64 a)]).bind fun r10 => if hasSh (.int .u64) r10 = true then
    (D 70 [.sc (.int .i64 b)]).bind fun r11 => if hasSh (.int .u64) r11 = true then
    (D 146 [.sc (.int .u64 r10.toInt), .sc (.int .u64 r11.toInt)]).bind fun r12 => if hasSh (.agg [(.int .u64), (.int .u64)]) r12 = true then
    (D 145 [.agg [.sc (.int .u64 ((cel 0 r12.cells).toInt)), .sc (.int .u64 ((cel 1 r12.cells).toInt))], .sc (.int .u64 r9.toInt)]).bind fun r13 => if hasSh (.agg [(.int .u64), (.int .u64), .bool]) r13 = true then
    Option.bind (α := PV) (
      if (!((cel 2 r13.cells).toBool)) = true then
        some (.sc (.bool true))
      else
        some (.sc (.bool (decide (((cel 0 r13.cells).toInt) > 9223372036854775807))))) fun r14 =>
    if r14.toBool = true then
      some (.agg [.sc (.int .i64 0), .sc (.bool false)])
    else
      if decide ((IntKind.u64.wrap (r9.toInt - ((cel 1 r13.cells).toInt))) ≤ ((cel 1 r13.cells).toInt)) = true then
        f98.j0a k a b c (IntKind.u64.wrap (((cel 0 r13.cells).toInt) + 1)) 0 false
      else
        f98.j0a k a b c ((cel 0 r13.cells).toInt) 0 false
    else none
    else none
    else none
    else none
    else none
  else none :=
  (denI_eq k _ _).trans (by kernel_rfl)
theorem f98.j0a_eq (k : Nat) (a b c q c0 : Int) (c0_1 : Bool) : f98.j0a k a b c q c0 c0_1 =
  if decide (q > 9223372036854775807) = true then
    some (.agg [.sc (.int .i64 0), .sc (.bool false)])
  else
    if (!((decide (a < 0)) == (decide (b < 0)))) = true then
      if decide (c < 0) = true then
        some (.agg [.sc (.int .i64 (IntKind.i64.wrap ((0 : Int) - (IntKind.i64.wrap ((0 : Int) - (IntKind.i64.wrap (q))))))), .sc (.bool true)])
      else
        some (.agg [.sc (.int .i64 (IntKind.i64.wrap ((0 : Int) - (IntKind.i64.wrap (q))))), .sc (.bool true)])
    else
      if decide (c < 0) = true then
        some (.agg [.sc (.int .i64 (IntKind.i64.wrap ((0 : Int) - (IntKind.i64.wrap (q))))), .sc (.bool true)])
      else
        some (.agg [.sc (.int .i64 (IntKind.i64.wrap (q))), .sc (.bool true)]) :=
  (gateK_open _ _ _).trans (by kernel_rfl)
-- oculus/oculusref08.Divide
noncomputable def f145.l0a (k : Nat) (by_ i n_ n__1 c1 c1_1 : Int) (c1_2 : Bool) (out out_1 : Int) (out_2 : Bool) : Option PV := loopAt Tryd.prog cf ext hint k 145 [1, 1, 0, 1, 0] ⟨[.top, .sc (.int .u64 by_), .ptr 0 0, .top, .ptr 1 0, .ptr 2 0, .sc (.int .i64 i), .top, .top, .top, .top, .top, .top, .top, .top, .top, .top, .top, .top, .top, .top, .top, .top, .top, .top, .top, .top, .top, .top, .top, .top, .top, .top, .top, .top, .top, .top, .top, .top, .top, .top, .top, .top, .top, .top, .top, .top, .top, .top, .top, .top, .top, .top, .top, .top, .top, .top, .top, .top, .top], [.cells 163 [.sc (.int .u64 n_), .sc (.int .u64 n__1)], .cells 160 [.sc (.int .u64 c1), .sc (.int .u64 c1_1), .sc (.bool c1_2)], .cells 160 [.sc (.int .u64 out), .sc (.int .u64 out_1), .sc (.bool out_2)]], none⟩
theorem f145_eq (k : Nat) (n_ n__1 by_ : Int) : D 145 [.agg [.sc (.int .u64 n_), .sc (.int .u64 n__1)], .sc (.int .u64 by_)] =
  f145.l0a k by_ 0 n_ n__1 0 0 false 0 0 true :=
  (denI_eq k _ _).trans (by kernel_rfl)
theorem f145.l0a_eq (k : Nat) (by_ i n_ n__1 c1 c1_1 : Int) (c1_2 : Bool) (out out_1 : Int) (out_2 : Bool) : f145.l0a k by_ i n_ n__1 c1 c1_1 c1_2 out out_1 out_2 =
  if decide (i < 128) = true then
    Option.bind (α := PV) (
      if out_2 = true then
        some (.sc (.bool (decide (out < 9223372036854775808))))
      else
        some (.sc (.bool false))) fun r1 =>
    if decide ((IntKind.u64.wrap ((IntKind.u64.wrap (out_1 * 2)) + (IntKind.u64.wrap (n_.tdiv 9223372036854775808)))) ≥ by_) = true then
      f145.l0a k by_ (IntKind.i64.wrap (i + 1)) (IntKind.u64.wrap ((IntKind.u64.wrap (n_ * 2)) + (IntKind.u64.wrap (n__1.tdiv 9223372036854775808)))) (IntKind.u64.wrap (n__1 * 2)) c1 c1_1 c1_2 (IntKind.u64.wrap ((IntKind.u64.wrap (out * 2)) + 1)) (IntKind.u64.wrap ((IntKind.u64.wrap ((IntKind.u64.wrap (out_1 * 2)) + (IntKind.u64.wrap (n_.tdiv 9223372036854775808)))) - by_)) r1.toBool
    else
      f145.l0a k by_ (IntKind.i64.wrap (i + 1)) (IntKind.u64.wrap ((IntKind.u64.wrap (n_ * 2)) + (IntKind.u64.wrap (n__1.tdiv 9223372036854775808)))) (IntKind.u64.wrap (n__1 * 2)) c1 c1_1 c1_2 (IntKind.u64.wrap (out * 2)) (IntKind.u64.wrap ((IntKind.u64.wrap (out_1 * 2)) + (IntKind.u64.wrap (n_.tdiv 9223372036854775808)))) r1.toBool
  else
    some (.agg [.sc (.int .u64 out), .sc (.int .u64 out_1), .sc (.bool out_2)]) :=
  (loopAt_eq _ _ _ _).trans (by kernel_rfl)
-- oculus/oculusref08.Times
theorem f146_eq (k : Nat) (a b : Int) : D 146 [.sc (.int .u64 a), .sc (.int .u64 b)] =
  some (.agg [.sc (.int .u64 (IntKind.u64.wrap ((IntKind.u64.wrap ((IntKind.u64.wrap ((IntKind.u64.wrap (a.tdiv 4294967296)) * (IntKind.u64.wrap (b.tdiv 4294967296)))) + (IntKind.u64.wrap ((IntKind.u64.wrap ((IntKind.u64.wrap ((IntKind.u64.wrap (a.tdiv 4294967296)) * (b.tmod 4294967296))) + (IntKind.u64.wrap ((IntKind.u64.wrap ((a.tmod 4294967296) * (b.tmod 4294967296))).tdiv 4294967296)))).tdiv 4294967296)))) + (IntKind.u64.wrap ((IntKind.u64.wrap ((IntKind.u64.wrap ((a.tmod 4294967296) * (IntKind.u64.wrap (b.tdiv 4294967296)))) + ((IntKind.u64.wrap ((IntKind.u64.wrap ((IntKind.u64.wrap (a.tdiv 4294967296)) * (b.tmod 4294967296))) + (IntKind.u64.wrap ((IntKind.u64.wrap ((a.tmod 4294967296) * (b.tmod 4294967296))).tdiv 4294967296)))).tmod 4294967296))).tdiv 4294967296))))), .sc (.int .u64 (IntKind.u64.wrap ((IntKind.u64.wrap (((IntKind.u64.wrap ((IntKind.u64.wrap ((a.tmod 4294967296) * (IntKind.u64.wrap (b.tdiv 4294967296)))) + ((IntKind.u64.wrap ((IntKind.u64.wrap ((IntKind.u64.wrap (a.tdiv 4294967296)) * (b.tmod 4294967296))) + (IntKind.u64.wrap ((IntKind.u64.wrap ((a.tmod 4294967296) * (b.tmod 4294967296))).tdiv 4294967296)))).tmod 4294967296))).tmod 4294967296) * 4294967296)) + ((IntKind.u64.wrap ((a.tmod 4294967296) * (b.tmod 4294967296))).tmod 4294967296))))]) :=
  (denI_eq k _ _).trans (by kernel_rfl)
-- oculus/oculusref15.Count
noncomputable def f40.l0a (k : Nat) (ln : Nat) (lf : Nat → PV) (kind n_ i : Int) : Option PV := loopAt Tryd.prog cf ext hint k 40 [1, 1, 0, 1, 0] ⟨[.lst 3 ln lf, .sc (.int .i64 kind), .top, .top, .top, .sc (.int .i64 n_), .sc (.int .i64 i), .top, .top, .top, .top, .top, .top, .top, .top, .top, .top, .top, .top, .top, .top, .top, .top, .top, .top, .top, .top, .top, .top, .top, .top, .top, .top, .top, .top, .top, .top, .top, .top, .top, .top, .top, .top, .top, .top, .top, .top, .top, .top, .top, .top, .top, .top, .top, .top, .top, .top, .top, .top, .top], [], none⟩
theorem f40_eq (k : Nat) (ln : Nat) (lf : Nat → PV) (kind : Int) : D 40 [.lst 3 ln lf, .sc (.int .i64 kind)] =
  f40.l0a k ln lf kind 0 0 :=
  (denI_eq k _ _).trans (by kernel_rfl)
theorem f40.l0a_eq (k : Nat) (ln : Nat) (lf : Nat → PV) (kind n_ i : Int) : f40.l0a k ln lf kind n_ i =
  if decide (i < (ln : Int)) = true then
    if 0 ≤ i then
      if i < (ln : Int) then
        if hasSh (.agg [(.int .i64), (.int .i64), .str]) (lf i.toNat) = true then
          Option.bind (α := PV) (
            if (kind == 1) = true then
              some (.sc (.bool (((cel 0 (lf i.toNat).cells).toInt) == 1)))
            else
              some (.sc (.bool false))) fun r1 =>
          Option.bind (α := PV) (
            if r1.toBool = true then
              some (.sc (.bool true))
            else
              Option.bind (α := PV) (
                Option.bind (α := PV) (
                  Option.bind (α := PV) (
                    if (kind == 0) = true then
                      Option.bind (α := PV) (
                        Option.bind (α := PV) (
                          Option.bind (α := PV) (
                            Option.bind (α := PV) (
                              if (((cel 0 (lf i.toNat).cells).toInt) == 0) = true then
                                some (.sc (.bool true))
                              else
                                Option.bind (α := PV) (
                                  Option.bind (α := PV) (
                                    Option.bind (α := PV) (
                                      Option.bind (α := PV) (
                                        if (((cel 0 (lf i.toNat).cells).toInt) == 2) = true then
                                          some (.sc (.bool (((cel 2 (lf i.toNat).cells).toStr).toList == (⟨#[]⟩ : ByteArray).toList)))
                                        else
                                          some (.sc (.bool false))) fun r2 =>
                                      some (.sc (.bool r2.toBool))) fun r3 =>
                                    some (.sc (.bool r3.toBool))) fun r4 =>
                                  some (.sc (.bool r4.toBool))) fun r5 =>
                                some (.sc (.bool r5.toBool))) fun r6 =>
                            some (.sc (.bool r6.toBool))) fun r7 =>
                          some (.sc (.bool r7.toBool))) fun r8 =>
                        some (.sc (.bool r8.toBool))) fun r9 =>
                      some (.sc (.bool r9.toBool))
                    else
                      some (.sc (.bool false))) fun r10 =>
                  some (.sc (.bool r10.toBool))) fun r11 =>
                some (.sc (.bool r11.toBool))) fun r12 =>
              some (.sc (.bool r12.toBool))) fun r13 =>
          Option.bind (α := PV) (
            if r13.toBool = true then
              some (.sc (.bool true))
            else
              Option.bind (α := PV) (
                Option.bind (α := PV) (
                  Option.bind (α := PV) (
                    if (kind != 0) = true then
                      some (.sc (.bool (kind != 1)))
                    else
                      some (.sc (.bool false))) fun r14 =>
                  Option.bind (α := PV) (
                    Option.bind (α := PV) (
                      if r14.toBool = true then
                        some (.sc (.bool (((cel 0 (lf i.toNat).cells).toInt) != 0)))
                      else
                        some (.sc (.bool false))) fun r15 =>
                    some (.sc (.bool r15.toBool))) fun r16 =>
                  some (.sc (.bool r16.toBool))) fun r17 =>
                some (.sc (.bool r17.toBool))) fun r18 =>
              some (.sc (.bool r18.toBool))) fun r19 =>
          if r19.toBool = true then
            f40.l0a k ln lf kind (IntKind.i64.wrap (n_ + 1)) (IntKind.i64.wrap (i + 1))
          else
            f40.l0a k ln lf kind n_ (IntKind.i64.wrap (i + 1))
        else none
      else none
    else none
  else
    some (.sc (.int .i64 n_)) :=
  (loopAt_eq _ _ _ _).trans (by kernel_rfl)
end EF
end Go.Den
