import Derived.Test.YtcfhllbobapaiaaDoorEFh
import Derived.KernelRfl
set_option maxRecDepth 100000
set_option linter.unusedVariables false
namespace Go.Den
open Go Go.Proofs
namespace EF
-- oculus/digits.Text
noncomputable def f15.j0a (k : Nat) (x_ : Int) (out : ByteArray) : Option PV := gateK k (placeAt Tryd.prog cf ext hint k 15 [1, 1, 1, 1]) ⟨[.sc (.int .i64 x_), .top, .top, .sc (.string out), .top, .top, .top, .top, .top, .top, .top, .top, .top, .top, .top, .top, .top, .top, .top, .top, .top, .top, .top, .top, .top, .top, .top, .top, .top, .top, .top, .top, .top, .top, .top, .top, .top, .top], [], none⟩
theorem f15_eq (k : Nat) (x_ : Int) : D 15 [.sc (.int .i64 x_)] =
  (D 62 [.sc (.int .i64 x_)]).bind fun r1 => if hasSh .bool r1 = true then
  if (!r1.toBool) = true then
    some (.sc (.string (⟨#[]⟩ : ByteArray)))
  else
    (D 64 [.sc (.int .i64 x_)]).bind fun r2 => if hasSh (.int .i64) r2 = true then
    (D 63 [.sc (.int .i64 r2.toInt), .sc (.int .i64 10)]).bind fun r3 => if hasSh .str r3 = true then
    Option.bind (α := PV) (
      if decide (x_ < 0) = true then
        some (.sc (.bool (decide (x_ > (-10000)))))
      else
        some (.sc (.bool false))) fun r4 =>
    if r4.toBool = true then
      if 1 + r3.toStr.size ≤ 9223372036854775807 then
        f15.j0a k x_ ((⟨#[45]⟩ : ByteArray) ++ r3.toStr)
      else none
    else
      f15.j0a k x_ r3.toStr
    else none
    else none
  else none :=
  (denI_eq k _ _).trans (by kernel_rfl)
theorem f15.j0a_eq (k : Nat) (x_ : Int) (out : ByteArray) : f15.j0a k x_ out =
  if ((x_.tmod 10000) == 0) = true then
    some (.sc (.string out))
  else
    (D 63 [.sc (.int .i64 (IntKind.i64.wrap ((10000 : Int) + (if IntKind.i64.wrap (0 - (x_.tmod 10000)) > x_.tmod 10000 then IntKind.i64.wrap (0 - (x_.tmod 10000)) else x_.tmod 10000)))), .sc (.int .i64 10)]).bind fun r5 => if hasSh .str r5 = true then
    if 0 ≤ (r5.toStr.size : Int) then
      if (r5.toStr.size : Int) ≤ (r5.toStr.size : Int) then
        if 1 ≤ (r5.toStr.size : Int) then
          if out.size + 1 ≤ 9223372036854775807 then
            (D 65 [.sc (.string (r5.toStr.extract 1 (r5.toStr.size : Int).toNat)), .sc (.string (⟨#[48]⟩ : ByteArray))]).bind fun r6 => if hasSh .str r6 = true then
            if (out ++ (⟨#[46]⟩ : ByteArray)).size + r6.toStr.size ≤ 9223372036854775807 then
              some (.sc (.string ((out ++ (⟨#[46]⟩ : ByteArray)) ++ r6.toStr)))
            else none
            else none
          else none
        else none
      else none
    else none
    else none :=
  (gateK_open _ _ _).trans (by kernel_rfl)
-- oculus/dec.Units
theorem f64_eq (k : Nat) (x_ : Int) : D 64 [.sc (.int .i64 x_)] =
  (D 62 [.sc (.int .i64 x_)]).bind fun r1 => if hasSh .bool r1 = true then
  if (!r1.toBool) = true then
    some (.sc (.int .i64 0))
  else
    some (.sc (.int .i64 (IntKind.i64.wrap (x_.tdiv 10000))))
  else none :=
  (denI_eq k _ _).trans (by kernel_rfl)
-- oculus/value.truth
theorem f147_eq (k : Nat) (v_ v__1 : Int) (v__2 : ByteArray) : D 147 [.agg [.sc (.int .i64 v_), .sc (.int .i64 v__1), .sc (.string v__2)]] =
  if (v__1 == 1) = true then
    some (.sc (.string (⟨#[84, 82, 85, 69]⟩ : ByteArray)))
  else
    some (.sc (.string (⟨#[70, 65, 76, 83, 69]⟩ : ByteArray))) :=
  (denI_eq k _ _).trans (by kernel_rfl)
-- oculus/value.Bool
theorem f84_eq (k : Nat) (is : Bool) : D 84 [.sc (.bool is)] =
  if is = true then
    some (.agg [.sc (.int .i64 3), .sc (.int .i64 1), .sc (.string (⟨#[]⟩ : ByteArray))])
  else
    some (.agg [.sc (.int .i64 3), .sc (.int .i64 0), .sc (.string (⟨#[]⟩ : ByteArray))]) :=
  (denI_eq k _ _).trans (by kernel_rfl)
-- oculus/fold.Product
theorem f85_eq (k : Nat) (ln : Nat) (lf : Nat → PV) : D 85 [.lst 3 ln lf] =
  (D 137 [.lst 3 ln lf]).bind fun r1 => if hasSh (.tup [(.lst 1), (.agg [(.int .i64), (.int .i64), .str])]) r1 = true then
  Option.bind (α := PV) (
    if (((cel 0 r1.parts).len : Int) == 0) = true then
      some (.sc (.bool (((cel 0 (cel 1 r1.parts).cells).toInt) != 4)))
    else
      some (.sc (.bool false))) fun r2 =>
  if r2.toBool = true then
    (D 75 [.sc (.int .i64 0)]).bind fun r3 => if hasSh (.agg [(.int .i64), (.int .i64), .str]) r3 = true then
    some (.agg [.sc (.int .i64 ((cel 0 r3.cells).toInt)), .sc (.int .i64 ((cel 1 r3.cells).toInt)), .sc (.string ((cel 2 r3.cells).toStr))])
    else none
  else
    (D 99 [.lst 3 ln lf, .sc (.int .i64 10000), .sc (.func (.func 138) #[] #[])]).bind fun r4 => if hasSh (.agg [(.int .i64), (.int .i64), .str]) r4 = true then
    some (.agg [.sc (.int .i64 ((cel 0 r4.cells).toInt)), .sc (.int .i64 ((cel 1 r4.cells).toInt)), .sc (.string ((cel 2 r4.cells).toStr))])
    else none
  else none :=
  (denI_eq k _ _).trans (by kernel_rfl)
-- oculus/dec.Mul
theorem f138_eq (k : Nat) (a b : Int) : D 138 [.sc (.int .i64 a), .sc (.int .i64 b)] =
  (D 93 [.sc (.int .i64 a), .sc (.int .i64 b), .sc (.int .i64 10000)]).bind fun r1 => if hasSh (.tup [(.int .i64), .bool]) r1 = true then
  some (.tup [.sc (.int .i64 ((cel 0 r1.parts).toInt)), .sc (.bool ((cel 1 r1.parts).toBool))])
  else none :=
  (denI_eq k _ _).trans (by kernel_rfl)
-- oculus/fold.Squares
theorem f86_eq (k : Nat) (ln : Nat) (lf : Nat → PV) : D 86 [.lst 3 ln lf] =
  (D 99 [.lst 3 ln lf, .sc (.int .i64 0), .sc (.func (.func 139) #[] #[])]).bind fun r1 => if hasSh (.agg [(.int .i64), (.int .i64), .str]) r1 = true then
  some (.agg [.sc (.int .i64 ((cel 0 r1.cells).toInt)), .sc (.int .i64 ((cel 1 r1.cells).toInt)), .sc (.string ((cel 2 r1.cells).toStr))])
  else none :=
  (denI_eq k _ _).trans (by kernel_rfl)
-- oculus/fold.Squares$1
theorem f139_eq (k : Nat) (have_ x_ : Int) : D 139 [.sc (.int .i64 have_), .sc (.int .i64 x_)] =
  (D 138 [.sc (.int .i64 x_), .sc (.int .i64 x_)]).bind fun r1 => if hasSh (.tup [(.int .i64), .bool]) r1 = true then
  if (!((cel 1 r1.parts).toBool)) = true then
    some (.tup [.sc (.int .i64 0), .sc (.bool false)])
  else
    (D 100 [.sc (.int .i64 have_), .sc (.int .i64 ((cel 0 r1.parts).toInt))]).bind fun r2 => if hasSh (.tup [(.int .i64), .bool]) r2 = true then
    some (.tup [.sc (.int .i64 ((cel 0 r2.parts).toInt)), .sc (.bool ((cel 1 r2.parts).toBool))])
    else none
  else none :=
  (denI_eq k _ _).trans (by kernel_rfl)
-- oculus/oculusref15.Concat
noncomputable def f44.l0a (k : Nat) (ln : Nat) (lf : Nat → PV) (i c0 c0_1 : Int) (c0_2 : ByteArray) : Option PV := loopAt Tryd.prog cf ext hint k 44 [1, 1, 1, 0, 1, 0] ⟨[.lst 3 ln lf, .top, .ptr 0 0, .top, .nils, .sc (.int .i64 i), .top, .top, .top, .top, .top, .top, .top, .top, .top, .top, .top, .top, .top, .top, .top, .top, .top, .top, .top, .top, .top, .top, .top, .top, .top, .top, .top, .top, .top, .top, .top, .top], [.cells 51 [.sc (.int .i64 c0), .sc (.int .i64 c0_1), .sc (.string c0_2)]], none⟩
noncomputable def f44.l0b (k : Nat) (ln : Nat) (lf : Nat → PV) (i c0 c0_1 : Int) (c0_2 : ByteArray) (t : List PV) : Option PV := loopAt Tryd.prog cf ext hint k 44 [1, 1, 1, 0, 1, 0] ⟨[.lst 3 ln lf, .top, .ptr 0 0, .top, .buf 1 0, .sc (.int .i64 i), .top, .top, .top, .top, .top, .top, .top, .top, .top, .top, .top, .top, .top, .top, .top, .top, .top, .top, .top, .top, .top, .top, .top, .top, .top, .top, .top, .top, .top, .top, .top, .top], [.cells 51 [.sc (.int .i64 c0), .sc (.int .i64 c0_1), .sc (.string c0_2)], .buf 9 0 t], none⟩
theorem f44_eq (k : Nat) (ln : Nat) (lf : Nat → PV) : D 44 [.lst 3 ln lf] =
  (D 41 [.lst 3 ln lf]).bind fun r1 => if hasSh (.int .i64) r1 = true then
  if decide (r1.toInt ≥ 0) = true then
    if 0 ≤ r1.toInt then
      if r1.toInt < (ln : Int) then
        if hasSh (.agg [(.int .i64), (.int .i64), .str]) (lf r1.toInt.toNat) = true then
          some (.agg [.sc (.int .i64 ((cel 0 (lf r1.toInt.toNat).cells).toInt)), .sc (.int .i64 ((cel 1 (lf r1.toInt.toNat).cells).toInt)), .sc (.string ((cel 2 (lf r1.toInt.toNat).cells).toStr))])
        else none
      else none
    else none
  else
    f44.l0a k ln lf 0 0 0 (⟨#[]⟩ : ByteArray)
  else none :=
  (denI_eq k _ _).trans (by kernel_rfl)
theorem f44.l0a_eq (k : Nat) (ln : Nat) (lf : Nat → PV) (i c0 c0_1 : Int) (c0_2 : ByteArray) : f44.l0a k ln lf i c0 c0_1 c0_2 =
  if decide (i < (ln : Int)) = true then
    if 0 ≤ i then
      if i < (ln : Int) then
        if hasSh (.agg [(.int .i64), (.int .i64), .str]) (lf i.toNat) = true then
          (D 102 [.agg [.sc (.int .i64 ((cel 0 (lf i.toNat).cells).toInt)), .sc (.int .i64 ((cel 1 (lf i.toNat).cells).toInt)), .sc (.string ((cel 2 (lf i.toNat).cells).toStr))]]).bind fun r2 => if hasSh .str r2 = true then
          if ([.sc (.string r2.toStr)] : List PV).length * 16 ≤ 140737488355328 ∧ ([.sc (.string r2.toStr)] : List PV).length ≤ 140737488355328 then
            f44.l0b k ln lf (IntKind.i64.wrap (i + 1)) c0 c0_1 c0_2 ([.sc (.string r2.toStr)] : List PV)
          else none
          else none
        else none
      else none
    else none
  else
    (D 61 [.lst 1 0 (fun _ => .top)]).bind fun r3 => if hasSh (.agg [.str, .bool]) r3 = true then
    if (!((cel 1 r3.cells).toBool)) = true then
      (D 96 [.sc (.int .i64 2)]).bind fun r4 => if hasSh (.agg [(.int .i64), (.int .i64), .str]) r4 = true then
      some (.agg [.sc (.int .i64 ((cel 0 r4.cells).toInt)), .sc (.int .i64 ((cel 1 r4.cells).toInt)), .sc (.string ((cel 2 r4.cells).toStr))])
      else none
    else
      (D 103 [.sc (.string ((cel 0 r3.cells).toStr))]).bind fun r5 => if hasSh (.agg [(.int .i64), (.int .i64), .str]) r5 = true then
      some (.agg [.sc (.int .i64 ((cel 0 r5.cells).toInt)), .sc (.int .i64 ((cel 1 r5.cells).toInt)), .sc (.string ((cel 2 r5.cells).toStr))])
      else none
    else none :=
  (loopAt_eq _ _ _ _).trans (by kernel_rfl)
theorem f44.l0b_eq (k : Nat) (ln : Nat) (lf : Nat → PV) (i c0 c0_1 : Int) (c0_2 : ByteArray) (t : List PV) : f44.l0b k ln lf i c0 c0_1 c0_2 t =
  if decide (i < (ln : Int)) = true then
    if 0 ≤ i then
      if i < (ln : Int) then
        if hasSh (.agg [(.int .i64), (.int .i64), .str]) (lf i.toNat) = true then
          (D 102 [.agg [.sc (.int .i64 ((cel 0 (lf i.toNat).cells).toInt)), .sc (.int .i64 ((cel 1 (lf i.toNat).cells).toInt)), .sc (.string ((cel 2 (lf i.toNat).cells).toStr))]]).bind fun r6 => if hasSh .str r6 = true then
          if (t.length + ([.sc (.string r6.toStr)] : List PV).length) * 16 ≤ 140737488355328 ∧ t.length + ([.sc (.string r6.toStr)] : List PV).length ≤ 140737488355328 then
            f44.l0b k ln lf (IntKind.i64.wrap (i + 1)) c0 c0_1 c0_2 (t ++ ([.sc (.string r6.toStr)] : List PV))
          else none
          else none
        else none
      else none
    else none
  else
    (D 61 [frozen 1 t]).bind fun r7 => if hasSh (.agg [.str, .bool]) r7 = true then
    if (!((cel 1 r7.cells).toBool)) = true then
      (D 96 [.sc (.int .i64 2)]).bind fun r8 => if hasSh (.agg [(.int .i64), (.int .i64), .str]) r8 = true then
      some (.agg [.sc (.int .i64 ((cel 0 r8.cells).toInt)), .sc (.int .i64 ((cel 1 r8.cells).toInt)), .sc (.string ((cel 2 r8.cells).toStr))])
      else none
    else
      (D 103 [.sc (.string ((cel 0 r7.cells).toStr))]).bind fun r9 => if hasSh (.agg [(.int .i64), (.int .i64), .str]) r9 = true then
      some (.agg [.sc (.int .i64 ((cel 0 r9.cells).toInt)), .sc (.int .i64 ((cel 1 r9.cells).toInt)), .sc (.string ((cel 2 r9.cells).toStr))])
      else none
    else none :=
  (loopAt_eq _ _ _ _).trans (by kernel_rfl)
-- oculus/oculusref15.Fault
noncomputable def f41.l0a (k : Nat) (ln : Nat) (lf : Nat → PV) (i : Int) : Option PV := loopAt Tryd.prog cf ext hint k 41 [1, 0, 1, 0] ⟨[.lst 3 ln lf, .top, .top, .sc (.int .i64 i), .top, .top, .top, .top, .top, .top, .top, .top, .top, .top, .top, .top, .top], [], none⟩
theorem f41_eq (k : Nat) (ln : Nat) (lf : Nat → PV) : D 41 [.lst 3 ln lf] =
  f41.l0a k ln lf 0 :=
  (denI_eq k _ _).trans (by kernel_rfl)
theorem f41.l0a_eq (k : Nat) (ln : Nat) (lf : Nat → PV) (i : Int) : f41.l0a k ln lf i =
  if decide (i < (ln : Int)) = true then
    if 0 ≤ i then
      if i < (ln : Int) then
        if hasSh (.agg [(.int .i64), (.int .i64), .str]) (lf i.toNat) = true then
          if (((cel 0 (lf i.toNat).cells).toInt) == 4) = true then
            some (.sc (.int .i64 i))
          else
            f41.l0a k ln lf (IntKind.i64.wrap (i + 1))
        else none
      else none
    else none
  else
    some (.sc (.int .i64 (-1))) :=
  (loopAt_eq _ _ _ _).trans (by kernel_rfl)
-- oculus/oculusref14.Join
noncomputable def f61.l0a (k : Nat) (ln : Nat) (lf : Nat → PV) (s_ : ByteArray) (i : Int) (c0 : ByteArray) (c0_1 : Bool) : Option PV := loopAt Tryd.prog cf ext hint k 61 [1, 1, 0, 1, 0] ⟨[.lst 1 ln lf, .top, .ptr 0 0, .sc (.string s_), .sc (.int .i64 i), .top, .top, .top, .top, .top, .top, .top, .top, .top, .top, .top, .top, .top, .top, .top, .top, .top, .top, .top], [.cells 67 [.sc (.string c0), .sc (.bool c0_1)]], none⟩
theorem f61_eq (k : Nat) (ln : Nat) (lf : Nat → PV) : D 61 [.lst 1 ln lf] =
  f61.l0a k ln lf (⟨#[]⟩ : ByteArray) 0 (⟨#[]⟩ : ByteArray) false :=
  (denI_eq k _ _).trans (by kernel_rfl)
theorem f61.l0a_eq (k : Nat) (ln : Nat) (lf : Nat → PV) (s_ : ByteArray) (i : Int) (c0 : ByteArray) (c0_1 : Bool) : f61.l0a k ln lf s_ i c0 c0_1 =
  Option.bind (α := PV) (
    if decide (i < (ln : Int)) = true then
      some (.sc (.bool (decide ((s_.size : Int) ≤ 256))))
    else
      some (.sc (.bool false))) fun r1 =>
  if r1.toBool = true then
    if 0 ≤ i then
      if i < (ln : Int) then
        if hasSh .str (lf i.toNat) = true then
          if s_.size + ((lf i.toNat).toStr).size ≤ 9223372036854775807 then
            f61.l0a k ln lf (s_ ++ ((lf i.toNat).toStr)) (IntKind.i64.wrap (i + 1)) c0 c0_1
          else none
        else none
      else none
    else none
  else
    (D 109 [.sc (.string s_)]).bind fun r2 => if hasSh (.agg [.str, .bool]) r2 = true then
    some (.agg [.sc (.string ((cel 0 r2.cells).toStr)), .sc (.bool ((cel 1 r2.cells).toBool))])
    else none :=
  (loopAt_eq _ _ _ _).trans (by kernel_rfl)
-- oculus/oculusref14.room
theorem f109_eq (k : Nat) (s_ : ByteArray) : D 109 [.sc (.string s_)] =
  if decide ((s_.size : Int) > 256) = true then
    some (.agg [.sc (.string (⟨#[]⟩ : ByteArray)), .sc (.bool false)])
  else
    some (.agg [.sc (.string s_), .sc (.bool true)]) :=
  (denI_eq k _ _).trans (by kernel_rfl)
-- oculus/oculusref12.Bad
theorem f96_eq (k : Nat) (code : Int) : D 96 [.sc (.int .i64 code)] =
  Option.bind (α := PV) (
    if decide (code < 1) = true then
      some (.sc (.bool true))
    else
      some (.sc (.bool (decide (code > 7))))) fun r1 =>
  if r1.toBool = true then
    some (.agg [.sc (.int .i64 4), .sc (.int .i64 2), .sc (.string (⟨#[]⟩ : ByteArray))])
  else
    some (.agg [.sc (.int .i64 4), .sc (.int .i64 code), .sc (.string (⟨#[]⟩ : ByteArray))]) :=
  (denI_eq k _ _).trans (by kernel_rfl)
-- oculus/oculusref12.Words
theorem f102_eq (k : Nat) (v_ v__1 : Int) (v__2 : ByteArray) : D 102 [.agg [.sc (.int .i64 v_), .sc (.int .i64 v__1), .sc (.string v__2)]] =
  if (v_ == 1) = true then
    (D 18 [.sc (.int .i64 v__1)]).bind fun r1 => if hasSh .str r1 = true then
    some (.sc (.string r1.toStr))
    else none
  else
    Option.bind (α := PV) (
      if (v_ == 3) = true then
        some (.sc (.bool (v__1 == 1)))
      else
        some (.sc (.bool false))) fun r2 =>
    if r2.toBool = true then
      some (.sc (.string (⟨#[84, 82, 85, 69]⟩ : ByteArray)))
    else
      if (v_ == 3) = true then
        some (.sc (.string (⟨#[70, 65, 76, 83, 69]⟩ : ByteArray)))
      else
        some (.sc (.string v__2)) :=
  (denI_eq k _ _).trans (by kernel_rfl)
-- oculus/oculusref11.Text
noncomputable def f18.j0a (k : Nat) (n_ : Int) (s_ : ByteArray) : Option PV := gateK k (placeAt Tryd.prog cf ext hint k 18 [1, 1, 1, 1, 1]) ⟨[.top, .top, .top, .sc (.int .u64 n_), .sc (.string s_), .top, .top, .top, .top, .top, .top, .top, .top, .top, .top, .top, .top, .top, .top, .top, .top, .top, .top, .top, .top, .top, .top, .top, .top, .top, .top, .top, .top, .top, .top], [], none⟩
noncomputable def f18.j1a (k : Nat) (s_ : ByteArray) (rest : Int) : Option PV := gateK k (placeAt Tryd.prog cf ext hint k 18 [1, 1, 1, 1, 1, 1, 1]) ⟨[.top, .top, .top, .top, .sc (.string s_), .sc (.int .u64 rest), .top, .top, .top, .top, .top, .top, .top, .top, .top, .top, .top, .top, .top, .top, .top, .top, .top, .top, .top, .top, .top, .top, .top, .top, .top, .top, .top, .top, .top], [], none⟩
noncomputable def f18.l2a (k : Nat) (s_ : ByteArray) (rest : Int) : Option PV := loopAt Tryd.prog cf ext hint k 18 [1, 1, 1, 1, 1, 1, 1, 0, 0] ⟨[.top, .top, .top, .top, .sc (.string s_), .sc (.int .u64 rest), .top, .top, .top, .top, .top, .top, .top, .top, .top, .top, .top, .top, .top, .top, .top, .top, .top, .top, .top, .top, .top, .top, .top, .top, .top, .top, .top, .top, .top], [], none⟩
theorem f18_eq (k : Nat) (x_ : Int) : D 18 [.sc (.int .i64 x_)] =
  (D 19 [.sc (.int .i64 x_)]).bind fun r1 => if hasSh .bool r1 = true then
  if (!r1.toBool) = true then
    some (.sc (.string (⟨#[]⟩ : ByteArray)))
  else
    (D 70 [.sc (.int .i64 x_)]).bind fun r2 => if hasSh (.int .u64) r2 = true then
    (D 71 [.sc (.int .u64 (IntKind.u64.wrap (r2.toInt.tdiv 10000)))]).bind fun r3 => if hasSh .str r3 = true then
    if decide (x_ < 0) = true then
      if 1 + r3.toStr.size ≤ 9223372036854775807 then
        f18.j0a k r2.toInt ((⟨#[45]⟩ : ByteArray) ++ r3.toStr)
      else none
    else
      f18.j0a k r2.toInt r3.toStr
    else none
    else none
  else none :=
  (denI_eq k _ _).trans (by kernel_rfl)
theorem f18.j0a_eq (k : Nat) (n_ : Int) (s_ : ByteArray) : f18.j0a k n_ s_ =
  if decide ((n_.tmod 10000) > 0) = true then
    if s_.size + 1 ≤ 9223372036854775807 then
      f18.j1a k (s_ ++ (⟨#[46]⟩ : ByteArray)) (n_.tmod 10000)
    else none
  else
    f18.j1a k s_ (n_.tmod 10000) :=
  (gateK_open _ _ _).trans (by kernel_rfl)
theorem f18.j1a_eq (k : Nat) (s_ : ByteArray) (rest : Int) : f18.j1a k s_ rest =
  f18.l2a k s_ rest :=
  (gateK_open _ _ _).trans (by kernel_rfl)
theorem f18.l2a_eq (k : Nat) (s_ : ByteArray) (rest : Int) : f18.l2a k s_ rest =
  if decide (rest > 0) = true then
    (D 71 [.sc (.int .u64 (IntKind.u64.wrap (rest.tdiv 1000)))]).bind fun r4 => if hasSh .str r4 = true then
    if s_.size + r4.toStr.size ≤ 9223372036854775807 then
      f18.l2a k (s_ ++ r4.toStr) (IntKind.u64.wrap ((rest.tmod 1000) * 10))
    else none
    else none
  else
    some (.sc (.string s_)) :=
  (loopAt_eq _ _ _ _).trans (by kernel_rfl)
-- oculus/oculusref08.Abs
theorem f70_eq (k : Nat) (x_ : Int) : D 70 [.sc (.int .i64 x_)] =
  if decide (x_ < 0) = true then
    some (.sc (.int .u64 (IntKind.u64.wrap (IntKind.i64.wrap ((0 : Int) - x_)))))
  else
    some (.sc (.int .u64 (IntKind.u64.wrap (x_)))) :=
  (denI_eq k _ _).trans (by kernel_rfl)
-- oculus/oculusref11.whole
noncomputable def f71.l0a (k : Nat) (n_ : Int) (s_ : ByteArray) : Option PV := loopAt Tryd.prog cf ext hint k 71 [1, 1, 0, 1, 0] ⟨[.sc (.int .u64 n_), .top, .top, .sc (.string s_), .top, .top, .top, .top, .top, .top, .top, .top, .top, .top, .top, .top, .top, .top, .top, .top, .top, .top, .top, .top, .top], [], none⟩
theorem f71_eq (k : Nat) (n_ : Int) : D 71 [.sc (.int .u64 n_)] =
  if ([.sc (.int .u8 (IntKind.u8.wrap (IntKind.u64.wrap ((48 : Int) + (n_.tmod 10)))))] : List PV).all (hasSh (.int .u8)) = true then
    f71.l0a k (IntKind.u64.wrap (n_.tdiv 10)) (bytesOf ([.sc (.int .u8 (IntKind.u8.wrap (IntKind.u64.wrap ((48 : Int) + (n_.tmod 10)))))] : List PV))
  else none :=
  (denI_eq k _ _).trans (by kernel_rfl)
theorem f71.l0a_eq (k : Nat) (n_ : Int) (s_ : ByteArray) : f71.l0a k n_ s_ =
  if decide (n_ > 0) = true then
    if ([.sc (.int .u8 (IntKind.u8.wrap (IntKind.u64.wrap ((48 : Int) + (n_.tmod 10)))))] : List PV).all (hasSh (.int .u8)) = true then
      if (bytesOf ([.sc (.int .u8 (IntKind.u8.wrap (IntKind.u64.wrap ((48 : Int) + (n_.tmod 10)))))] : List PV)).size + s_.size ≤ 9223372036854775807 then
        f71.l0a k (IntKind.u64.wrap (n_.tdiv 10)) ((bytesOf ([.sc (.int .u8 (IntKind.u8.wrap (IntKind.u64.wrap ((48 : Int) + (n_.tmod 10)))))] : List PV)) ++ s_)
      else none
    else none
  else
    some (.sc (.string s_)) :=
  (loopAt_eq _ _ _ _).trans (by kernel_rfl)
-- oculus/oculusref12.Str
theorem f103_eq (k : Nat) (t : ByteArray) : D 103 [.sc (.string t)] =
  if decide ((t.size : Int) > 256) = true then
    (D 96 [.sc (.int .i64 2)]).bind fun r1 => if hasSh (.agg [(.int .i64), (.int .i64), .str]) r1 = true then
    some (.agg [.sc (.int .i64 ((cel 0 r1.cells).toInt)), .sc (.int .i64 ((cel 1 r1.cells).toInt)), .sc (.string ((cel 2 r1.cells).toStr))])
    else none
  else
    some (.agg [.sc (.int .i64 2), .sc (.int .i64 0), .sc (.string t)]) :=
  (denI_eq k _ _).trans (by kernel_rfl)
-- oculus/fold.Xor
noncomputable def f45.l0a (k : Nat) (odd : Bool) (t7n : Nat) (t7f : Nat → PV) (t8 t9 c0 c0_1 : Int) (c0_2 : ByteArray) : Option PV := loopAt Tryd.prog cf ext hint k 45 [1, 1, 0, 1, 0] ⟨[.top, .top, .ptr 0 0, .sc (.bool odd), .top, .top, .top, .lst 3 t7n t7f, .sc (.int .i64 t8), .sc (.int .i64 t9), .top, .top, .top, .top, .top, .top, .top, .top, .top, .top, .top, .top, .top, .top, .top, .top, .top], [.cells 51 [.sc (.int .i64 c0), .sc (.int .i64 c0_1), .sc (.string c0_2)]], none⟩
theorem f45_eq (k : Nat) (ln : Nat) (lf : Nat → PV) : D 45 [.lst 3 ln lf] =
  f45.l0a k false ln lf (ln : Int) 0 0 0 (⟨#[]⟩ : ByteArray) :=
  (denI_eq k _ _).trans (by kernel_rfl)
theorem f45.l0a_eq (k : Nat) (odd : Bool) (t7n : Nat) (t7f : Nat → PV) (t8 t9 c0 c0_1 : Int) (c0_2 : ByteArray) : f45.l0a k odd t7n t7f t8 t9 c0 c0_1 c0_2 =
  if decide (t9 < t8) = true then
    if 0 ≤ t9 then
      if t9 < (t7n : Int) then
        if hasSh (.agg [(.int .i64), (.int .i64), .str]) (t7f t9.toNat) = true then
          (D 104 [.agg [.sc (.int .i64 ((cel 0 (t7f t9.toNat).cells).toInt)), .sc (.int .i64 ((cel 1 (t7f t9.toNat).cells).toInt)), .sc (.string ((cel 2 (t7f t9.toNat).cells).toStr))]]).bind fun r1 => if hasSh (.agg [(.int .i64), (.int .i64), .str]) r1 = true then
          if (((cel 0 r1.cells).toInt) == 4) = true then
            some (.agg [.sc (.int .i64 ((cel 0 r1.cells).toInt)), .sc (.int .i64 ((cel 1 r1.cells).toInt)), .sc (.string ((cel 2 r1.cells).toStr))])
          else
            f45.l0a k (!(odd == (((cel 1 r1.cells).toInt) == 1))) t7n t7f t8 (IntKind.i64.wrap (t9 + 1)) c0 c0_1 c0_2
          else none
        else none
      else none
    else none
  else
    (D 84 [.sc (.bool odd)]).bind fun r2 => if hasSh (.agg [(.int .i64), (.int .i64), .str]) r2 = true then
    some (.agg [.sc (.int .i64 ((cel 0 r2.cells).toInt)), .sc (.int .i64 ((cel 1 r2.cells).toInt)), .sc (.string ((cel 2 r2.cells).toStr))])
    else none :=
  (loopAt_eq _ _ _ _).trans (by kernel_rfl)
-- oculus/value.AsTruth
theorem f104_eq (k : Nat) (v_ v__1 : Int) (v__2 : ByteArray) : D 104 [.agg [.sc (.int .i64 v_), .sc (.int .i64 v__1), .sc (.string v__2)]] =
  if (v_ == 0) = true then
    (D 84 [.sc (.bool false)]).bind fun r1 => if hasSh (.agg [(.int .i64), (.int .i64), .str]) r1 = true then
    some (.agg [.sc (.int .i64 ((cel 0 r1.cells).toInt)), .sc (.int .i64 ((cel 1 r1.cells).toInt)), .sc (.string ((cel 2 r1.cells).toStr))])
    else none
  else
    if (v_ == 1) = true then
      (D 84 [.sc (.bool (v__1 != 0))]).bind fun r2 => if hasSh (.agg [(.int .i64), (.int .i64), .str]) r2 = true then
      some (.agg [.sc (.int .i64 ((cel 0 r2.cells).toInt)), .sc (.int .i64 ((cel 1 r2.cells).toInt)), .sc (.string ((cel 2 r2.cells).toStr))])
      else none
    else
      if (v_ == 2) = true then
        Option.bind (α := PV) (
          if (v__2.toList == (⟨#[84, 82, 85, 69]⟩ : ByteArray).toList) = true then
            some (.sc (.bool true))
          else
            some (.sc (.bool (v__2.toList == (⟨#[70, 65, 76, 83, 69]⟩ : ByteArray).toList)))) fun r3 =>
        if r3.toBool = true then
          (D 84 [.sc (.bool (v__2.toList == (⟨#[84, 82, 85, 69]⟩ : ByteArray).toList))]).bind fun r4 => if hasSh (.agg [(.int .i64), (.int .i64), .str]) r4 = true then
          some (.agg [.sc (.int .i64 ((cel 0 r4.cells).toInt)), .sc (.int .i64 ((cel 1 r4.cells).toInt)), .sc (.string ((cel 2 r4.cells).toStr))])
          else none
        else
          (D 76 [.sc (.int .i64 2)]).bind fun r5 => if hasSh (.agg [(.int .i64), (.int .i64), .str]) r5 = true then
          some (.agg [.sc (.int .i64 ((cel 0 r5.cells).toInt)), .sc (.int .i64 ((cel 1 r5.cells).toInt)), .sc (.string ((cel 2 r5.cells).toStr))])
          else none
      else
        some (.agg [.sc (.int .i64 v_), .sc (.int .i64 v__1), .sc (.string v__2)]) :=
  (denI_eq k _ _).trans (by kernel_rfl)
-- oculus/oculusref15.Xor
noncomputable def f46.l0a (k : Nat) (ln : Nat) (lf : Nat → PV) (n_ i c0 c0_1 : Int) (c0_2 : ByteArray) : Option PV := loopAt Tryd.prog cf ext hint k 46 [1, 1, 0, 1, 0] ⟨[.lst 3 ln lf, .top, .ptr 0 0, .sc (.int .i64 n_), .sc (.int .i64 i), .top, .top, .top, .top, .top, .top, .top, .top, .top, .top, .top, .top, .top, .top, .top, .top, .top, .top, .top, .top, .top, .top, .top, .top], [.cells 51 [.sc (.int .i64 c0), .sc (.int .i64 c0_1), .sc (.string c0_2)]], none⟩
theorem f46_eq (k : Nat) (ln : Nat) (lf : Nat → PV) : D 46 [.lst 3 ln lf] =
  f46.l0a k ln lf 0 0 0 0 (⟨#[]⟩ : ByteArray) :=
  (denI_eq k _ _).trans (by kernel_rfl)
theorem f46.l0a_eq (k : Nat) (ln : Nat) (lf : Nat → PV) (n_ i c0 c0_1 : Int) (c0_2 : ByteArray) : f46.l0a k ln lf n_ i c0 c0_1 c0_2 =
  if decide (i < (ln : Int)) = true then
    if 0 ≤ i then
      if i < (ln : Int) then
        if hasSh (.agg [(.int .i64), (.int .i64), .str]) (lf i.toNat) = true then
          (D 105 [.agg [.sc (.int .i64 ((cel 0 (lf i.toNat).cells).toInt)), .sc (.int .i64 ((cel 1 (lf i.toNat).cells).toInt)), .sc (.string ((cel 2 (lf i.toNat).cells).toStr))]]).bind fun r1 => if hasSh (.agg [(.int .i64), (.int .i64), .str]) r1 = true then
          if (((cel 0 r1.cells).toInt) == 4) = true then
            some (.agg [.sc (.int .i64 ((cel 0 r1.cells).toInt)), .sc (.int .i64 ((cel 1 r1.cells).toInt)), .sc (.string ((cel 2 r1.cells).toStr))])
          else
            f46.l0a k ln lf (IntKind.i64.wrap (n_ + ((cel 1 r1.cells).toInt))) (IntKind.i64.wrap (i + 1)) c0 c0_1 c0_2
          else none
        else none
      else none
    else none
  else
    (D 106 [.sc (.bool ((n_.tmod 2) == 1))]).bind fun r2 => if hasSh (.agg [(.int .i64), (.int .i64), .str]) r2 = true then
    some (.agg [.sc (.int .i64 ((cel 0 r2.cells).toInt)), .sc (.int .i64 ((cel 1 r2.cells).toInt)), .sc (.string ((cel 2 r2.cells).toStr))])
    else none :=
  (loopAt_eq _ _ _ _).trans (by kernel_rfl)
-- oculus/oculusref12.AsTruth
theorem f105_eq (k : Nat) (v_ v__1 : Int) (v__2 : ByteArray) : D 105 [.agg [.sc (.int .i64 v_), .sc (.int .i64 v__1), .sc (.string v__2)]] =
  Option.bind (α := PV) (
    if (v_ == 3) = true then
      some (.sc (.bool true))
    else
      some (.sc (.bool (v_ == 4)))) fun r1 =>
  if r1.toBool = true then
    some (.agg [.sc (.int .i64 v_), .sc (.int .i64 v__1), .sc (.string v__2)])
  else
    Option.bind (α := PV) (
      if (v_ == 2) = true then
        some (.sc (.bool (!(v__2.toList == (⟨#[84, 82, 85, 69]⟩ : ByteArray).toList))))
      else
        some (.sc (.bool false))) fun r2 =>
    Option.bind (α := PV) (
      if r2.toBool = true then
        some (.sc (.bool (!(v__2.toList == (⟨#[70, 65, 76, 83, 69]⟩ : ByteArray).toList))))
      else
        some (.sc (.bool false))) fun r3 =>
    if r3.toBool = true then
      (D 96 [.sc (.int .i64 2)]).bind fun r4 => if hasSh (.agg [(.int .i64), (.int .i64), .str]) r4 = true then
      some (.agg [.sc (.int .i64 ((cel 0 r4.cells).toInt)), .sc (.int .i64 ((cel 1 r4.cells).toInt)), .sc (.string ((cel 2 r4.cells).toStr))])
      else none
    else
      Option.bind (α := PV) (
        if (v__1 != 0) = true then
          some (.sc (.bool true))
        else
          some (.sc (.bool (v__2.toList == (⟨#[84, 82, 85, 69]⟩ : ByteArray).toList)))) fun r5 =>
      (D 106 [.sc (.bool r5.toBool)]).bind fun r6 => if hasSh (.agg [(.int .i64), (.int .i64), .str]) r6 = true then
      some (.agg [.sc (.int .i64 ((cel 0 r6.cells).toInt)), .sc (.int .i64 ((cel 1 r6.cells).toInt)), .sc (.string ((cel 2 r6.cells).toStr))])
      else none :=
  (denI_eq k _ _).trans (by kernel_rfl)
-- oculus/oculusref12.Bool
theorem f106_eq (k : Nat) (is : Bool) : D 106 [.sc (.bool is)] =
  if is = true then
    some (.agg [.sc (.int .i64 3), .sc (.int .i64 1), .sc (.string (⟨#[]⟩ : ByteArray))])
  else
    some (.agg [.sc (.int .i64 3), .sc (.int .i64 0), .sc (.string (⟨#[]⟩ : ByteArray))]) :=
  (denI_eq k _ _).trans (by kernel_rfl)
end EF
end Go.Den
