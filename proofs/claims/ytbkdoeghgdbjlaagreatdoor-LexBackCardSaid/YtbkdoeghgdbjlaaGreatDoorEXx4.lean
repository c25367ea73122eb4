import Derived.Test.YtbkdoeghgdbjlaaGreatDoorEXh
import Derived.KernelRfl
set_option maxRecDepth 100000
set_option linter.unusedVariables false
namespace Go.Den
open Go Go.Proofs
namespace EX
-- oculus/oculusref11.Text
noncomputable def f92.j0a (k : Nat) (n_ : Int) (s_ : ByteArray) : Option PV := gateK k (placeAt Tryz.prog cf ext hint k 92 [1, 1, 1, 1, 1]) ⟨[.top, .top, .top, .sc (.int .u64 n_), .sc (.string s_), .top, .top, .top, .top, .top, .top, .top, .top, .top, .top, .top, .top, .top, .top, .top, .top, .top, .top, .top, .top, .top, .top, .top, .top, .top, .top, .top, .top, .top, .top], [], none⟩
noncomputable def f92.j1a (k : Nat) (s_ : ByteArray) (rest : Int) : Option PV := gateK k (placeAt Tryz.prog cf ext hint k 92 [1, 1, 1, 1, 1, 1, 1]) ⟨[.top, .top, .top, .top, .sc (.string s_), .sc (.int .u64 rest), .top, .top, .top, .top, .top, .top, .top, .top, .top, .top, .top, .top, .top, .top, .top, .top, .top, .top, .top, .top, .top, .top, .top, .top, .top, .top, .top, .top, .top], [], none⟩
noncomputable def f92.l2a (k : Nat) (s_ : ByteArray) (rest : Int) : Option PV := loopAt Tryz.prog cf ext hint k 92 [1, 1, 1, 1, 1, 1, 1, 0, 0] ⟨[.top, .top, .top, .top, .sc (.string s_), .sc (.int .u64 rest), .top, .top, .top, .top, .top, .top, .top, .top, .top, .top, .top, .top, .top, .top, .top, .top, .top, .top, .top, .top, .top, .top, .top, .top, .top, .top, .top, .top, .top], [], none⟩
theorem f92_eq (k : Nat) (x_ : Int) : D 92 [.sc (.int .i64 x_)] =
  (D 56 [.sc (.int .i64 x_)]).bind fun r1 => if hasSh .bool r1 = true then
  if (!r1.toBool) = true then
    some (.sc (.string (⟨#[]⟩ : ByteArray)))
  else
    (D 132 [.sc (.int .i64 x_)]).bind fun r2 => if hasSh (.int .u64) r2 = true then
    (D 133 [.sc (.int .u64 (IntKind.u64.wrap (r2.toInt.tdiv 10000)))]).bind fun r3 => if hasSh .str r3 = true then
    if decide (x_ < 0) = true then
      if 1 + r3.toStr.size ≤ 9223372036854775807 then
        f92.j0a k r2.toInt ((⟨#[45]⟩ : ByteArray) ++ r3.toStr)
      else none
    else
      f92.j0a k r2.toInt r3.toStr
    else none
    else none
  else none :=
  (denI_eq k _ _).trans (by kernel_rfl)
theorem f92.j0a_eq (k : Nat) (n_ : Int) (s_ : ByteArray) : f92.j0a k n_ s_ =
  if decide ((n_.tmod 10000) > 0) = true then
    if s_.size + 1 ≤ 9223372036854775807 then
      f92.j1a k (s_ ++ (⟨#[46]⟩ : ByteArray)) (n_.tmod 10000)
    else none
  else
    f92.j1a k s_ (n_.tmod 10000) :=
  (gateK_open _ _ _).trans (by kernel_rfl)
theorem f92.j1a_eq (k : Nat) (s_ : ByteArray) (rest : Int) : f92.j1a k s_ rest =
  f92.l2a k s_ rest :=
  (gateK_open _ _ _).trans (by kernel_rfl)
theorem f92.l2a_eq (k : Nat) (s_ : ByteArray) (rest : Int) : f92.l2a k s_ rest =
  if decide (rest > 0) = true then
    (D 133 [.sc (.int .u64 (IntKind.u64.wrap (rest.tdiv 1000)))]).bind fun r4 => if hasSh .str r4 = true then
    if s_.size + r4.toStr.size ≤ 9223372036854775807 then
      f92.l2a k (s_ ++ r4.toStr) (IntKind.u64.wrap ((rest.tmod 1000) * 10))
    else none
    else none
  else
    some (.sc (.string s_)) :=
  (loopAt_eq _ _ _ _).trans (by kernel_rfl)
-- oculus/oculusref11.whole
noncomputable def f133.l0a (k : Nat) (n_ : Int) (s_ : ByteArray) : Option PV := loopAt Tryz.prog cf ext hint k 133 [1, 1, 0, 1, 0] ⟨[.sc (.int .u64 n_), .top, .top, .sc (.string s_), .top, .top, .top, .top, .top, .top, .top, .top, .top, .top, .top, .top, .top, .top, .top, .top, .top, .top, .top, .top, .top], [], none⟩
theorem f133_eq (k : Nat) (n_ : Int) : D 133 [.sc (.int .u64 n_)] =
  if ([.sc (.int .u8 (IntKind.u8.wrap (IntKind.u64.wrap ((48 : Int) + (n_.tmod 10)))))] : List PV).all (hasSh (.int .u8)) = true then
    f133.l0a k (IntKind.u64.wrap (n_.tdiv 10)) (bytesOf ([.sc (.int .u8 (IntKind.u8.wrap (IntKind.u64.wrap ((48 : Int) + (n_.tmod 10)))))] : List PV))
  else none :=
  (denI_eq k _ _).trans (by kernel_rfl)
theorem f133.l0a_eq (k : Nat) (n_ : Int) (s_ : ByteArray) : f133.l0a k n_ s_ =
  if decide (n_ > 0) = true then
    if ([.sc (.int .u8 (IntKind.u8.wrap (IntKind.u64.wrap ((48 : Int) + (n_.tmod 10)))))] : List PV).all (hasSh (.int .u8)) = true then
      if (bytesOf ([.sc (.int .u8 (IntKind.u8.wrap (IntKind.u64.wrap ((48 : Int) + (n_.tmod 10)))))] : List PV)).size + s_.size ≤ 9223372036854775807 then
        f133.l0a k (IntKind.u64.wrap (n_.tdiv 10)) ((bytesOf ([.sc (.int .u8 (IntKind.u8.wrap (IntKind.u64.wrap ((48 : Int) + (n_.tmod 10)))))] : List PV)) ++ s_)
      else none
    else none
  else
    some (.sc (.string s_)) :=
  (loopAt_eq _ _ _ _).trans (by kernel_rfl)
-- oculus/oculuslaw21.moved
noncomputable def f52.l0a (k : Nat) (bn : Nat) (bf : Nat → PV) (t12n : Nat) (t12f : Nat → PV) (t13 t14 : Int) : Option PV := loopAt Tryz.prog cf ext hint k 52 [1, 1, 0, 1, 0] ⟨[.top, .lst 4 bn bf, .top, .top, .top, .top, .top, .top, .top, .top, .top, .top, .lst 4 t12n t12f, .sc (.int .i64 t13), .sc (.int .i64 t14), .top, .top, .top, .top, .top, .top, .top, .top, .top, .top, .top, .top, .top, .top, .top, .top, .top, .top, .top, .top, .top, .top, .top, .top, .top, .top, .top, .top, .top, .top, .top, .top, .top], [], none⟩
theorem f52_eq (k : Nat) (an : Nat) (af : Nat → PV) (bn : Nat) (bf : Nat → PV) : D 52 [.lst 4 an af, .lst 4 bn bf] =
  if ((an : Int) != (bn : Int)) = true then
    some (.sc (.bool false))
  else
    f52.l0a k bn bf an af (an : Int) 0 :=
  (denI_eq k _ _).trans (by kernel_rfl)
theorem f52.l0a_eq (k : Nat) (bn : Nat) (bf : Nat → PV) (t12n : Nat) (t12f : Nat → PV) (t13 t14 : Int) : f52.l0a k bn bf t12n t12f t13 t14 =
  if decide (t14 < t13) = true then
    if 0 ≤ t14 then
      if t14 < (t12n : Int) then
        if hasSh (.agg [(.int .i64), (.int .i64), .str, (.int .i64)]) (t12f t14.toNat) = true then
          if 0 ≤ t14 then
            if t14 < (bn : Int) then
              if hasSh (.agg [(.int .i64), (.int .i64), .str, (.int .i64)]) (bf t14.toNat) = true then
                Option.bind (α := PV) (
                  if (((cel 0 (t12f t14.toNat).cells).toInt) != ((cel 0 (bf t14.toNat).cells).toInt)) = true then
                    some (.sc (.bool true))
                  else
                    Option.bind (α := PV) (
                      Option.bind (α := PV) (
                        Option.bind (α := PV) (
                          Option.bind (α := PV) (
                            if 0 ≤ t14 then
                              if t14 < (bn : Int) then
                                if hasSh (.agg [(.int .i64), (.int .i64), .str, (.int .i64)]) (bf t14.toNat) = true then
                                  some (.sc (.bool (!(((cel 2 (t12f t14.toNat).cells).toStr).toList == ((cel 2 (bf t14.toNat).cells).toStr).toList))))
                                else none
                              else none
                            else none) fun r1 =>
                          some (.sc (.bool r1.toBool))) fun r2 =>
                        some (.sc (.bool r2.toBool))) fun r3 =>
                      some (.sc (.bool r3.toBool))) fun r4 =>
                    some (.sc (.bool r4.toBool))) fun r5 =>
                Option.bind (α := PV) (
                  if r5.toBool = true then
                    some (.sc (.bool true))
                  else
                    Option.bind (α := PV) (
                      Option.bind (α := PV) (
                        Option.bind (α := PV) (
                          Option.bind (α := PV) (
                            if 0 ≤ t14 then
                              if t14 < (bn : Int) then
                                if hasSh (.agg [(.int .i64), (.int .i64), .str, (.int .i64)]) (bf t14.toNat) = true then
                                  some (.sc (.bool (((cel 3 (t12f t14.toNat).cells).toInt) != ((cel 3 (bf t14.toNat).cells).toInt))))
                                else none
                              else none
                            else none) fun r6 =>
                          some (.sc (.bool r6.toBool))) fun r7 =>
                        some (.sc (.bool r7.toBool))) fun r8 =>
                      some (.sc (.bool r8.toBool))) fun r9 =>
                    some (.sc (.bool r9.toBool))) fun r10 =>
                if r10.toBool = true then
                  some (.sc (.bool false))
                else
                  f52.l0a k bn bf t12n t12f t13 (IntKind.i64.wrap (t14 + 1))
              else none
            else none
          else none
        else none
      else none
    else none
  else
    some (.sc (.bool true)) :=
  (loopAt_eq _ _ _ _).trans (by kernel_rfl)
end EX
end Go.Den
