import Derived.Test.YtcncojlgapknpaaEAh
import Derived.KernelRfl
set_option maxRecDepth 100000
set_option linter.unusedVariables false
namespace Go.Den
open Go Go.Proofs
namespace EA
-- oculus/oculusref01.Join
noncomputable def f34.l0a (k : Nat) (a b s_ c : Int) : Option PV := loopAt Try.prog 6 ext hint k 34 [1, 1, 0, 1, 0] ⟨[.sc (.int .u64 a), .sc (.int .u64 b), .top, .top, .top, .sc (.int .u64 s_), .sc (.int .i64 c), .top, .top, .top, .top, .top, .top, .top, .top, .top, .top, .top, .top, .top, .top, .top, .top, .top], []⟩
theorem f34_eq (k : Nat) (a b : Int) : D 34 [.sc (.int .u64 a), .sc (.int .u64 b)] =
  f34.l0a k a b 0 0 :=
  (denI_eq k _ _).trans (by kernel_rfl)
theorem f34.l0a_eq (k : Nat) (a b s_ c : Int) : f34.l0a k a b s_ c =
  if decide (c < 64) = true then
    (D 37 [.sc (.int .u64 a), .sc (.int .i64 c)]).bind fun r1 => if hasSh .bool r1 = true then
    Option.bind (α := PV) (
      if r1.toBool = true then
        some (.sc (.bool true))
      else
        Option.bind (α := PV) (
          Option.bind (α := PV) (
            (D 37 [.sc (.int .u64 b), .sc (.int .i64 c)]).bind fun r2 => if hasSh .bool r2 = true then
            some (.sc (.bool r2.toBool))
            else none) fun r3 =>
          some (.sc (.bool r3.toBool))) fun r4 =>
        some (.sc (.bool r4.toBool))) fun r5 =>
    if r5.toBool = true then
      (D 35 [.sc (.int .i64 c)]).bind fun r6 => if hasSh (.int .u64) r6 = true then
      f34.l0a k a b (IntKind.u64.wrap (s_ + r6.toInt)) (IntKind.i64.wrap (c + 1))
      else none
    else
      f34.l0a k a b s_ (IntKind.i64.wrap (c + 1))
    else none
  else
    some (.sc (.int .u64 s_)) :=
  (loopAt_eq _ _ _ _).trans (by kernel_rfl)
-- oculus/oculusref01.One
noncomputable def f35.l0a (k : Nat) (c s_ i : Int) : Option PV := loopAt Try.prog 6 ext hint k 35 [1, 1, 0, 1, 0] ⟨[.sc (.int .i64 c), .top, .top, .sc (.int .u64 s_), .sc (.int .i64 i), .top, .top, .top, .top, .top, .top, .top, .top], []⟩
theorem f35_eq (k : Nat) (c : Int) : D 35 [.sc (.int .i64 c)] =
  f35.l0a k c 1 0 :=
  (denI_eq k _ _).trans (by kernel_rfl)
theorem f35.l0a_eq (k : Nat) (c s_ i : Int) : f35.l0a k c s_ i =
  if decide (i < c) = true then
    f35.l0a k c (IntKind.u64.wrap (s_ * 2)) (IntKind.i64.wrap (i + 1))
  else
    some (.sc (.int .u64 s_)) :=
  (loopAt_eq _ _ _ _).trans (by kernel_rfl)
-- oculus/oculusref01.Bit
noncomputable def f37.l0a (k : Nat) (s_ c i : Int) : Option PV := loopAt Try.prog 6 ext hint k 37 [1, 1, 0, 1, 0] ⟨[.sc (.int .u64 s_), .sc (.int .i64 c), .top, .top, .top, .sc (.int .i64 i), .top, .top, .top, .top, .top, .top, .top, .top, .top, .top, .top, .top, .top, .top, .top, .top], []⟩
theorem f37_eq (k : Nat) (s_ c : Int) : D 37 [.sc (.int .u64 s_), .sc (.int .i64 c)] =
  Option.bind (α := PV) (
    if decide (c < 0) = true then
      some (.sc (.bool true))
    else
      some (.sc (.bool (decide (c > 63))))) fun r1 =>
  if r1.toBool = true then
    some (.sc (.bool false))
  else
    f37.l0a k s_ c 0 :=
  (denI_eq k _ _).trans (by kernel_rfl)
theorem f37.l0a_eq (k : Nat) (s_ c i : Int) : f37.l0a k s_ c i =
  if decide (i < c) = true then
    f37.l0a k (IntKind.u64.wrap (s_.tdiv 2)) c (IntKind.i64.wrap (i + 1))
  else
    some (.sc (.bool ((s_.tmod 2) == 1))) :=
  (loopAt_eq _ _ _ _).trans (by kernel_rfl)
-- oculus/oculusref01.Text
noncomputable def f36.l0a (k : Nat) (out : ByteArray) (ln : Nat) (lf : Nat → PV) (i : Int) : Option PV := loopAt Try.prog 6 ext hint k 36 [1, 1, 1, 0, 1, 0] ⟨[.top, .top, .top, .sc (.string out), .lst 1 ln lf, .sc (.int .i64 i), .top, .top, .top, .top, .top, .top, .top, .top, .top, .top, .top, .top, .top, .top, .top, .top, .top, .top, .top, .top], []⟩
noncomputable def f36.j1a (k : Nat) (out : ByteArray) (ln : Nat) (lf : Nat → PV) (i : Int) : Option PV := gateK k (placeAt Try.prog 6 ext hint k 36 [1, 1, 1, 0, 1, 0, 0, 1, 0, 0, 1]) ⟨[.top, .top, .top, .sc (.string out), .lst 1 ln lf, .sc (.int .i64 i), .top, .top, .top, .top, .top, .top, .top, .top, .top, .top, .top, .top, .top, .top, .top, .top, .top, .top, .top, .top], []⟩
theorem f36_eq (k : Nat) (s_ : Int) : D 36 [.sc (.int .u64 s_)] =
  (D 38 [.sc (.int .u64 s_)]).bind fun r1 => if hasSh (.lst 1) r1 = true then
  f36.l0a k (⟨#[]⟩ : ByteArray) r1.len r1.at 0
  else none :=
  (denI_eq k _ _).trans (by kernel_rfl)
theorem f36.l0a_eq (k : Nat) (out : ByteArray) (ln : Nat) (lf : Nat → PV) (i : Int) : f36.l0a k out ln lf i =
  if decide (i < (ln : Int)) = true then
    if decide (i > 0) = true then
      if out.size + 1 ≤ 9223372036854775807 then
        f36.j1a k (out ++ (⟨#[44]⟩ : ByteArray)) ln lf i
      else none
    else
      f36.j1a k out ln lf i
  else
    some (.sc (.string out)) :=
  (loopAt_eq _ _ _ _).trans (by kernel_rfl)
theorem f36.j1a_eq (k : Nat) (out : ByteArray) (ln : Nat) (lf : Nat → PV) (i : Int) : f36.j1a k out ln lf i =
  if 0 ≤ i then
    if i < (ln : Int) then
      if hasSh (.int .i64) (lf i.toNat) = true then
        (D 30 [.sc (.int .i64 ((lf i.toNat).toInt))]).bind fun r2 => if hasSh .str r2 = true then
        if out.size + r2.toStr.size ≤ 9223372036854775807 then
          f36.l0a k (out ++ r2.toStr) ln lf (IntKind.i64.wrap (i + 1))
        else none
        else none
      else none
    else none
  else none :=
  (gateK_open _ _ _).trans (by kernel_rfl)
-- oculus/oculusref01.List
noncomputable def f38.l0a (k : Nat) (s_ c : Int) : Option PV := loopAt Try.prog 6 ext hint k 38 [1, 1, 0, 1, 0] ⟨[.sc (.int .u64 s_), .top, .top, .nils, .sc (.int .i64 c), .top, .top, .top, .top, .top, .top, .top, .top, .top, .top, .top, .top], []⟩
noncomputable def f38.l0b (k : Nat) (s_ c : Int) (out : List PV) : Option PV := loopAt Try.prog 6 ext hint k 38 [1, 1, 0, 1, 0] ⟨[.sc (.int .u64 s_), .top, .top, .buf 0 0, .sc (.int .i64 c), .top, .top, .top, .top, .top, .top, .top, .top, .top, .top, .top, .top], [.buf 3 0 out]⟩
theorem f38_eq (k : Nat) (s_ : Int) : D 38 [.sc (.int .u64 s_)] =
  f38.l0a k s_ 0 :=
  (denI_eq k _ _).trans (by kernel_rfl)
theorem f38.l0a_eq (k : Nat) (s_ c : Int) : f38.l0a k s_ c =
  if decide (c < 64) = true then
    (D 37 [.sc (.int .u64 s_), .sc (.int .i64 c)]).bind fun r1 => if hasSh .bool r1 = true then
    if r1.toBool = true then
      if ([.sc (.int .i64 c)] : List PV).length * 8 ≤ 140737488355328 ∧ ([.sc (.int .i64 c)] : List PV).length ≤ 140737488355328 then
        f38.l0b k s_ (IntKind.i64.wrap (c + 1)) ([.sc (.int .i64 c)] : List PV)
      else none
    else
      f38.l0a k s_ (IntKind.i64.wrap (c + 1))
    else none
  else
    some (.lst 1 0 (fun _ => .top)) :=
  (loopAt_eq _ _ _ _).trans (by kernel_rfl)
theorem f38.l0b_eq (k : Nat) (s_ c : Int) (out : List PV) : f38.l0b k s_ c out =
  if decide (c < 64) = true then
    (D 37 [.sc (.int .u64 s_), .sc (.int .i64 c)]).bind fun r2 => if hasSh .bool r2 = true then
    if r2.toBool = true then
      if (out.length + ([.sc (.int .i64 c)] : List PV).length) * 8 ≤ 140737488355328 ∧ out.length + ([.sc (.int .i64 c)] : List PV).length ≤ 140737488355328 then
        f38.l0b k s_ (IntKind.i64.wrap (c + 1)) (out ++ ([.sc (.int .i64 c)] : List PV))
      else none
    else
      f38.l0b k s_ (IntKind.i64.wrap (c + 1)) out
    else none
  else
    some (frozen 1 out) :=
  (loopAt_eq _ _ _ _).trans (by kernel_rfl)
-- oculus/oculusref02.Text
theorem f32_eq (k : Nat) (l l_1 : Int) : D 32 [.agg [.sc (.int .i64 l), .sc (.int .u64 l_1)]] =
  Option.bind (α := PV) (
    if decide (l < 0) = true then
      some (.sc (.bool true))
    else
      some (.sc (.bool (decide (l > 15))))) fun r1 =>
  if r1.toBool = true then
    some (.sc (.string (⟨#[]⟩ : ByteArray)))
  else
    (D 29 []).bind fun r2 => if hasSh (.agg [(.int .i64), (.int .u64)]) r2 = true then
    if ((l == ((cel 0 r2.cells).toInt)) && ((l_1 == ((cel 1 r2.cells).toInt)) && true)) = true then
      some (.sc (.string (⟨#[116, 111, 112]⟩ : ByteArray)))
    else
      (D 30 [.sc (.int .i64 l)]).bind fun r3 => if hasSh .str r3 = true then
      if (l_1 != 0) = true then
        if r3.toStr.size + 1 ≤ 9223372036854775807 then
          (D 36 [.sc (.int .u64 l_1)]).bind fun r4 => if hasSh .str r4 = true then
          if (r3.toStr ++ (⟨#[58]⟩ : ByteArray)).size + r4.toStr.size ≤ 9223372036854775807 then
            some (.sc (.string ((r3.toStr ++ (⟨#[58]⟩ : ByteArray)) ++ r4.toStr)))
          else none
          else none
        else none
      else
        some (.sc (.string r3.toStr))
      else none
    else none :=
  (denI_eq k _ _).trans (by kernel_rfl)
-- oculus/oculusref19.Fits
theorem f23_eq (k : Nat) (fn n_ : Int) : D 23 [.sc (.int .i64 fn), .sc (.int .i64 n_)] =
  Option.bind (α := PV) (
    if decide (fn < 1) = true then
      some (.sc (.bool true))
    else
      some (.sc (.bool (decide (fn > 78))))) fun r1 =>
  if r1.toBool = true then
    some (.sc (.bool false))
  else
    (D 28 []).bind fun r2 => if hasSh (.lst 1) r2 = true then
    if 0 ≤ IntKind.i64.wrap (fn - 1) then
      if IntKind.i64.wrap (fn - 1) < (r2.len : Int) then
        if hasSh .str (r2.at (IntKind.i64.wrap (fn - 1)).toNat) = true then
          if 0 < (((r2.at (IntKind.i64.wrap (fn - 1)).toNat).toStr).size : Int) then
            Option.bind (α := PV) (
              if decide (n_ ≥ (IntKind.i64.wrap ((IntKind.i64.wrap (bt ((r2.at (IntKind.i64.wrap (fn - 1)).toNat).toStr) 0)) - 48))) = true then
                Option.bind (α := PV) (
                  Option.bind (α := PV) (
                    if 1 < (((r2.at (IntKind.i64.wrap (fn - 1)).toNat).toStr).size : Int) then
                      some (.sc (.bool (decide (n_ ≤ (IntKind.i64.wrap ((IntKind.i64.wrap (bt ((r2.at (IntKind.i64.wrap (fn - 1)).toNat).toStr) 1)) - 48))))))
                    else none) fun r3 =>
                  some (.sc (.bool r3.toBool))) fun r4 =>
                some (.sc (.bool r4.toBool))
              else
                some (.sc (.bool false))) fun r5 =>
            some (.sc (.bool r5.toBool))
          else none
        else none
      else none
    else none
    else none :=
  (denI_eq k _ _).trans (by kernel_rfl)
-- oculus/oculusref19.Rows
theorem f28_eq (k : Nat)  : D 28 [] =
  some (frozen 1 ([.sc (.string (⟨#[49, 49, 118]⟩ : ByteArray)), .sc (.string (⟨#[49, 56, 101]⟩ : ByteArray)), .sc (.string (⟨#[49, 56, 108]⟩ : ByteArray)), .sc (.string (⟨#[50, 50, 114, 118]⟩ : ByteArray)), .sc (.string (⟨#[50, 50, 118]⟩ : ByteArray)), .sc (.string (⟨#[49, 49, 118]⟩ : ByteArray)), .sc (.string (⟨#[50, 56, 101]⟩ : ByteArray)), .sc (.string (⟨#[49, 49, 118]⟩ : ByteArray)), .sc (.string (⟨#[49, 49, 110]⟩ : ByteArray)), .sc (.string (⟨#[49, 49, 110]⟩ : ByteArray)), .sc (.string (⟨#[50, 50, 118]⟩ : ByteArray)), .sc (.string (⟨#[49, 56, 108]⟩ : ByteArray)), .sc (.string (⟨#[49, 56, 108]⟩ : ByteArray)), .sc (.string (⟨#[49, 56, 108]⟩ : ByteArray)), .sc (.string (⟨#[49, 56, 108]⟩ : ByteArray)), .sc (.string (⟨#[50, 50, 114, 118]⟩ : ByteArray)), .sc (.string (⟨#[50, 50, 101, 116]⟩ : ByteArray)), .sc (.string (⟨#[49, 49, 118]⟩ : ByteArray)), .sc (.string (⟨#[50, 50, 118]⟩ : ByteArray)), .sc (.string (⟨#[49, 49, 118]⟩ : ByteArray)), .sc (.string (⟨#[50, 50, 118]⟩ : ByteArray)), .sc (.string (⟨#[50, 50, 118]⟩ : ByteArray)), .sc (.string (⟨#[50, 50, 118]⟩ : ByteArray)), .sc (.string (⟨#[51, 51, 118, 114, 118]⟩ : ByteArray)), .sc (.string (⟨#[50, 51, 101]⟩ : ByteArray)), .sc (.string (⟨#[50, 50, 101]⟩ : ByteArray)), .sc (.string (⟨#[50, 51, 114, 118]⟩ : ByteArray)), .sc (.string (⟨#[49, 49, 118]⟩ : ByteArray)), .sc (.string (⟨#[49, 49, 118]⟩ : ByteArray)), .sc (.string (⟨#[49, 49, 118]⟩ : ByteArray)), .sc (.string (⟨#[49, 49, 118]⟩ : ByteArray)), .sc (.string (⟨#[49, 49, 118]⟩ : ByteArray)), .sc (.string (⟨#[49, 49, 118]⟩ : ByteArray)), .sc (.string (⟨#[50, 50, 114, 118]⟩ : ByteArray)), .sc (.string (⟨#[50, 50, 118]⟩ : ByteArray)), .sc (.string (⟨#[50, 50, 118]⟩ : ByteArray)), .sc (.string (⟨#[49, 49, 118]⟩ : ByteArray)), .sc (.string (⟨#[49, 49, 118]⟩ : ByteArray)), .sc (.string (⟨#[50, 50, 118, 114]⟩ : ByteArray)), .sc (.string (⟨#[49, 56, 108]⟩ : ByteArray)), .sc (.string (⟨#[49, 56, 108]⟩ : ByteArray)), .sc (.string (⟨#[51, 51, 118]⟩ : ByteArray)), .sc (.string (⟨#[49, 56, 108]⟩ : ByteArray)), .sc (.string (⟨#[50, 50, 118]⟩ : ByteArray)), .sc (.string (⟨#[49, 56, 108]⟩ : ByteArray)), .sc (.string (⟨#[48, 48]⟩ : ByteArray)), .sc (.string (⟨#[49, 49, 118]⟩ : ByteArray)), .sc (.string (⟨#[49, 49, 118]⟩ : ByteArray)), .sc (.string (⟨#[49, 56, 101]⟩ : ByteArray)), .sc (.string (⟨#[50, 50, 118]⟩ : ByteArray)), .sc (.string (⟨#[49, 56, 108]⟩ : ByteArray)), .sc (.string (⟨#[49, 49, 118]⟩ : ByteArray)), .sc (.string (⟨#[50, 50, 118]⟩ : ByteArray)), .sc (.string (⟨#[50, 50, 118, 114]⟩ : ByteArray)), .sc (.string (⟨#[50, 50, 118]⟩ : ByteArray)), .sc (.string (⟨#[49, 49, 118]⟩ : ByteArray)), .sc (.string (⟨#[50, 50, 118]⟩ : ByteArray)), .sc (.string (⟨#[50, 50, 118]⟩ : ByteArray)), .sc (.string (⟨#[50, 50, 118]⟩ : ByteArray)), .sc (.string (⟨#[50, 50, 118]⟩ : ByteArray)), .sc (.string (⟨#[49, 49, 110]⟩ : ByteArray)), .sc (.string (⟨#[49, 49, 110]⟩ : ByteArray)), .sc (.string (⟨#[49, 49, 118]⟩ : ByteArray)), .sc (.string (⟨#[50, 50, 114, 118]⟩ : ByteArray)), .sc (.string (⟨#[49, 49, 118]⟩ : ByteArray)), .sc (.string (⟨#[51, 51, 118]⟩ : ByteArray)), .sc (.string (⟨#[49, 56, 108]⟩ : ByteArray)), .sc (.string (⟨#[50, 50, 114, 118]⟩ : ByteArray)), .sc (.string (⟨#[50, 50, 114]⟩ : ByteArray)), .sc (.string (⟨#[49, 56, 108]⟩ : ByteArray)), .sc (.string (⟨#[51, 56, 101]⟩ : ByteArray)), .sc (.string (⟨#[50, 50, 118]⟩ : ByteArray)), .sc (.string (⟨#[49, 49, 118]⟩ : ByteArray)), .sc (.string (⟨#[49, 49, 118]⟩ : ByteArray)), .sc (.string (⟨#[49, 49, 118]⟩ : ByteArray)), .sc (.string (⟨#[49, 49, 118]⟩ : ByteArray)), .sc (.string (⟨#[51, 51, 118, 114, 118]⟩ : ByteArray)), .sc (.string (⟨#[49, 56, 108]⟩ : ByteArray))] : List PV)) :=
  (denI_eq k _ _).trans (by kernel_rfl)
-- oculus/oculusref19.Kind
theorem f24_eq (k : Nat) (fn i : Int) : D 24 [.sc (.int .i64 fn), .sc (.int .i64 i)] =
  Option.bind (α := PV) (
    if decide (fn < 1) = true then
      some (.sc (.bool true))
    else
      some (.sc (.bool (decide (fn > 78))))) fun r1 =>
  Option.bind (α := PV) (
    if r1.toBool = true then
      some (.sc (.bool true))
    else
      some (.sc (.bool (decide (i < 0))))) fun r2 =>
  if r2.toBool = true then
    some (.sc (.int .u8 0))
  else
    (D 28 []).bind fun r3 => if hasSh (.lst 1) r3 = true then
    if 0 ≤ IntKind.i64.wrap (fn - 1) then
      if IntKind.i64.wrap (fn - 1) < (r3.len : Int) then
        if hasSh .str (r3.at (IntKind.i64.wrap (fn - 1)).toNat) = true then
          if 1 < (((r3.at (IntKind.i64.wrap (fn - 1)).toNat).toStr).size : Int) then
            if decide (i ≥ (IntKind.i64.wrap ((IntKind.i64.wrap (bt ((r3.at (IntKind.i64.wrap (fn - 1)).toNat).toStr) 1)) - 48))) = true then
              some (.sc (.int .u8 0))
            else
              if decide ((IntKind.i64.wrap ((2 : Int) + i)) < (((r3.at (IntKind.i64.wrap (fn - 1)).toNat).toStr).size : Int)) = true then
                if 0 ≤ IntKind.i64.wrap ((2 : Int) + i) then
                  if IntKind.i64.wrap ((2 : Int) + i) < (((r3.at (IntKind.i64.wrap (fn - 1)).toNat).toStr).size : Int) then
                    some (.sc (.int .u8 (bt ((r3.at (IntKind.i64.wrap (fn - 1)).toNat).toStr) (IntKind.i64.wrap ((2 : Int) + i)))))
                  else none
                else none
              else
                if 0 ≤ IntKind.i64.wrap ((((r3.at (IntKind.i64.wrap (fn - 1)).toNat).toStr).size : Int) - 1) then
                  if IntKind.i64.wrap ((((r3.at (IntKind.i64.wrap (fn - 1)).toNat).toStr).size : Int) - 1) < (((r3.at (IntKind.i64.wrap (fn - 1)).toNat).toStr).size : Int) then
                    some (.sc (.int .u8 (bt ((r3.at (IntKind.i64.wrap (fn - 1)).toNat).toStr) (IntKind.i64.wrap ((((r3.at (IntKind.i64.wrap (fn - 1)).toNat).toStr).size : Int) - 1)))))
                  else none
                else none
          else none
        else none
      else none
    else none
    else none :=
  (denI_eq k _ _).trans (by kernel_rfl)
-- oculus/oculuslaw25.lost
noncomputable def f11.l0a (k : Nat) (k_ : Int) (t7n : Nat) (t7f : Nat → PV) (t8 t9 : Int) : Option PV := loopAt Try.prog 6 ext hint k 11 [1, 1, 0, 1, 0] ⟨[.top, .top, .top, .sc (.int .i64 k_), .top, .top, .top, .lst 14 t7n t7f, .sc (.int .i64 t8), .sc (.int .i64 t9), .top, .top, .top, .top, .top, .top, .top, .top, .top, .top], []⟩
theorem f11_eq (k : Nat) (n_ n__1 n__2 n__3 : Int) (n__4 : ByteArray) (n__5 n__6 : Int) (n__7 n__8 : Bool) (n__9 n__10 : Int) (n__11 n__12 : Bool) (nn : Nat) (nf : Nat → PV) : D 11 [.agg [.sc (.int .i64 n_), .sc (.int .i64 n__1), .sc (.int .i64 n__2), .sc (.int .i64 n__3), .sc (.string n__4), .sc (.int .i64 n__5), .sc (.int .i64 n__6), .sc (.bool n__7), .sc (.bool n__8), .sc (.int .i64 n__9), .sc (.int .i64 n__10), .sc (.bool n__11), .sc (.bool n__12), .lst 14 nn nf]] =
  (D 10 [.agg [.sc (.int .i64 n_), .sc (.int .i64 n__1), .sc (.int .i64 n__2), .sc (.int .i64 n__3), .sc (.string n__4), .sc (.int .i64 n__5), .sc (.int .i64 n__6), .sc (.bool n__7), .sc (.bool n__8), .sc (.int .i64 n__9), .sc (.int .i64 n__10), .sc (.bool n__11), .sc (.bool n__12), .lst 14 nn nf]]).bind fun r1 => if hasSh (.lst 14) r1 = true then
  f11.l0a k 0 r1.len r1.at (r1.len : Int) 0
  else none :=
  (denI_eq k _ _).trans (by kernel_rfl)
theorem f11.l0a_eq (k : Nat) (k_ : Int) (t7n : Nat) (t7f : Nat → PV) (t8 t9 : Int) : f11.l0a k k_ t7n t7f t8 t9 =
  if decide (t9 < t8) = true then
    if 0 ≤ t9 then
      if t9 < (t7n : Int) then
        if hasSh (.agg [(.int .i64), (.int .i64), (.int .i64), (.int .i64), .str, (.int .i64), (.int .i64), .bool, .bool, (.int .i64), (.int .i64), .bool, .bool, (.lst 14)]) (t7f t9.toNat) = true then
          if (((cel 0 (t7f t9.toNat).cells).toInt) == 2) = true then
            f11.l0a k (IntKind.i64.wrap (k_ + 1)) t7n t7f t8 (IntKind.i64.wrap (t9 + 1))
          else
            f11.l0a k k_ t7n t7f t8 (IntKind.i64.wrap (t9 + 1))
        else none
      else none
    else none
  else
    some (.sc (.int .i64 k_)) :=
  (loopAt_eq _ _ _ _).trans (by kernel_rfl)
-- oculus/oculusref22.Same
noncomputable def f12.l0a (k : Nat) (xn : Nat) (xf : Nat → PV) (yn : Nat) (yf : Nat → PV) (i : Int) : Option PV := loopAt Try.prog 6 ext hint k 12 [1, 1, 1, 0, 1, 0] ⟨[.top, .top, .top, .top, .top, .lst 14 xn xf, .lst 14 yn yf, .sc (.int .i64 i), .top, .top, .top, .top, .top, .top, .top, .top, .top, .top, .top, .top, .top, .top, .top, .top, .top, .top, .top, .top, .top, .top, .top, .top, .top, .top, .top, .top, .top, .top, .top, .top, .top, .top, .top, .top, .top, .top, .top, .top, .top, .top, .top, .top, .top, .top, .top, .top, .top, .top, .top, .top, .top, .top, .top, .top, .top, .top, .top, .top, .top, .top, .top, .top, .top, .top, .top, .top, .top, .top, .top, .top, .top, .top, .top, .top, .top, .top, .top, .top, .top, .top, .top, .top, .top, .top, .top, .top, .top, .top, .top, .top, .top], []⟩
theorem f12_eq (k : Nat) (a a_1 a_2 a_3 : Int) (a_4 : ByteArray) (a_5 a_6 : Int) (a_7 a_8 : Bool) (a_9 a_10 : Int) (a_11 a_12 : Bool) (an : Nat) (af : Nat → PV) (b b_1 b_2 b_3 : Int) (b_4 : ByteArray) (b_5 b_6 : Int) (b_7 b_8 : Bool) (b_9 b_10 : Int) (b_11 b_12 : Bool) (bn : Nat) (bf : Nat → PV) : D 12 [.agg [.sc (.int .i64 a), .sc (.int .i64 a_1), .sc (.int .i64 a_2), .sc (.int .i64 a_3), .sc (.string a_4), .sc (.int .i64 a_5), .sc (.int .i64 a_6), .sc (.bool a_7), .sc (.bool a_8), .sc (.int .i64 a_9), .sc (.int .i64 a_10), .sc (.bool a_11), .sc (.bool a_12), .lst 14 an af], .agg [.sc (.int .i64 b), .sc (.int .i64 b_1), .sc (.int .i64 b_2), .sc (.int .i64 b_3), .sc (.string b_4), .sc (.int .i64 b_5), .sc (.int .i64 b_6), .sc (.bool b_7), .sc (.bool b_8), .sc (.int .i64 b_9), .sc (.int .i64 b_10), .sc (.bool b_11), .sc (.bool b_12), .lst 14 bn bf]] =
  (D 10 [.agg [.sc (.int .i64 a), .sc (.int .i64 a_1), .sc (.int .i64 a_2), .sc (.int .i64 a_3), .sc (.string a_4), .sc (.int .i64 a_5), .sc (.int .i64 a_6), .sc (.bool a_7), .sc (.bool a_8), .sc (.int .i64 a_9), .sc (.int .i64 a_10), .sc (.bool a_11), .sc (.bool a_12), .lst 14 an af]]).bind fun r1 => if hasSh (.lst 14) r1 = true then
  (D 10 [.agg [.sc (.int .i64 b), .sc (.int .i64 b_1), .sc (.int .i64 b_2), .sc (.int .i64 b_3), .sc (.string b_4), .sc (.int .i64 b_5), .sc (.int .i64 b_6), .sc (.bool b_7), .sc (.bool b_8), .sc (.int .i64 b_9), .sc (.int .i64 b_10), .sc (.bool b_11), .sc (.bool b_12), .lst 14 bn bf]]).bind fun r2 => if hasSh (.lst 14) r2 = true then
  if ((r1.len : Int) != (r2.len : Int)) = true then
    some (.sc (.bool false))
  else
    f12.l0a k r1.len r1.at r2.len r2.at 0
  else none
  else none :=
  (denI_eq k _ _).trans (by kernel_rfl)
theorem f12.l0a_eq (k : Nat) (xn : Nat) (xf : Nat → PV) (yn : Nat) (yf : Nat → PV) (i : Int) : f12.l0a k xn xf yn yf i =
  if decide (i < (xn : Int)) = true then
    if 0 ≤ i then
      if i < (xn : Int) then
        if hasSh (.agg [(.int .i64), (.int .i64), (.int .i64), (.int .i64), .str, (.int .i64), (.int .i64), .bool, .bool, (.int .i64), (.int .i64), .bool, .bool, (.lst 14)]) (xf i.toNat) = true then
          if 0 ≤ i then
            if i < (yn : Int) then
              if hasSh (.agg [(.int .i64), (.int .i64), (.int .i64), (.int .i64), .str, (.int .i64), (.int .i64), .bool, .bool, (.int .i64), (.int .i64), .bool, .bool, (.lst 14)]) (yf i.toNat) = true then
                Option.bind (α := PV) (
                  if (((cel 0 (xf i.toNat).cells).toInt) != ((cel 0 (yf i.toNat).cells).toInt)) = true then
                    some (.sc (.bool true))
                  else
                    Option.bind (α := PV) (
                      Option.bind (α := PV) (
                        if 0 ≤ i then
                          if i < (xn : Int) then
                            if hasSh (.agg [(.int .i64), (.int .i64), (.int .i64), (.int .i64), .str, (.int .i64), (.int .i64), .bool, .bool, (.int .i64), (.int .i64), .bool, .bool, (.lst 14)]) (xf i.toNat) = true then
                              Option.bind (α := PV) (
                                Option.bind (α := PV) (
                                  Option.bind (α := PV) (
                                    Option.bind (α := PV) (
                                      Option.bind (α := PV) (
                                        if 0 ≤ i then
                                          if i < (yn : Int) then
                                            if hasSh (.agg [(.int .i64), (.int .i64), (.int .i64), (.int .i64), .str, (.int .i64), (.int .i64), .bool, .bool, (.int .i64), (.int .i64), .bool, .bool, (.lst 14)]) (yf i.toNat) = true then
                                              some (.sc (.bool (((cel 1 (xf i.toNat).cells).toInt) != ((cel 1 (yf i.toNat).cells).toInt))))
                                            else none
                                          else none
                                        else none) fun r3 =>
                                      some (.sc (.bool r3.toBool))) fun r4 =>
                                    some (.sc (.bool r4.toBool))) fun r5 =>
                                  some (.sc (.bool r5.toBool))) fun r6 =>
                                some (.sc (.bool r6.toBool))) fun r7 =>
                              some (.sc (.bool r7.toBool))
                            else none
                          else none
                        else none) fun r8 =>
                      some (.sc (.bool r8.toBool))) fun r9 =>
                    some (.sc (.bool r9.toBool))) fun r10 =>
                Option.bind (α := PV) (
                  if r10.toBool = true then
                    some (.sc (.bool true))
                  else
                    Option.bind (α := PV) (
                      Option.bind (α := PV) (
                        if 0 ≤ i then
                          if i < (xn : Int) then
                            if hasSh (.agg [(.int .i64), (.int .i64), (.int .i64), (.int .i64), .str, (.int .i64), (.int .i64), .bool, .bool, (.int .i64), (.int .i64), .bool, .bool, (.lst 14)]) (xf i.toNat) = true then
                              Option.bind (α := PV) (
                                Option.bind (α := PV) (
                                  Option.bind (α := PV) (
                                    Option.bind (α := PV) (
                                      Option.bind (α := PV) (
                                        if 0 ≤ i then
                                          if i < (yn : Int) then
                                            if hasSh (.agg [(.int .i64), (.int .i64), (.int .i64), (.int .i64), .str, (.int .i64), (.int .i64), .bool, .bool, (.int .i64), (.int .i64), .bool, .bool, (.lst 14)]) (yf i.toNat) = true then
                                              some (.sc (.bool (!((((cel 2 (xf i.toNat).cells).toInt) == ((cel 2 (yf i.toNat).cells).toInt)) && ((((cel 3 (xf i.toNat).cells).toInt) == ((cel 3 (yf i.toNat).cells).toInt)) && ((((cel 4 (xf i.toNat).cells).toStr).toList == ((cel 4 (yf i.toNat).cells).toStr).toList) && true))))))
                                            else none
                                          else none
                                        else none) fun r11 =>
                                      some (.sc (.bool r11.toBool))) fun r12 =>
                                    some (.sc (.bool r12.toBool))) fun r13 =>
                                  some (.sc (.bool r13.toBool))) fun r14 =>
                                some (.sc (.bool r14.toBool))) fun r15 =>
                              some (.sc (.bool r15.toBool))
                            else none
                          else none
                        else none) fun r16 =>
                      some (.sc (.bool r16.toBool))) fun r17 =>
                    some (.sc (.bool r17.toBool))) fun r18 =>
                Option.bind (α := PV) (
                  if r18.toBool = true then
                    some (.sc (.bool true))
                  else
                    Option.bind (α := PV) (
                      Option.bind (α := PV) (
                        if 0 ≤ i then
                          if i < (xn : Int) then
                            if hasSh (.agg [(.int .i64), (.int .i64), (.int .i64), (.int .i64), .str, (.int .i64), (.int .i64), .bool, .bool, (.int .i64), (.int .i64), .bool, .bool, (.lst 14)]) (xf i.toNat) = true then
                              Option.bind (α := PV) (
                                Option.bind (α := PV) (
                                  Option.bind (α := PV) (
                                    Option.bind (α := PV) (
                                      Option.bind (α := PV) (
                                        if 0 ≤ i then
                                          if i < (yn : Int) then
                                            if hasSh (.agg [(.int .i64), (.int .i64), (.int .i64), (.int .i64), .str, (.int .i64), (.int .i64), .bool, .bool, (.int .i64), (.int .i64), .bool, .bool, (.lst 14)]) (yf i.toNat) = true then
                                              some (.sc (.bool (!((((cel 5 (xf i.toNat).cells).toInt) == ((cel 5 (yf i.toNat).cells).toInt)) && ((((cel 6 (xf i.toNat).cells).toInt) == ((cel 6 (yf i.toNat).cells).toInt)) && ((((cel 7 (xf i.toNat).cells).toBool) == ((cel 7 (yf i.toNat).cells).toBool)) && ((((cel 8 (xf i.toNat).cells).toBool) == ((cel 8 (yf i.toNat).cells).toBool)) && true)))))))
                                            else none
                                          else none
                                        else none) fun r19 =>
                                      some (.sc (.bool r19.toBool))) fun r20 =>
                                    some (.sc (.bool r20.toBool))) fun r21 =>
                                  some (.sc (.bool r21.toBool))) fun r22 =>
                                some (.sc (.bool r22.toBool))) fun r23 =>
                              some (.sc (.bool r23.toBool))
                            else none
                          else none
                        else none) fun r24 =>
                      some (.sc (.bool r24.toBool))) fun r25 =>
                    some (.sc (.bool r25.toBool))) fun r26 =>
                Option.bind (α := PV) (
                  if r26.toBool = true then
                    some (.sc (.bool true))
                  else
                    Option.bind (α := PV) (
                      Option.bind (α := PV) (
                        if 0 ≤ i then
                          if i < (xn : Int) then
                            if hasSh (.agg [(.int .i64), (.int .i64), (.int .i64), (.int .i64), .str, (.int .i64), (.int .i64), .bool, .bool, (.int .i64), (.int .i64), .bool, .bool, (.lst 14)]) (xf i.toNat) = true then
                              Option.bind (α := PV) (
                                Option.bind (α := PV) (
                                  Option.bind (α := PV) (
                                    Option.bind (α := PV) (
                                      Option.bind (α := PV) (
                                        if 0 ≤ i then
                                          if i < (yn : Int) then
                                            if hasSh (.agg [(.int .i64), (.int .i64), (.int .i64), (.int .i64), .str, (.int .i64), (.int .i64), .bool, .bool, (.int .i64), (.int .i64), .bool, .bool, (.lst 14)]) (yf i.toNat) = true then
                                              some (.sc (.bool (!((((cel 9 (xf i.toNat).cells).toInt) == ((cel 9 (yf i.toNat).cells).toInt)) && ((((cel 10 (xf i.toNat).cells).toInt) == ((cel 10 (yf i.toNat).cells).toInt)) && ((((cel 11 (xf i.toNat).cells).toBool) == ((cel 11 (yf i.toNat).cells).toBool)) && ((((cel 12 (xf i.toNat).cells).toBool) == ((cel 12 (yf i.toNat).cells).toBool)) && true)))))))
                                            else none
                                          else none
                                        else none) fun r27 =>
                                      some (.sc (.bool r27.toBool))) fun r28 =>
                                    some (.sc (.bool r28.toBool))) fun r29 =>
                                  some (.sc (.bool r29.toBool))) fun r30 =>
                                some (.sc (.bool r30.toBool))) fun r31 =>
                              some (.sc (.bool r31.toBool))
                            else none
                          else none
                        else none) fun r32 =>
                      some (.sc (.bool r32.toBool))) fun r33 =>
                    some (.sc (.bool r33.toBool))) fun r34 =>
                Option.bind (α := PV) (
                  if r34.toBool = true then
                    some (.sc (.bool true))
                  else
                    Option.bind (α := PV) (
                      Option.bind (α := PV) (
                        if 0 ≤ i then
                          if i < (xn : Int) then
                            if hasSh (.agg [(.int .i64), (.int .i64), (.int .i64), (.int .i64), .str, (.int .i64), (.int .i64), .bool, .bool, (.int .i64), (.int .i64), .bool, .bool, (.lst 14)]) (xf i.toNat) = true then
                              Option.bind (α := PV) (
                                Option.bind (α := PV) (
                                  Option.bind (α := PV) (
                                    Option.bind (α := PV) (
                                      Option.bind (α := PV) (
                                        Option.bind (α := PV) (
                                          if 0 ≤ i then
                                            if i < (yn : Int) then
                                              if hasSh (.agg [(.int .i64), (.int .i64), (.int .i64), (.int .i64), .str, (.int .i64), (.int .i64), .bool, .bool, (.int .i64), (.int .i64), .bool, .bool, (.lst 14)]) (yf i.toNat) = true then
                                                some (.sc (.bool (((cel 13 (xf i.toNat).cells).len : Int) != ((cel 13 (yf i.toNat).cells).len : Int))))
                                              else none
                                            else none
                                          else none) fun r35 =>
                                        some (.sc (.bool r35.toBool))) fun r36 =>
                                      some (.sc (.bool r36.toBool))) fun r37 =>
                                    some (.sc (.bool r37.toBool))) fun r38 =>
                                  some (.sc (.bool r38.toBool))) fun r39 =>
                                some (.sc (.bool r39.toBool))) fun r40 =>
                              some (.sc (.bool r40.toBool))
                            else none
                          else none
                        else none) fun r41 =>
                      some (.sc (.bool r41.toBool))) fun r42 =>
                    some (.sc (.bool r42.toBool))) fun r43 =>
                if r43.toBool = true then
                  some (.sc (.bool false))
                else
                  f12.l0a k xn xf yn yf (IntKind.i64.wrap (i + 1))
              else none
            else none
          else none
        else none
      else none
    else none
  else
    some (.sc (.bool true)) :=
  (loopAt_eq _ _ _ _).trans (by kernel_rfl)
end EA
end Go.Den
