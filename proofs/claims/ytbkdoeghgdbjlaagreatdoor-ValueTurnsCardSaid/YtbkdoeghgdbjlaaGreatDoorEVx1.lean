import Derived.Test.YtbkdoeghgdbjlaaGreatDoorEVh
import Derived.KernelRfl
set_option maxRecDepth 100000
set_option linter.unusedVariables false
namespace Go.Den
open Go Go.Proofs
namespace EV
-- math/bits.Div64
noncomputable def f169.j0a (k : Nat) (hi lo y : Int) : Option PV := gateK k (placeAt Tryz.prog cf ext hint k 169 [1, 1]) ⟨[.sc (.int .u64 hi), .sc (.int .u64 lo), .sc (.int .u64 y), .top, .top, .top, .top, .top, .top, .top, .top, .top, .top, .top, .top, .top, .top, .top, .top, .top, .top, .top, .top, .top, .top, .top, .top, .top, .top, .top, .top, .top, .top, .top, .top, .top, .top, .top, .top, .top, .top, .top, .top, .top, .top, .top, .top, .top, .top, .top, .top, .top, .top, .top, .top, .top, .top, .top, .top, .top, .top, .top, .top, .top, .top, .top, .top, .top, .top, .top, .top, .top, .top, .top, .top, .top, .top, .top, .top, .top, .top, .top, .top, .top, .top, .top, .top, .top, .top, .top, .top, .top, .top, .top, .top, .top, .top, .top, .top, .top, .top, .top, .top, .top, .top, .top, .top, .top, .top, .top, .top, .top, .top, .top, .top, .top, .top, .top, .top, .top, .top, .top, .top, .top, .top, .top, .top, .top, .top, .top, .top, .top, .top, .top, .top], [], none⟩
noncomputable def f169.j1a (k : Nat) (hi lo y : Int) : Option PV := gateK k (placeAt Tryz.prog cf ext hint k 169 [1, 1, 1]) ⟨[.sc (.int .u64 hi), .sc (.int .u64 lo), .sc (.int .u64 y), .top, .top, .top, .top, .top, .top, .top, .top, .top, .top, .top, .top, .top, .top, .top, .top, .top, .top, .top, .top, .top, .top, .top, .top, .top, .top, .top, .top, .top, .top, .top, .top, .top, .top, .top, .top, .top, .top, .top, .top, .top, .top, .top, .top, .top, .top, .top, .top, .top, .top, .top, .top, .top, .top, .top, .top, .top, .top, .top, .top, .top, .top, .top, .top, .top, .top, .top, .top, .top, .top, .top, .top, .top, .top, .top, .top, .top, .top, .top, .top, .top, .top, .top, .top, .top, .top, .top, .top, .top, .top, .top, .top, .top, .top, .top, .top, .top, .top, .top, .top, .top, .top, .top, .top, .top, .top, .top, .top, .top, .top, .top, .top, .top, .top, .top, .top, .top, .top, .top, .top, .top, .top, .top, .top, .top, .top, .top, .top, .top, .top, .top, .top], [], none⟩
noncomputable def f169.l2a (k : Nat) (y s_ yn1 yn0 un32 un1 un0 q1 rhat : Int) : Option PV := loopAt Tryz.prog cf ext hint k 169 [1, 1, 1, 1, 1, 1, 1, 1, 1, 1, 1, 1, 1, 1, 0, 0] ⟨[.top, .top, .sc (.int .u64 y), .top, .top, .top, .top, .top, .sc (.int .u64 s_), .sc (.int .u64 yn1), .sc (.int .u64 yn0), .sc (.int .u64 un32), .top, .sc (.int .u64 un1), .sc (.int .u64 un0), .sc (.int .u64 q1), .sc (.int .u64 rhat), .top, .top, .top, .top, .top, .top, .top, .top, .top, .top, .top, .top, .top, .top, .top, .top, .top, .top, .top, .top, .top, .top, .top, .top, .top, .top, .top, .top, .top, .top, .top, .top, .top, .top, .top, .top, .top, .top, .top, .top, .top, .top, .top, .top, .top, .top, .top, .top, .top, .top, .top, .top, .top, .top, .top, .top, .top, .top, .top, .top, .top, .top, .top, .top, .top, .top, .top, .top, .top, .top, .top, .top, .top, .top, .top, .top, .top, .top, .top, .top, .top, .top, .top, .top, .top, .top, .top, .top, .top, .top, .top, .top, .top, .top, .top, .top, .top, .top, .top, .top, .top, .top, .top, .top, .top, .top, .top, .top, .top, .top, .top, .top, .top, .top, .top, .top, .top, .top], [], none⟩
noncomputable def f169.j3a (k : Nat) (y s_ yn1 yn0 un32 un1 un0 q1 : Int) : Option PV := gateK k (placeAt Tryz.prog cf ext hint k 169 [1, 1, 1, 1, 1, 1, 1, 1, 1, 1, 1, 1, 1, 1, 1]) ⟨[.top, .top, .sc (.int .u64 y), .top, .top, .top, .top, .top, .sc (.int .u64 s_), .sc (.int .u64 yn1), .sc (.int .u64 yn0), .sc (.int .u64 un32), .top, .sc (.int .u64 un1), .sc (.int .u64 un0), .sc (.int .u64 q1), .top, .top, .top, .top, .top, .top, .top, .top, .top, .top, .top, .top, .top, .top, .top, .top, .top, .top, .top, .top, .top, .top, .top, .top, .top, .top, .top, .top, .top, .top, .top, .top, .top, .top, .top, .top, .top, .top, .top, .top, .top, .top, .top, .top, .top, .top, .top, .top, .top, .top, .top, .top, .top, .top, .top, .top, .top, .top, .top, .top, .top, .top, .top, .top, .top, .top, .top, .top, .top, .top, .top, .top, .top, .top, .top, .top, .top, .top, .top, .top, .top, .top, .top, .top, .top, .top, .top, .top, .top, .top, .top, .top, .top, .top, .top, .top, .top, .top, .top, .top, .top, .top, .top, .top, .top, .top, .top, .top, .top, .top, .top, .top, .top, .top, .top, .top, .top, .top, .top], [], none⟩
noncomputable def f169.l4a (k : Nat) (y s_ yn1 yn0 un0 q1 rhat un21 q0 : Int) : Option PV := loopAt Tryz.prog cf ext hint k 169 [1, 1, 1, 1, 1, 1, 1, 1, 1, 1, 1, 1, 1, 1, 1, 1, 1, 1, 0, 0] ⟨[.top, .top, .sc (.int .u64 y), .top, .top, .top, .top, .top, .sc (.int .u64 s_), .sc (.int .u64 yn1), .sc (.int .u64 yn0), .top, .top, .top, .sc (.int .u64 un0), .sc (.int .u64 q1), .sc (.int .u64 rhat), .sc (.int .u64 un21), .sc (.int .u64 q0), .top, .top, .top, .top, .top, .top, .top, .top, .top, .top, .top, .top, .top, .top, .top, .top, .top, .top, .top, .top, .top, .top, .top, .top, .top, .top, .top, .top, .top, .top, .top, .top, .top, .top, .top, .top, .top, .top, .top, .top, .top, .top, .top, .top, .top, .top, .top, .top, .top, .top, .top, .top, .top, .top, .top, .top, .top, .top, .top, .top, .top, .top, .top, .top, .top, .top, .top, .top, .top, .top, .top, .top, .top, .top, .top, .top, .top, .top, .top, .top, .top, .top, .top, .top, .top, .top, .top, .top, .top, .top, .top, .top, .top, .top, .top, .top, .top, .top, .top, .top, .top, .top, .top, .top, .top, .top, .top, .top, .top, .top, .top, .top, .top, .top, .top, .top], [], none⟩
noncomputable def f169.j5a (k : Nat) (y s_ un0 q1 un21 q0 : Int) : Option PV := gateK k (placeAt Tryz.prog cf ext hint k 169 [1, 1, 1, 1, 1, 1, 1, 1, 1, 1, 1, 1, 1, 1, 1, 1, 1, 1, 1]) ⟨[.top, .top, .sc (.int .u64 y), .top, .top, .top, .top, .top, .sc (.int .u64 s_), .top, .top, .top, .top, .top, .sc (.int .u64 un0), .sc (.int .u64 q1), .top, .sc (.int .u64 un21), .sc (.int .u64 q0), .top, .top, .top, .top, .top, .top, .top, .top, .top, .top, .top, .top, .top, .top, .top, .top, .top, .top, .top, .top, .top, .top, .top, .top, .top, .top, .top, .top, .top, .top, .top, .top, .top, .top, .top, .top, .top, .top, .top, .top, .top, .top, .top, .top, .top, .top, .top, .top, .top, .top, .top, .top, .top, .top, .top, .top, .top, .top, .top, .top, .top, .top, .top, .top, .top, .top, .top, .top, .top, .top, .top, .top, .top, .top, .top, .top, .top, .top, .top, .top, .top, .top, .top, .top, .top, .top, .top, .top, .top, .top, .top, .top, .top, .top, .top, .top, .top, .top, .top, .top, .top, .top, .top, .top, .top, .top, .top, .top, .top, .top, .top, .top, .top, .top, .top, .top], [], none⟩
theorem f169_eq (k : Nat) (hi lo y : Int) : D 169 [.sc (.int .u64 hi), .sc (.int .u64 lo), .sc (.int .u64 y)] =
  if (y == 0) = true then
    none
  else
    f169.j0a k hi lo y :=
  (denI_eq k _ _).trans (by kernel_rfl)
theorem f169.j0a_eq (k : Nat) (hi lo y : Int) : f169.j0a k hi lo y =
  if decide (y ≤ hi) = true then
    none
  else
    f169.j1a k hi lo y :=
  (gateK_open _ _ _).trans (by kernel_rfl)
theorem f169.j1a_eq (k : Nat) (hi lo y : Int) : f169.j1a k hi lo y =
  if (hi == 0) = true then
    if IntKind.u64 = IntKind.u64 ∧ y ≠ 0 then
      if IntKind.u64 = IntKind.u64 ∧ y ≠ 0 then
        some (.tup [.sc (.int .u64 (IntKind.u64.wrap (lo.tdiv y))), .sc (.int .u64 (lo.tmod y))])
      else none
    else none
  else
    (D 191 [.sc (.int .u64 y)]).bind fun r1 => if hasSh (.int .i64) r1 = true then
    if 0 ≤ IntKind.u64.wrap (r1.toInt) then
      if 0 ≤ IntKind.u64.wrap (r1.toInt) then
        if 0 ≤ IntKind.u64.wrap ((64 : Int) - (IntKind.u64.wrap (r1.toInt))) then
          if 0 ≤ IntKind.u64.wrap (r1.toInt) then
            if IntKind.u64 = IntKind.u64 ∧ (IntKind.u64.wrap (y * 2 ^ (min (IntKind.u64.wrap (r1.toInt)).toNat 64))).fdiv 4294967296 ≠ 0 then
              f169.l2a k (IntKind.u64.wrap (y * 2 ^ (min (IntKind.u64.wrap (r1.toInt)).toNat 64))) (IntKind.u64.wrap (r1.toInt)) ((IntKind.u64.wrap (y * 2 ^ (min (IntKind.u64.wrap (r1.toInt)).toNat 64))).fdiv 4294967296) (bits .and .u64 (IntKind.u64.wrap (y * 2 ^ (min (IntKind.u64.wrap (r1.toInt)).toNat 64))) 4294967295) (bits .or .u64 (IntKind.u64.wrap (hi * 2 ^ (min (IntKind.u64.wrap (r1.toInt)).toNat 64))) (lo.fdiv (2 ^ (min (IntKind.u64.wrap ((64 : Int) - (IntKind.u64.wrap (r1.toInt)))).toNat 64)))) ((IntKind.u64.wrap (lo * 2 ^ (min (IntKind.u64.wrap (r1.toInt)).toNat 64))).fdiv 4294967296) (bits .and .u64 (IntKind.u64.wrap (lo * 2 ^ (min (IntKind.u64.wrap (r1.toInt)).toNat 64))) 4294967295) (IntKind.u64.wrap ((bits .or .u64 (IntKind.u64.wrap (hi * 2 ^ (min (IntKind.u64.wrap (r1.toInt)).toNat 64))) (lo.fdiv (2 ^ (min (IntKind.u64.wrap ((64 : Int) - (IntKind.u64.wrap (r1.toInt)))).toNat 64)))).tdiv ((IntKind.u64.wrap (y * 2 ^ (min (IntKind.u64.wrap (r1.toInt)).toNat 64))).fdiv 4294967296))) (IntKind.u64.wrap ((bits .or .u64 (IntKind.u64.wrap (hi * 2 ^ (min (IntKind.u64.wrap (r1.toInt)).toNat 64))) (lo.fdiv (2 ^ (min (IntKind.u64.wrap ((64 : Int) - (IntKind.u64.wrap (r1.toInt)))).toNat 64)))) - (IntKind.u64.wrap ((IntKind.u64.wrap ((bits .or .u64 (IntKind.u64.wrap (hi * 2 ^ (min (IntKind.u64.wrap (r1.toInt)).toNat 64))) (lo.fdiv (2 ^ (min (IntKind.u64.wrap ((64 : Int) - (IntKind.u64.wrap (r1.toInt)))).toNat 64)))).tdiv ((IntKind.u64.wrap (y * 2 ^ (min (IntKind.u64.wrap (r1.toInt)).toNat 64))).fdiv 4294967296))) * ((IntKind.u64.wrap (y * 2 ^ (min (IntKind.u64.wrap (r1.toInt)).toNat 64))).fdiv 4294967296)))))
            else none
          else none
        else none
      else none
    else none
    else none :=
  (gateK_open _ _ _).trans (by kernel_rfl)
theorem f169.l2a_eq (k : Nat) (y s_ yn1 yn0 un32 un1 un0 q1 rhat : Int) : f169.l2a k y s_ yn1 yn0 un32 un1 un0 q1 rhat =
  Option.bind (α := PV) (
    if decide (q1 ≥ 4294967296) = true then
      some (.sc (.bool true))
    else
      some (.sc (.bool (decide ((IntKind.u64.wrap (q1 * yn0)) > (IntKind.u64.wrap ((IntKind.u64.wrap ((4294967296 : Int) * rhat)) + un1))))))) fun r2 =>
  if r2.toBool = true then
    if decide ((IntKind.u64.wrap (rhat + yn1)) ≥ 4294967296) = true then
      f169.j3a k y s_ yn1 yn0 un32 un1 un0 (IntKind.u64.wrap (q1 - 1))
    else
      f169.l2a k y s_ yn1 yn0 un32 un1 un0 (IntKind.u64.wrap (q1 - 1)) (IntKind.u64.wrap (rhat + yn1))
  else
    f169.j3a k y s_ yn1 yn0 un32 un1 un0 q1 :=
  (loopAt_eq _ _ _ _).trans (by kernel_rfl)
theorem f169.j3a_eq (k : Nat) (y s_ yn1 yn0 un32 un1 un0 q1 : Int) : f169.j3a k y s_ yn1 yn0 un32 un1 un0 q1 =
  if IntKind.u64 = IntKind.u64 ∧ yn1 ≠ 0 then
    f169.l4a k y s_ yn1 yn0 un0 q1 (IntKind.u64.wrap ((IntKind.u64.wrap ((IntKind.u64.wrap ((IntKind.u64.wrap (un32 * 4294967296)) + un1)) - (IntKind.u64.wrap (q1 * y)))) - (IntKind.u64.wrap ((IntKind.u64.wrap ((IntKind.u64.wrap ((IntKind.u64.wrap ((IntKind.u64.wrap (un32 * 4294967296)) + un1)) - (IntKind.u64.wrap (q1 * y)))).tdiv yn1)) * yn1)))) (IntKind.u64.wrap ((IntKind.u64.wrap ((IntKind.u64.wrap (un32 * 4294967296)) + un1)) - (IntKind.u64.wrap (q1 * y)))) (IntKind.u64.wrap ((IntKind.u64.wrap ((IntKind.u64.wrap ((IntKind.u64.wrap (un32 * 4294967296)) + un1)) - (IntKind.u64.wrap (q1 * y)))).tdiv yn1))
  else none :=
  (gateK_open _ _ _).trans (by kernel_rfl)
theorem f169.l4a_eq (k : Nat) (y s_ yn1 yn0 un0 q1 rhat un21 q0 : Int) : f169.l4a k y s_ yn1 yn0 un0 q1 rhat un21 q0 =
  Option.bind (α := PV) (
    if decide (q0 ≥ 4294967296) = true then
      some (.sc (.bool true))
    else
      some (.sc (.bool (decide ((IntKind.u64.wrap (q0 * yn0)) > (IntKind.u64.wrap ((IntKind.u64.wrap ((4294967296 : Int) * rhat)) + un0))))))) fun r3 =>
  if r3.toBool = true then
    if decide ((IntKind.u64.wrap (rhat + yn1)) ≥ 4294967296) = true then
      f169.j5a k y s_ un0 q1 un21 (IntKind.u64.wrap (q0 - 1))
    else
      f169.l4a k y s_ yn1 yn0 un0 q1 (IntKind.u64.wrap (rhat + yn1)) un21 (IntKind.u64.wrap (q0 - 1))
  else
    f169.j5a k y s_ un0 q1 un21 q0 :=
  (loopAt_eq _ _ _ _).trans (by kernel_rfl)
theorem f169.j5a_eq (k : Nat) (y s_ un0 q1 un21 q0 : Int) : f169.j5a k y s_ un0 q1 un21 q0 =
  if 0 ≤ s_ then
    some (.tup [.sc (.int .u64 (IntKind.u64.wrap ((IntKind.u64.wrap (q1 * 4294967296)) + q0))), .sc (.int .u64 ((IntKind.u64.wrap ((IntKind.u64.wrap ((IntKind.u64.wrap (un21 * 4294967296)) + un0)) - (IntKind.u64.wrap (q0 * y)))).fdiv (2 ^ (min s_.toNat 64))))])
  else none :=
  (gateK_open _ _ _).trans (by kernel_rfl)
-- math/bits.LeadingZeros64
theorem f191_eq (k : Nat) (x_ : Int) : D 191 [.sc (.int .u64 x_)] =
  (D 193 [.sc (.int .u64 x_)]).bind fun r1 => if hasSh (.int .i64) r1 = true then
  some (.sc (.int .i64 (IntKind.i64.wrap ((64 : Int) - r1.toInt))))
  else none :=
  (denI_eq k _ _).trans (by kernel_rfl)
-- math/bits.Len64
noncomputable def f193.j0a (k : Nat) (x_ n_ : Int) : Option PV := gateK k (placeAt Tryz.prog cf ext hint k 193 [1, 1]) ⟨[.sc (.int .u64 x_), .top, .sc (.int .i64 n_), .top, .top, .top, .top, .top, .top, .top, .top, .top, .top, .top, .top, .top, .top, .top, .top, .top, .top, .top, .top, .top, .top], [], none⟩
noncomputable def f193.j1a (k : Nat) (x_ n_ : Int) : Option PV := gateK k (placeAt Tryz.prog cf ext hint k 193 [1, 1, 1]) ⟨[.sc (.int .u64 x_), .top, .sc (.int .i64 n_), .top, .top, .top, .top, .top, .top, .top, .top, .top, .top, .top, .top, .top, .top, .top, .top, .top, .top, .top, .top, .top, .top], [], none⟩
theorem f193_eq (k : Nat) (x_ : Int) : D 193 [.sc (.int .u64 x_)] =
  if decide (x_ ≥ 4294967296) = true then
    f193.j0a k (x_.fdiv 4294967296) 32
  else
    f193.j0a k x_ 0 :=
  (denI_eq k _ _).trans (by kernel_rfl)
theorem f193.j0a_eq (k : Nat) (x_ n_ : Int) : f193.j0a k x_ n_ =
  if decide (x_ ≥ 65536) = true then
    f193.j1a k (x_.fdiv 65536) (IntKind.i64.wrap (n_ + 16))
  else
    f193.j1a k x_ n_ :=
  (gateK_open _ _ _).trans (by kernel_rfl)
theorem f193.j1a_eq (k : Nat) (x_ n_ : Int) : f193.j1a k x_ n_ =
  if decide (x_ ≥ 256) = true then
    if 0 ≤ IntKind.u8.wrap (x_.fdiv 256) then
      if IntKind.u8.wrap (x_.fdiv 256) < (256 : Int) then
        some (.sc (.int .i64 (IntKind.i64.wrap ((IntKind.i64.wrap (n_ + 8)) + (IntKind.i64.wrap (bt (⟨#[0, 1, 2, 2, 3, 3, 3, 3, 4, 4, 4, 4, 4, 4, 4, 4, 5, 5, 5, 5, 5, 5, 5, 5, 5, 5, 5, 5, 5, 5, 5, 5, 6, 6, 6, 6, 6, 6, 6, 6, 6, 6, 6, 6, 6, 6, 6, 6, 6, 6, 6, 6, 6, 6, 6, 6, 6, 6, 6, 6, 6, 6, 6, 6, 7, 7, 7, 7, 7, 7, 7, 7, 7, 7, 7, 7, 7, 7, 7, 7, 7, 7, 7, 7, 7, 7, 7, 7, 7, 7, 7, 7, 7, 7, 7, 7, 7, 7, 7, 7, 7, 7, 7, 7, 7, 7, 7, 7, 7, 7, 7, 7, 7, 7, 7, 7, 7, 7, 7, 7, 7, 7, 7, 7, 7, 7, 7, 7, 8, 8, 8, 8, 8, 8, 8, 8, 8, 8, 8, 8, 8, 8, 8, 8, 8, 8, 8, 8, 8, 8, 8, 8, 8, 8, 8, 8, 8, 8, 8, 8, 8, 8, 8, 8, 8, 8, 8, 8, 8, 8, 8, 8, 8, 8, 8, 8, 8, 8, 8, 8, 8, 8, 8, 8, 8, 8, 8, 8, 8, 8, 8, 8, 8, 8, 8, 8, 8, 8, 8, 8, 8, 8, 8, 8, 8, 8, 8, 8, 8, 8, 8, 8, 8, 8, 8, 8, 8, 8, 8, 8, 8, 8, 8, 8, 8, 8, 8, 8, 8, 8, 8, 8, 8, 8, 8, 8, 8, 8, 8, 8, 8, 8, 8, 8, 8, 8, 8, 8, 8, 8, 8, 8, 8, 8, 8, 8]⟩ : ByteArray) (IntKind.u8.wrap (x_.fdiv 256))))))))
      else none
    else none
  else
    if 0 ≤ IntKind.u8.wrap (x_) then
      if IntKind.u8.wrap (x_) < (256 : Int) then
        some (.sc (.int .i64 (IntKind.i64.wrap (n_ + (IntKind.i64.wrap (bt (⟨#[0, 1, 2, 2, 3, 3, 3, 3, 4, 4, 4, 4, 4, 4, 4, 4, 5, 5, 5, 5, 5, 5, 5, 5, 5, 5, 5, 5, 5, 5, 5, 5, 6, 6, 6, 6, 6, 6, 6, 6, 6, 6, 6, 6, 6, 6, 6, 6, 6, 6, 6, 6, 6, 6, 6, 6, 6, 6, 6, 6, 6, 6, 6, 6, 7, 7, 7, 7, 7, 7, 7, 7, 7, 7, 7, 7, 7, 7, 7, 7, 7, 7, 7, 7, 7, 7, 7, 7, 7, 7, 7, 7, 7, 7, 7, 7, 7, 7, 7, 7, 7, 7, 7, 7, 7, 7, 7, 7, 7, 7, 7, 7, 7, 7, 7, 7, 7, 7, 7, 7, 7, 7, 7, 7, 7, 7, 7, 7, 8, 8, 8, 8, 8, 8, 8, 8, 8, 8, 8, 8, 8, 8, 8, 8, 8, 8, 8, 8, 8, 8, 8, 8, 8, 8, 8, 8, 8, 8, 8, 8, 8, 8, 8, 8, 8, 8, 8, 8, 8, 8, 8, 8, 8, 8, 8, 8, 8, 8, 8, 8, 8, 8, 8, 8, 8, 8, 8, 8, 8, 8, 8, 8, 8, 8, 8, 8, 8, 8, 8, 8, 8, 8, 8, 8, 8, 8, 8, 8, 8, 8, 8, 8, 8, 8, 8, 8, 8, 8, 8, 8, 8, 8, 8, 8, 8, 8, 8, 8, 8, 8, 8, 8, 8, 8, 8, 8, 8, 8, 8, 8, 8, 8, 8, 8, 8, 8, 8, 8, 8, 8, 8, 8, 8, 8, 8, 8]⟩ : ByteArray) (IntKind.u8.wrap (x_))))))))
      else none
    else none :=
  (gateK_open _ _ _).trans (by kernel_rfl)
-- oculus/dec.Add
theorem f138_eq (k : Nat) (a b : Int) : D 138 [.sc (.int .i64 a), .sc (.int .i64 b)] =
  (D 106 [.sc (.int .i64 a)]).bind fun r1 => if hasSh .bool r1 = true then
  Option.bind (α := PV) (
    if (!r1.toBool) = true then
      some (.sc (.bool true))
    else
      Option.bind (α := PV) (
        (D 106 [.sc (.int .i64 b)]).bind fun r2 => if hasSh .bool r2 = true then
        some (.sc (.bool (!r2.toBool)))
        else none) fun r3 =>
      some (.sc (.bool r3.toBool))) fun r4 =>
  Option.bind (α := PV) (
    if r4.toBool = true then
      some (.sc (.bool true))
    else
      Option.bind (α := PV) (
        (D 106 [.sc (.int .i64 (IntKind.i64.wrap (a + b)))]).bind fun r5 => if hasSh .bool r5 = true then
        some (.sc (.bool (!r5.toBool)))
        else none) fun r6 =>
      some (.sc (.bool r6.toBool))) fun r7 =>
  Option.bind (α := PV) (
    if r7.toBool = true then
      some (.sc (.bool true))
    else
      Option.bind (α := PV) (
        Option.bind (α := PV) (
          Option.bind (α := PV) (
            if decide (a > 0) = true then
              some (.sc (.bool (decide (b > 0))))
            else
              some (.sc (.bool false))) fun r8 =>
          Option.bind (α := PV) (
            Option.bind (α := PV) (
              if r8.toBool = true then
                some (.sc (.bool (decide ((IntKind.i64.wrap (a + b)) < 0))))
              else
                some (.sc (.bool false))) fun r9 =>
            some (.sc (.bool r9.toBool))) fun r10 =>
          some (.sc (.bool r10.toBool))) fun r11 =>
        some (.sc (.bool r11.toBool))) fun r12 =>
      some (.sc (.bool r12.toBool))) fun r13 =>
  Option.bind (α := PV) (
    if r13.toBool = true then
      some (.sc (.bool true))
    else
      Option.bind (α := PV) (
        Option.bind (α := PV) (
          Option.bind (α := PV) (
            if decide (a < 0) = true then
              some (.sc (.bool (decide (b < 0))))
            else
              some (.sc (.bool false))) fun r14 =>
          Option.bind (α := PV) (
            Option.bind (α := PV) (
              if r14.toBool = true then
                some (.sc (.bool (decide ((IntKind.i64.wrap (a + b)) ≥ 0))))
              else
                some (.sc (.bool false))) fun r15 =>
            some (.sc (.bool r15.toBool))) fun r16 =>
          some (.sc (.bool r16.toBool))) fun r17 =>
        some (.sc (.bool r17.toBool))) fun r18 =>
      some (.sc (.bool r18.toBool))) fun r19 =>
  if r19.toBool = true then
    some (.tup [.sc (.int .i64 0), .sc (.bool false)])
  else
    some (.tup [.sc (.int .i64 (IntKind.i64.wrap (a + b))), .sc (.bool true)])
  else none :=
  (denI_eq k _ _).trans (by kernel_rfl)
-- oculus/digits.put
theorem f105_eq (k : Nat) (x_ y : Int) (minus : Bool) : D 105 [.sc (.int .i64 x_), .sc (.int .i64 y), .sc (.bool minus)] =
  (D 139 [.sc (.int .i64 x_)]).bind fun r1 => if hasSh (.tup [(.int .i64), .bool]) r1 = true then
  (D 138 [.sc (.int .i64 ((cel 0 r1.parts).toInt)), .sc (.int .i64 y)]).bind fun r2 => if hasSh (.tup [(.int .i64), .bool]) r2 = true then
  Option.bind (α := PV) (
    if (!((cel 1 r1.parts).toBool)) = true then
      some (.sc (.bool true))
    else
      some (.sc (.bool (!((cel 1 r2.parts).toBool))))) fun r3 =>
  if r3.toBool = true then
    some (.tup [.sc (.int .i64 0), .sc (.bool false)])
  else
    if minus = true then
      (D 140 [.sc (.int .i64 ((cel 0 r2.parts).toInt))]).bind fun r4 => if hasSh (.tup [(.int .i64), .bool]) r4 = true then
      some (.tup [.sc (.int .i64 ((cel 0 r4.parts).toInt)), .sc (.bool ((cel 1 r4.parts).toBool))])
      else none
    else
      some (.tup [.sc (.int .i64 ((cel 0 r2.parts).toInt)), .sc (.bool true)])
  else none
  else none :=
  (denI_eq k _ _).trans (by kernel_rfl)
-- oculus/dec.Of
theorem f139_eq (k : Nat) (n_ : Int) : D 139 [.sc (.int .i64 n_)] =
  (D 137 [.sc (.int .i64 n_), .sc (.int .i64 10000), .sc (.int .i64 1)]).bind fun r1 => if hasSh (.tup [(.int .i64), .bool]) r1 = true then
  some (.tup [.sc (.int .i64 ((cel 0 r1.parts).toInt)), .sc (.bool ((cel 1 r1.parts).toBool))])
  else none :=
  (denI_eq k _ _).trans (by kernel_rfl)
-- oculus/dec.Neg
theorem f140_eq (k : Nat) (x_ : Int) : D 140 [.sc (.int .i64 x_)] =
  (D 106 [.sc (.int .i64 x_)]).bind fun r1 => if hasSh .bool r1 = true then
  if (!r1.toBool) = true then
    some (.tup [.sc (.int .i64 0), .sc (.bool false)])
  else
    some (.tup [.sc (.int .i64 (IntKind.i64.wrap (0 - x_))), .sc (.bool true)])
  else none :=
  (denI_eq k _ _).trans (by kernel_rfl)
-- oculus/value.AsText
theorem f12_eq (k : Nat) (v_ v__1 : Int) (v__2 : ByteArray) : D 12 [.agg [.sc (.int .i64 v_), .sc (.int .i64 v__1), .sc (.string v__2)]] =
  if (v_ == 0) = true then
    (D 57 [.sc (.string (⟨#[]⟩ : ByteArray))]).bind fun r1 => if hasSh (.agg [(.int .i64), (.int .i64), .str]) r1 = true then
    some (.agg [.sc (.int .i64 ((cel 0 r1.cells).toInt)), .sc (.int .i64 ((cel 1 r1.cells).toInt)), .sc (.string ((cel 2 r1.cells).toStr))])
    else none
  else
    if (v_ == 3) = true then
      (D 63 [.agg [.sc (.int .i64 v_), .sc (.int .i64 v__1), .sc (.string v__2)]]).bind fun r2 => if hasSh .str r2 = true then
      (D 57 [.sc (.string r2.toStr)]).bind fun r3 => if hasSh (.agg [(.int .i64), (.int .i64), .str]) r3 = true then
      some (.agg [.sc (.int .i64 ((cel 0 r3.cells).toInt)), .sc (.int .i64 ((cel 1 r3.cells).toInt)), .sc (.string ((cel 2 r3.cells).toStr))])
      else none
      else none
    else
      if (v_ == 1) = true then
        (D 64 [.sc (.int .i64 v__1)]).bind fun r4 => if hasSh .str r4 = true then
        (D 57 [.sc (.string r4.toStr)]).bind fun r5 => if hasSh (.agg [(.int .i64), (.int .i64), .str]) r5 = true then
        some (.agg [.sc (.int .i64 ((cel 0 r5.cells).toInt)), .sc (.int .i64 ((cel 1 r5.cells).toInt)), .sc (.string ((cel 2 r5.cells).toStr))])
        else none
        else none
      else
        some (.agg [.sc (.int .i64 v_), .sc (.int .i64 v__1), .sc (.string v__2)]) :=
  (denI_eq k _ _).trans (by kernel_rfl)
-- oculus/value.Str
theorem f57_eq (k : Nat) (t : ByteArray) : D 57 [.sc (.string t)] =
  (D 99 [.agg [.sc (.int .i64 2), .sc (.int .i64 0), .sc (.string t)], .sc (.int .i64 2)]).bind fun r1 => if hasSh (.agg [(.int .i64), (.int .i64), .str]) r1 = true then
  some (.agg [.sc (.int .i64 ((cel 0 r1.cells).toInt)), .sc (.int .i64 ((cel 1 r1.cells).toInt)), .sc (.string ((cel 2 r1.cells).toStr))])
  else none :=
  (denI_eq k _ _).trans (by kernel_rfl)
-- oculus/value.truth
theorem f63_eq (k : Nat) (v_ v__1 : Int) (v__2 : ByteArray) : D 63 [.agg [.sc (.int .i64 v_), .sc (.int .i64 v__1), .sc (.string v__2)]] =
  if (v__1 == 1) = true then
    some (.sc (.string (⟨#[84, 82, 85, 69]⟩ : ByteArray)))
  else
    some (.sc (.string (⟨#[70, 65, 76, 83, 69]⟩ : ByteArray))) :=
  (denI_eq k _ _).trans (by kernel_rfl)
-- oculus/digits.Text
noncomputable def f64.j0a (k : Nat) (x_ : Int) (out : ByteArray) : Option PV := gateK k (placeAt Tryz.prog cf ext hint k 64 [1, 1, 1, 1]) ⟨[.sc (.int .i64 x_), .top, .top, .sc (.string out), .top, .top, .top, .top, .top, .top, .top, .top, .top, .top, .top, .top, .top, .top, .top, .top, .top, .top, .top, .top, .top, .top, .top, .top, .top, .top, .top, .top, .top, .top, .top, .top, .top, .top], [], none⟩
theorem f64_eq (k : Nat) (x_ : Int) : D 64 [.sc (.int .i64 x_)] =
  (D 106 [.sc (.int .i64 x_)]).bind fun r1 => if hasSh .bool r1 = true then
  if (!r1.toBool) = true then
    some (.sc (.string (⟨#[]⟩ : ByteArray)))
  else
    (D 108 [.sc (.int .i64 x_)]).bind fun r2 => if hasSh (.int .i64) r2 = true then
    (D 107 [.sc (.int .i64 r2.toInt), .sc (.int .i64 10)]).bind fun r3 => if hasSh .str r3 = true then
    Option.bind (α := PV) (
      if decide (x_ < 0) = true then
        some (.sc (.bool (decide (x_ > (-10000)))))
      else
        some (.sc (.bool false))) fun r4 =>
    if r4.toBool = true then
      if 1 + r3.toStr.size ≤ 9223372036854775807 then
        f64.j0a k x_ ((⟨#[45]⟩ : ByteArray) ++ r3.toStr)
      else none
    else
      f64.j0a k x_ r3.toStr
    else none
    else none
  else none :=
  (denI_eq k _ _).trans (by kernel_rfl)
theorem f64.j0a_eq (k : Nat) (x_ : Int) (out : ByteArray) : f64.j0a k x_ out =
  if ((x_.tmod 10000) == 0) = true then
    some (.sc (.string out))
  else
    (D 107 [.sc (.int .i64 (IntKind.i64.wrap ((10000 : Int) + (if IntKind.i64.wrap (0 - (x_.tmod 10000)) > x_.tmod 10000 then IntKind.i64.wrap (0 - (x_.tmod 10000)) else x_.tmod 10000)))), .sc (.int .i64 10)]).bind fun r5 => if hasSh .str r5 = true then
    if 0 ≤ (r5.toStr.size : Int) then
      if (r5.toStr.size : Int) ≤ (r5.toStr.size : Int) then
        if 1 ≤ (r5.toStr.size : Int) then
          if out.size + 1 ≤ 9223372036854775807 then
            (D 109 [.sc (.string (r5.toStr.extract 1 (r5.toStr.size : Int).toNat)), .sc (.string (⟨#[48]⟩ : ByteArray))]).bind fun r6 => if hasSh .str r6 = true then
            if (out ++ (⟨#[46]⟩ : ByteArray)).size + r6.toStr.size ≤ 9223372036854775807 then
              some (.sc (.string ((out ++ (⟨#[46]⟩ : ByteArray)) ++ r6.toStr)))
            else none
            else none
          else none
        else none
      else none
    else none
    else none :=
  (gateK_open _ _ _).trans (by kernel_rfl)
-- oculus/dec.Units
theorem f108_eq (k : Nat) (x_ : Int) : D 108 [.sc (.int .i64 x_)] =
  (D 106 [.sc (.int .i64 x_)]).bind fun r1 => if hasSh .bool r1 = true then
  if (!r1.toBool) = true then
    some (.sc (.int .i64 0))
  else
    some (.sc (.int .i64 (IntKind.i64.wrap (x_.tdiv 10000))))
  else none :=
  (denI_eq k _ _).trans (by kernel_rfl)
-- oculus/value.AsTruth
theorem f13_eq (k : Nat) (v_ v__1 : Int) (v__2 : ByteArray) : D 13 [.agg [.sc (.int .i64 v_), .sc (.int .i64 v__1), .sc (.string v__2)]] =
  if (v_ == 0) = true then
    (D 60 [.sc (.bool false)]).bind fun r1 => if hasSh (.agg [(.int .i64), (.int .i64), .str]) r1 = true then
    some (.agg [.sc (.int .i64 ((cel 0 r1.cells).toInt)), .sc (.int .i64 ((cel 1 r1.cells).toInt)), .sc (.string ((cel 2 r1.cells).toStr))])
    else none
  else
    if (v_ == 1) = true then
      (D 60 [.sc (.bool (v__1 != 0))]).bind fun r2 => if hasSh (.agg [(.int .i64), (.int .i64), .str]) r2 = true then
      some (.agg [.sc (.int .i64 ((cel 0 r2.cells).toInt)), .sc (.int .i64 ((cel 1 r2.cells).toInt)), .sc (.string ((cel 2 r2.cells).toStr))])
      else none
    else
      if (v_ == 2) = true then
        Option.bind (α := PV) (
          if (v__2.toList == (⟨#[84, 82, 85, 69]⟩ : ByteArray).toList) = true then
            some (.sc (.bool true))
          else
            some (.sc (.bool (v__2.toList == (⟨#[70, 65, 76, 83, 69]⟩ : ByteArray).toList)))) fun r3 =>
        if r3.toBool = true then
          (D 60 [.sc (.bool (v__2.toList == (⟨#[84, 82, 85, 69]⟩ : ByteArray).toList))]).bind fun r4 => if hasSh (.agg [(.int .i64), (.int .i64), .str]) r4 = true then
          some (.agg [.sc (.int .i64 ((cel 0 r4.cells).toInt)), .sc (.int .i64 ((cel 1 r4.cells).toInt)), .sc (.string ((cel 2 r4.cells).toStr))])
          else none
        else
          (D 59 [.sc (.int .i64 2)]).bind fun r5 => if hasSh (.agg [(.int .i64), (.int .i64), .str]) r5 = true then
          some (.agg [.sc (.int .i64 ((cel 0 r5.cells).toInt)), .sc (.int .i64 ((cel 1 r5.cells).toInt)), .sc (.string ((cel 2 r5.cells).toStr))])
          else none
      else
        some (.agg [.sc (.int .i64 v_), .sc (.int .i64 v__1), .sc (.string v__2)]) :=
  (denI_eq k _ _).trans (by kernel_rfl)
-- oculus/value.Bool
theorem f60_eq (k : Nat) (is : Bool) : D 60 [.sc (.bool is)] =
  if is = true then
    some (.agg [.sc (.int .i64 3), .sc (.int .i64 1), .sc (.string (⟨#[]⟩ : ByteArray))])
  else
    some (.agg [.sc (.int .i64 3), .sc (.int .i64 0), .sc (.string (⟨#[]⟩ : ByteArray))]) :=
  (denI_eq k _ _).trans (by kernel_rfl)
-- oculus/value.Show
theorem f17_eq (k : Nat) (v_ v__1 : Int) (v__2 : ByteArray) : D 17 [.agg [.sc (.int .i64 v_), .sc (.int .i64 v__1), .sc (.string v__2)]] =
  if (v_ == 0) = true then
    some (.sc (.string (⟨#[]⟩ : ByteArray)))
  else
    if (v_ == 2) = true then
      (D 19 [.sc (.string v__2)]).bind fun r1 => if hasSh .str r1 = true then
      some (.sc (.string r1.toStr))
      else none
    else
      if (v_ == 4) = true then
        (D 71 [.sc (.int .i64 v__1)]).bind fun r2 => if hasSh .str r2 = true then
        some (.sc (.string r2.toStr))
        else none
      else
        (D 12 [.agg [.sc (.int .i64 v_), .sc (.int .i64 v__1), .sc (.string v__2)]]).bind fun r3 => if hasSh (.agg [(.int .i64), (.int .i64), .str]) r3 = true then
        some (.sc (.string ((cel 2 r3.cells).toStr)))
        else none :=
  (denI_eq k _ _).trans (by kernel_rfl)
-- oculus/value.Quote
theorem f19_eq (k : Nat) (t : ByteArray) : D 19 [.sc (.string t)] =
  (D 73 [.sc (.string t), .sc (.string (⟨#[34]⟩ : ByteArray)), .sc (.string (⟨#[34, 34]⟩ : ByteArray))]).bind fun r1 => if hasSh .str r1 = true then
  if 1 + r1.toStr.size ≤ 9223372036854775807 then
    if ((⟨#[34]⟩ : ByteArray) ++ r1.toStr).size + 1 ≤ 9223372036854775807 then
      some (.sc (.string (((⟨#[34]⟩ : ByteArray) ++ r1.toStr) ++ (⟨#[34]⟩ : ByteArray))))
    else none
  else none
  else none :=
  (denI_eq k _ _).trans (by kernel_rfl)
-- oculus/value.FaultText
theorem f71_eq (k : Nat) (code : Int) : D 71 [.sc (.int .i64 code)] =
  if (code == 1) = true then
    some (.sc (.string (⟨#[35, 68, 73, 86]⟩ : ByteArray)))
  else
    if (code == 2) = true then
      some (.sc (.string (⟨#[35, 86, 65, 76, 85, 69]⟩ : ByteArray)))
    else
      if (code == 3) = true then
        some (.sc (.string (⟨#[35, 82, 69, 70]⟩ : ByteArray)))
      else
        if (code == 4) = true then
          some (.sc (.string (⟨#[35, 78, 85, 77]⟩ : ByteArray)))
        else
          if (code == 5) = true then
            some (.sc (.string (⟨#[35, 78, 65]⟩ : ByteArray)))
          else
            if (code == 6) = true then
              some (.sc (.string (⟨#[35, 65, 85, 84, 72]⟩ : ByteArray)))
            else
              if (code == 7) = true then
                some (.sc (.string (⟨#[35, 67, 89, 67, 76, 69]⟩ : ByteArray)))
              else
                some (.sc (.string (⟨#[]⟩ : ByteArray))) :=
  (denI_eq k _ _).trans (by kernel_rfl)
-- oculus/value.Compare
theorem f61_eq (k : Nat) (a a_1 : Int) (a_2 : ByteArray) (b b_1 : Int) (b_2 : ByteArray) : D 61 [.agg [.sc (.int .i64 a), .sc (.int .i64 a_1), .sc (.string a_2)], .agg [.sc (.int .i64 b), .sc (.int .i64 b_1), .sc (.string b_2)]] =
  Option.bind (α := PV) (
    if (a == 4) = true then
      some (.sc (.bool true))
    else
      some (.sc (.bool (b == 4)))) fun r1 =>
  if r1.toBool = true then
    some (.sc (.int .i64 0))
  else
    (D 100 [.agg [.sc (.int .i64 a), .sc (.int .i64 a_1), .sc (.string a_2)], .agg [.sc (.int .i64 b), .sc (.int .i64 b_1), .sc (.string b_2)]]).bind fun r2 => if hasSh (.agg [(.int .i64), (.int .i64), .str]) r2 = true then
    (D 100 [.agg [.sc (.int .i64 b), .sc (.int .i64 b_1), .sc (.string b_2)], .agg [.sc (.int .i64 a), .sc (.int .i64 a_1), .sc (.string a_2)]]).bind fun r3 => if hasSh (.agg [(.int .i64), (.int .i64), .str]) r3 = true then
    if (((cel 0 r2.cells).toInt) != ((cel 0 r3.cells).toInt)) = true then
      (D 101 [.sc (.int .i64 (IntKind.i64.wrap (((cel 0 r2.cells).toInt) - ((cel 0 r3.cells).toInt))))]).bind fun r4 => if hasSh (.int .i64) r4 = true then
      some (.sc (.int .i64 r4.toInt))
      else none
    else
      if (((cel 0 r2.cells).toInt) == 2) = true then
        (D 102 [.sc (.string ((cel 2 r2.cells).toStr)), .sc (.string ((cel 2 r3.cells).toStr))]).bind fun r5 => if hasSh (.int .i64) r5 = true then
        some (.sc (.int .i64 r5.toInt))
        else none
      else
        if decide (((cel 1 r2.cells).toInt) < ((cel 1 r3.cells).toInt)) = true then
          some (.sc (.int .i64 (-1)))
        else
          if decide (((cel 1 r2.cells).toInt) > ((cel 1 r3.cells).toInt)) = true then
            some (.sc (.int .i64 1))
          else
            some (.sc (.int .i64 0))
    else none
    else none :=
  (denI_eq k _ _).trans (by kernel_rfl)
-- oculus/value.like
theorem f100_eq (k : Nat) (v_ v__1 : Int) (v__2 : ByteArray) (w w_1 : Int) (w_2 : ByteArray) : D 100 [.agg [.sc (.int .i64 v_), .sc (.int .i64 v__1), .sc (.string v__2)], .agg [.sc (.int .i64 w), .sc (.int .i64 w_1), .sc (.string w_2)]] =
  if (v_ == 0) = true then
    some (.agg [.sc (.int .i64 w), .sc (.int .i64 v__1), .sc (.string v__2)])
  else
    some (.agg [.sc (.int .i64 v_), .sc (.int .i64 v__1), .sc (.string v__2)]) :=
  (denI_eq k _ _).trans (by kernel_rfl)
-- oculus/oculusref12.AsNumber
theorem f14_eq (k : Nat) (v_ v__1 : Int) (v__2 : ByteArray) : D 14 [.agg [.sc (.int .i64 v_), .sc (.int .i64 v__1), .sc (.string v__2)]] =
  if (v_ == 0) = true then
    (D 65 [.sc (.int .i64 0)]).bind fun r1 => if hasSh (.agg [(.int .i64), (.int .i64), .str]) r1 = true then
    some (.agg [.sc (.int .i64 ((cel 0 r1.cells).toInt)), .sc (.int .i64 ((cel 1 r1.cells).toInt)), .sc (.string ((cel 2 r1.cells).toStr))])
    else none
  else
    if (v_ == 3) = true then
      (D 65 [.sc (.int .i64 (IntKind.i64.wrap (v__1 * 10000)))]).bind fun r2 => if hasSh (.agg [(.int .i64), (.int .i64), .str]) r2 = true then
      some (.agg [.sc (.int .i64 ((cel 0 r2.cells).toInt)), .sc (.int .i64 ((cel 1 r2.cells).toInt)), .sc (.string ((cel 2 r2.cells).toStr))])
      else none
    else
      if (v_ != 2) = true then
        some (.agg [.sc (.int .i64 v_), .sc (.int .i64 v__1), .sc (.string v__2)])
      else
        (D 66 [.sc (.string v__2)]).bind fun r3 => if hasSh (.agg [(.int .i64), .bool]) r3 = true then
        if (!((cel 1 r3.cells).toBool)) = true then
          (D 67 [.sc (.int .i64 2)]).bind fun r4 => if hasSh (.agg [(.int .i64), (.int .i64), .str]) r4 = true then
          some (.agg [.sc (.int .i64 ((cel 0 r4.cells).toInt)), .sc (.int .i64 ((cel 1 r4.cells).toInt)), .sc (.string ((cel 2 r4.cells).toStr))])
          else none
        else
          (D 65 [.sc (.int .i64 ((cel 0 r3.cells).toInt))]).bind fun r5 => if hasSh (.agg [(.int .i64), (.int .i64), .str]) r5 = true then
          some (.agg [.sc (.int .i64 ((cel 0 r5.cells).toInt)), .sc (.int .i64 ((cel 1 r5.cells).toInt)), .sc (.string ((cel 2 r5.cells).toStr))])
          else none
        else none :=
  (denI_eq k _ _).trans (by kernel_rfl)
-- oculus/oculusref12.Num
theorem f65_eq (k : Nat) (x_ : Int) : D 65 [.sc (.int .i64 x_)] =
  (D 56 [.sc (.int .i64 x_)]).bind fun r1 => if hasSh .bool r1 = true then
  if (!r1.toBool) = true then
    (D 67 [.sc (.int .i64 4)]).bind fun r2 => if hasSh (.agg [(.int .i64), (.int .i64), .str]) r2 = true then
    some (.agg [.sc (.int .i64 ((cel 0 r2.cells).toInt)), .sc (.int .i64 ((cel 1 r2.cells).toInt)), .sc (.string ((cel 2 r2.cells).toStr))])
    else none
  else
    some (.agg [.sc (.int .i64 1), .sc (.int .i64 x_), .sc (.string (⟨#[]⟩ : ByteArray))])
  else none :=
  (denI_eq k _ _).trans (by kernel_rfl)
-- oculus/oculusref12.Bad
theorem f67_eq (k : Nat) (code : Int) : D 67 [.sc (.int .i64 code)] =
  Option.bind (α := PV) (
    if decide (code < 1) = true then
      some (.sc (.bool true))
    else
      some (.sc (.bool (decide (code > 7))))) fun r1 =>
  if r1.toBool = true then
    some (.agg [.sc (.int .i64 4), .sc (.int .i64 2), .sc (.string (⟨#[]⟩ : ByteArray))])
  else
    some (.agg [.sc (.int .i64 4), .sc (.int .i64 code), .sc (.string (⟨#[]⟩ : ByteArray))]) :=
  (denI_eq k _ _).trans (by kernel_rfl)
end EV
end Go.Den
