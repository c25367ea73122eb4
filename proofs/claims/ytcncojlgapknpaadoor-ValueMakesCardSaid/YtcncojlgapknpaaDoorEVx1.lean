import Derived.Test.YtcncojlgapknpaaDoorEVh
import Derived.KernelRfl
set_option maxRecDepth 100000
set_option linter.unusedVariables false
namespace Go.Den
open Go Go.Proofs
namespace EV
-- math/bits.Div64
noncomputable def f160.j0a (k : Nat) (hi lo y : Int) : Option PV := gateK k (placeAt Tryd.prog 6 ext hint k 160 [1, 1]) ⟨[.sc (.int .u64 hi), .sc (.int .u64 lo), .sc (.int .u64 y), .top, .top, .top, .top, .top, .top, .top, .top, .top, .top, .top, .top, .top, .top, .top, .top, .top, .top, .top, .top, .top, .top, .top, .top, .top, .top, .top, .top, .top, .top, .top, .top, .top, .top, .top, .top, .top, .top, .top, .top, .top, .top, .top, .top, .top, .top, .top, .top, .top, .top, .top, .top, .top, .top, .top, .top, .top, .top, .top, .top, .top, .top, .top, .top, .top, .top, .top, .top, .top, .top, .top, .top, .top, .top, .top, .top, .top, .top, .top, .top, .top, .top, .top, .top, .top, .top, .top, .top, .top, .top, .top, .top, .top, .top, .top, .top, .top, .top, .top, .top, .top, .top, .top, .top, .top, .top, .top, .top, .top, .top, .top, .top, .top, .top, .top, .top, .top, .top, .top, .top, .top, .top, .top, .top, .top, .top, .top, .top, .top, .top, .top, .top], []⟩
noncomputable def f160.j1a (k : Nat) (hi lo y : Int) : Option PV := gateK k (placeAt Tryd.prog 6 ext hint k 160 [1, 1, 1]) ⟨[.sc (.int .u64 hi), .sc (.int .u64 lo), .sc (.int .u64 y), .top, .top, .top, .top, .top, .top, .top, .top, .top, .top, .top, .top, .top, .top, .top, .top, .top, .top, .top, .top, .top, .top, .top, .top, .top, .top, .top, .top, .top, .top, .top, .top, .top, .top, .top, .top, .top, .top, .top, .top, .top, .top, .top, .top, .top, .top, .top, .top, .top, .top, .top, .top, .top, .top, .top, .top, .top, .top, .top, .top, .top, .top, .top, .top, .top, .top, .top, .top, .top, .top, .top, .top, .top, .top, .top, .top, .top, .top, .top, .top, .top, .top, .top, .top, .top, .top, .top, .top, .top, .top, .top, .top, .top, .top, .top, .top, .top, .top, .top, .top, .top, .top, .top, .top, .top, .top, .top, .top, .top, .top, .top, .top, .top, .top, .top, .top, .top, .top, .top, .top, .top, .top, .top, .top, .top, .top, .top, .top, .top, .top, .top, .top], []⟩
noncomputable def f160.l2a (k : Nat) (y s_ yn1 yn0 un32 un1 un0 q1 rhat : Int) : Option PV := loopAt Tryd.prog 6 ext hint k 160 [1, 1, 1, 1, 1, 1, 1, 1, 1, 1, 1, 1, 1, 1, 0, 0] ⟨[.top, .top, .sc (.int .u64 y), .top, .top, .top, .top, .top, .sc (.int .u64 s_), .sc (.int .u64 yn1), .sc (.int .u64 yn0), .sc (.int .u64 un32), .top, .sc (.int .u64 un1), .sc (.int .u64 un0), .sc (.int .u64 q1), .sc (.int .u64 rhat), .top, .top, .top, .top, .top, .top, .top, .top, .top, .top, .top, .top, .top, .top, .top, .top, .top, .top, .top, .top, .top, .top, .top, .top, .top, .top, .top, .top, .top, .top, .top, .top, .top, .top, .top, .top, .top, .top, .top, .top, .top, .top, .top, .top, .top, .top, .top, .top, .top, .top, .top, .top, .top, .top, .top, .top, .top, .top, .top, .top, .top, .top, .top, .top, .top, .top, .top, .top, .top, .top, .top, .top, .top, .top, .top, .top, .top, .top, .top, .top, .top, .top, .top, .top, .top, .top, .top, .top, .top, .top, .top, .top, .top, .top, .top, .top, .top, .top, .top, .top, .top, .top, .top, .top, .top, .top, .top, .top, .top, .top, .top, .top, .top, .top, .top, .top, .top, .top], []⟩
noncomputable def f160.j3a (k : Nat) (y s_ yn1 yn0 un32 un1 un0 q1 : Int) : Option PV := gateK k (placeAt Tryd.prog 6 ext hint k 160 [1, 1, 1, 1, 1, 1, 1, 1, 1, 1, 1, 1, 1, 1, 1]) ⟨[.top, .top, .sc (.int .u64 y), .top, .top, .top, .top, .top, .sc (.int .u64 s_), .sc (.int .u64 yn1), .sc (.int .u64 yn0), .sc (.int .u64 un32), .top, .sc (.int .u64 un1), .sc (.int .u64 un0), .sc (.int .u64 q1), .top, .top, .top, .top, .top, .top, .top, .top, .top, .top, .top, .top, .top, .top, .top, .top, .top, .top, .top, .top, .top, .top, .top, .top, .top, .top, .top, .top, .top, .top, .top, .top, .top, .top, .top, .top, .top, .top, .top, .top, .top, .top, .top, .top, .top, .top, .top, .top, .top, .top, .top, .top, .top, .top, .top, .top, .top, .top, .top, .top, .top, .top, .top, .top, .top, .top, .top, .top, .top, .top, .top, .top, .top, .top, .top, .top, .top, .top, .top, .top, .top, .top, .top, .top, .top, .top, .top, .top, .top, .top, .top, .top, .top, .top, .top, .top, .top, .top, .top, .top, .top, .top, .top, .top, .top, .top, .top, .top, .top, .top, .top, .top, .top, .top, .top, .top, .top, .top, .top], []⟩
noncomputable def f160.l4a (k : Nat) (y s_ yn1 yn0 un0 q1 rhat un21 q0 : Int) : Option PV := loopAt Tryd.prog 6 ext hint k 160 [1, 1, 1, 1, 1, 1, 1, 1, 1, 1, 1, 1, 1, 1, 1, 1, 1, 1, 0, 0] ⟨[.top, .top, .sc (.int .u64 y), .top, .top, .top, .top, .top, .sc (.int .u64 s_), .sc (.int .u64 yn1), .sc (.int .u64 yn0), .top, .top, .top, .sc (.int .u64 un0), .sc (.int .u64 q1), .sc (.int .u64 rhat), .sc (.int .u64 un21), .sc (.int .u64 q0), .top, .top, .top, .top, .top, .top, .top, .top, .top, .top, .top, .top, .top, .top, .top, .top, .top, .top, .top, .top, .top, .top, .top, .top, .top, .top, .top, .top, .top, .top, .top, .top, .top, .top, .top, .top, .top, .top, .top, .top, .top, .top, .top, .top, .top, .top, .top, .top, .top, .top, .top, .top, .top, .top, .top, .top, .top, .top, .top, .top, .top, .top, .top, .top, .top, .top, .top, .top, .top, .top, .top, .top, .top, .top, .top, .top, .top, .top, .top, .top, .top, .top, .top, .top, .top, .top, .top, .top, .top, .top, .top, .top, .top, .top, .top, .top, .top, .top, .top, .top, .top, .top, .top, .top, .top, .top, .top, .top, .top, .top, .top, .top, .top, .top, .top, .top], []⟩
noncomputable def f160.j5a (k : Nat) (y s_ un0 q1 un21 q0 : Int) : Option PV := gateK k (placeAt Tryd.prog 6 ext hint k 160 [1, 1, 1, 1, 1, 1, 1, 1, 1, 1, 1, 1, 1, 1, 1, 1, 1, 1, 1]) ⟨[.top, .top, .sc (.int .u64 y), .top, .top, .top, .top, .top, .sc (.int .u64 s_), .top, .top, .top, .top, .top, .sc (.int .u64 un0), .sc (.int .u64 q1), .top, .sc (.int .u64 un21), .sc (.int .u64 q0), .top, .top, .top, .top, .top, .top, .top, .top, .top, .top, .top, .top, .top, .top, .top, .top, .top, .top, .top, .top, .top, .top, .top, .top, .top, .top, .top, .top, .top, .top, .top, .top, .top, .top, .top, .top, .top, .top, .top, .top, .top, .top, .top, .top, .top, .top, .top, .top, .top, .top, .top, .top, .top, .top, .top, .top, .top, .top, .top, .top, .top, .top, .top, .top, .top, .top, .top, .top, .top, .top, .top, .top, .top, .top, .top, .top, .top, .top, .top, .top, .top, .top, .top, .top, .top, .top, .top, .top, .top, .top, .top, .top, .top, .top, .top, .top, .top, .top, .top, .top, .top, .top, .top, .top, .top, .top, .top, .top, .top, .top, .top, .top, .top, .top, .top, .top], []⟩
theorem f160_eq (k : Nat) (hi lo y : Int) : D 160 [.sc (.int .u64 hi), .sc (.int .u64 lo), .sc (.int .u64 y)] =
  if (y == 0) = true then
    none
  else
    f160.j0a k hi lo y :=
  (denI_eq k _ _).trans (by kernel_rfl)
theorem f160.j0a_eq (k : Nat) (hi lo y : Int) : f160.j0a k hi lo y =
  if decide (y ≤ hi) = true then
    none
  else
    f160.j1a k hi lo y :=
  (gateK_open _ _ _).trans (by kernel_rfl)
theorem f160.j1a_eq (k : Nat) (hi lo y : Int) : f160.j1a k hi lo y =
  if (hi == 0) = true then
    if IntKind.u64 = IntKind.u64 ∧ y ≠ 0 then
      if IntKind.u64 = IntKind.u64 ∧ y ≠ 0 then
        some (.tup [.sc (.int .u64 (IntKind.u64.wrap (lo.tdiv y))), .sc (.int .u64 (lo.tmod y))])
      else none
    else none
  else
    (D 173 [.sc (.int .u64 y)]).bind fun r1 => if hasSh (.int .i64) r1 = true then
    if 0 ≤ IntKind.u64.wrap (r1.toInt) then
      if 0 ≤ IntKind.u64.wrap (r1.toInt) then
        if 0 ≤ IntKind.u64.wrap ((64 : Int) - (IntKind.u64.wrap (r1.toInt))) then
          if 0 ≤ IntKind.u64.wrap (r1.toInt) then
            if IntKind.u64 = IntKind.u64 ∧ (IntKind.u64.wrap (y * 2 ^ (min (IntKind.u64.wrap (r1.toInt)).toNat 64))).fdiv 4294967296 ≠ 0 then
              f160.l2a k (IntKind.u64.wrap (y * 2 ^ (min (IntKind.u64.wrap (r1.toInt)).toNat 64))) (IntKind.u64.wrap (r1.toInt)) ((IntKind.u64.wrap (y * 2 ^ (min (IntKind.u64.wrap (r1.toInt)).toNat 64))).fdiv 4294967296) (bits .and .u64 (IntKind.u64.wrap (y * 2 ^ (min (IntKind.u64.wrap (r1.toInt)).toNat 64))) 4294967295) (bits .or .u64 (IntKind.u64.wrap (hi * 2 ^ (min (IntKind.u64.wrap (r1.toInt)).toNat 64))) (lo.fdiv (2 ^ (min (IntKind.u64.wrap ((64 : Int) - (IntKind.u64.wrap (r1.toInt)))).toNat 64)))) ((IntKind.u64.wrap (lo * 2 ^ (min (IntKind.u64.wrap (r1.toInt)).toNat 64))).fdiv 4294967296) (bits .and .u64 (IntKind.u64.wrap (lo * 2 ^ (min (IntKind.u64.wrap (r1.toInt)).toNat 64))) 4294967295) (IntKind.u64.wrap ((bits .or .u64 (IntKind.u64.wrap (hi * 2 ^ (min (IntKind.u64.wrap (r1.toInt)).toNat 64))) (lo.fdiv (2 ^ (min (IntKind.u64.wrap ((64 : Int) - (IntKind.u64.wrap (r1.toInt)))).toNat 64)))).tdiv ((IntKind.u64.wrap (y * 2 ^ (min (IntKind.u64.wrap (r1.toInt)).toNat 64))).fdiv 4294967296))) (IntKind.u64.wrap ((bits .or .u64 (IntKind.u64.wrap (hi * 2 ^ (min (IntKind.u64.wrap (r1.toInt)).toNat 64))) (lo.fdiv (2 ^ (min (IntKind.u64.wrap ((64 : Int) - (IntKind.u64.wrap (r1.toInt)))).toNat 64)))) - (IntKind.u64.wrap ((IntKind.u64.wrap ((bits .or .u64 (IntKind.u64.wrap (hi * 2 ^ (min (IntKind.u64.wrap (r1.toInt)).toNat 64))) (lo.fdiv (2 ^ (min (IntKind.u64.wrap ((64 : Int) - (IntKind.u64.wrap (r1.toInt)))).toNat 64)))).tdiv ((IntKind.u64.wrap (y * 2 ^ (min (IntKind.u64.wrap (r1.toInt)).toNat 64))).fdiv 4294967296))) * ((IntKind.u64.wrap (y * 2 ^ (min (IntKind.u64.wrap (r1.toInt)).toNat 64))).fdiv 4294967296)))))
            else none
          else none
        else none
      else none
    else none
    else none :=
  (gateK_open _ _ _).trans (by kernel_rfl)
theorem f160.l2a_eq (k : Nat) (y s_ yn1 yn0 un32 un1 un0 q1 rhat : Int) : f160.l2a k y s_ yn1 yn0 un32 un1 un0 q1 rhat =
  Option.bind (α := PV) (
    if decide (q1 ≥ 4294967296) = true then
      some (.sc (.bool true))
    else
      some (.sc (.bool (decide ((IntKind.u64.wrap (q1 * yn0)) > (IntKind.u64.wrap ((IntKind.u64.wrap ((4294967296 : Int) * rhat)) + un1))))))) fun r2 =>
  if r2.toBool = true then
    if decide ((IntKind.u64.wrap (rhat + yn1)) ≥ 4294967296) = true then
      f160.j3a k y s_ yn1 yn0 un32 un1 un0 (IntKind.u64.wrap (q1 - 1))
    else
      f160.l2a k y s_ yn1 yn0 un32 un1 un0 (IntKind.u64.wrap (q1 - 1)) (IntKind.u64.wrap (rhat + yn1))
  else
    f160.j3a k y s_ yn1 yn0 un32 un1 un0 q1 :=
  (loopAt_eq _ _ _ _).trans (by kernel_rfl)
theorem f160.j3a_eq (k : Nat) (y s_ yn1 yn0 un32 un1 un0 q1 : Int) : f160.j3a k y s_ yn1 yn0 un32 un1 un0 q1 =
  if IntKind.u64 = IntKind.u64 ∧ yn1 ≠ 0 then
    f160.l4a k y s_ yn1 yn0 un0 q1 (IntKind.u64.wrap ((IntKind.u64.wrap ((IntKind.u64.wrap ((IntKind.u64.wrap (un32 * 4294967296)) + un1)) - (IntKind.u64.wrap (q1 * y)))) - (IntKind.u64.wrap ((IntKind.u64.wrap ((IntKind.u64.wrap ((IntKind.u64.wrap ((IntKind.u64.wrap (un32 * 4294967296)) + un1)) - (IntKind.u64.wrap (q1 * y)))).tdiv yn1)) * yn1)))) (IntKind.u64.wrap ((IntKind.u64.wrap ((IntKind.u64.wrap (un32 * 4294967296)) + un1)) - (IntKind.u64.wrap (q1 * y)))) (IntKind.u64.wrap ((IntKind.u64.wrap ((IntKind.u64.wrap ((IntKind.u64.wrap (un32 * 4294967296)) + un1)) - (IntKind.u64.wrap (q1 * y)))).tdiv yn1))
  else none :=
  (gateK_open _ _ _).trans (by kernel_rfl)
theorem f160.l4a_eq (k : Nat) (y s_ yn1 yn0 un0 q1 rhat un21 q0 : Int) : f160.l4a k y s_ yn1 yn0 un0 q1 rhat un21 q0 =
  Option.bind (α := PV) (
    if decide (q0 ≥ 4294967296) = true then
      some (.sc (.bool true))
    else
      some (.sc (.bool (decide ((IntKind.u64.wrap (q0 * yn0)) > (IntKind.u64.wrap ((IntKind.u64.wrap ((4294967296 : Int) * rhat)) + un0))))))) fun r3 =>
  if r3.toBool = true then
    if decide ((IntKind.u64.wrap (rhat + yn1)) ≥ 4294967296) = true then
      f160.j5a k y s_ un0 q1 un21 (IntKind.u64.wrap (q0 - 1))
    else
      f160.l4a k y s_ yn1 yn0 un0 q1 (IntKind.u64.wrap (rhat + yn1)) un21 (IntKind.u64.wrap (q0 - 1))
  else
    f160.j5a k y s_ un0 q1 un21 q0 :=
  (loopAt_eq _ _ _ _).trans (by kernel_rfl)
theorem f160.j5a_eq (k : Nat) (y s_ un0 q1 un21 q0 : Int) : f160.j5a k y s_ un0 q1 un21 q0 =
  if 0 ≤ s_ then
    some (.tup [.sc (.int .u64 (IntKind.u64.wrap ((IntKind.u64.wrap (q1 * 4294967296)) + q0))), .sc (.int .u64 ((IntKind.u64.wrap ((IntKind.u64.wrap ((IntKind.u64.wrap (un21 * 4294967296)) + un0)) - (IntKind.u64.wrap (q0 * y)))).fdiv (2 ^ (min s_.toNat 64))))])
  else none :=
  (gateK_open _ _ _).trans (by kernel_rfl)
-- math/bits.LeadingZeros64
theorem f173_eq (k : Nat) (x_ : Int) : D 173 [.sc (.int .u64 x_)] =
  (D 162 [.sc (.int .u64 x_)]).bind fun r1 => if hasSh (.int .i64) r1 = true then
  some (.sc (.int .i64 (IntKind.i64.wrap ((64 : Int) - r1.toInt))))
  else none :=
  (denI_eq k _ _).trans (by kernel_rfl)
-- math/bits.Len64
noncomputable def f162.j0a (k : Nat) (x_ n_ : Int) : Option PV := gateK k (placeAt Tryd.prog 6 ext hint k 162 [1, 1]) ⟨[.sc (.int .u64 x_), .top, .sc (.int .i64 n_), .top, .top, .top, .top, .top, .top, .top, .top, .top, .top, .top, .top, .top, .top, .top, .top, .top, .top, .top, .top, .top, .top], []⟩
noncomputable def f162.j1a (k : Nat) (x_ n_ : Int) : Option PV := gateK k (placeAt Tryd.prog 6 ext hint k 162 [1, 1, 1]) ⟨[.sc (.int .u64 x_), .top, .sc (.int .i64 n_), .top, .top, .top, .top, .top, .top, .top, .top, .top, .top, .top, .top, .top, .top, .top, .top, .top, .top, .top, .top, .top, .top], []⟩
theorem f162_eq (k : Nat) (x_ : Int) : D 162 [.sc (.int .u64 x_)] =
  if decide (x_ ≥ 4294967296) = true then
    f162.j0a k (x_.fdiv 4294967296) 32
  else
    f162.j0a k x_ 0 :=
  (denI_eq k _ _).trans (by kernel_rfl)
theorem f162.j0a_eq (k : Nat) (x_ n_ : Int) : f162.j0a k x_ n_ =
  if decide (x_ ≥ 65536) = true then
    f162.j1a k (x_.fdiv 65536) (IntKind.i64.wrap (n_ + 16))
  else
    f162.j1a k x_ n_ :=
  (gateK_open _ _ _).trans (by kernel_rfl)
theorem f162.j1a_eq (k : Nat) (x_ n_ : Int) : f162.j1a k x_ n_ =
  if decide (x_ ≥ 256) = true then
    if 0 ≤ IntKind.u8.wrap (x_.fdiv 256) then
      if IntKind.u8.wrap (x_.fdiv 256) < (256 : Int) then
        some (.sc (.int .i64 (IntKind.i64.wrap ((IntKind.i64.wrap (n_ + 8)) + (IntKind.i64.wrap (bt (⟨#[0, 1, 2, 2, 3, 3, 3, 3, 4, 4, 4, 4, 4, 4, 4, 4, 5, 5, 5, 5, 5, 5, 5, 5, 5, 5, 5, 5, 5, 5, 5, 5, 6, 6, 6, 6, 6, 6, 6, 6, 6, 6, 6, 6, 6, 6, 6, 6, 6, 6, 6, 6, 6, 6, 6, 6, 6, 6, 6, 6, 6, 6, 6, 6, 7, 7, 7, 7, 7, 7, 7, 7, 7, 7, 7, 7, 7, 7, 7, 7, 7, 7, 7, 7, 7, 7, 7, 7, 7, 7, 7, 7, 7, 7, 7, 7, 7, 7, 7, 7, 7, 7, 7, 7, 7, 7, 7, 7, 7, 7, 7, 7, 7, 7, 7, 7, 7, 7, 7, 7, 7, 7, 7, 7, 7, 7, 7, 7, 8, 8, 8, 8, 8, 8, 8, 8, 8, 8, 8, 8, 8, 8, 8, 8, 8, 8, 8, 8, 8, 8, 8, 8, 8, 8, 8, 8, 8, 8, 8, 8, 8, 8, 8, 8, 8, 8, 8, 8, 8, 8, 8, 8, 8, 8, 8, 8, 8, 8, 8, 8, 8, 8, 8, 8, 8, 8, 8, 8, 8, 8, 8, 8, 8, 8, 8, 8, 8, 8, 8, 8, 8, 8, 8, 8, 8, 8, 8, 8, 8, 8, 8, 8, 8, 8, 8, 8, 8, 8, 8, 8, 8, 8, 8, 8, 8, 8, 8, 8, 8, 8, 8, 8, 8, 8, 8, 8, 8, 8, 8, 8, 8, 8, 8, 8, 8, 8, 8, 8, 8, 8, 8, 8, 8, 8, 8, 8]⟩ : ByteArray) (IntKind.u8.wrap (x_.fdiv 256))))))))
      else none
    else none
  else
    if 0 ≤ IntKind.u8.wrap (x_) then
      if IntKind.u8.wrap (x_) < (256 : Int) then
        some (.sc (.int .i64 (IntKind.i64.wrap (n_ + (IntKind.i64.wrap (bt (⟨#[0, 1, 2, 2, 3, 3, 3, 3, 4, 4, 4, 4, 4, 4, 4, 4, 5, 5, 5, 5, 5, 5, 5, 5, 5, 5, 5, 5, 5, 5, 5, 5, 6, 6, 6, 6, 6, 6, 6, 6, 6, 6, 6, 6, 6, 6, 6, 6, 6, 6, 6, 6, 6, 6, 6, 6, 6, 6, 6, 6, 6, 6, 6, 6, 7, 7, 7, 7, 7, 7, 7, 7, 7, 7, 7, 7, 7, 7, 7, 7, 7, 7, 7, 7, 7, 7, 7, 7, 7, 7, 7, 7, 7, 7, 7, 7, 7, 7, 7, 7, 7, 7, 7, 7, 7, 7, 7, 7, 7, 7, 7, 7, 7, 7, 7, 7, 7, 7, 7, 7, 7, 7, 7, 7, 7, 7, 7, 7, 8, 8, 8, 8, 8, 8, 8, 8, 8, 8, 8, 8, 8, 8, 8, 8, 8, 8, 8, 8, 8, 8, 8, 8, 8, 8, 8, 8, 8, 8, 8, 8, 8, 8, 8, 8, 8, 8, 8, 8, 8, 8, 8, 8, 8, 8, 8, 8, 8, 8, 8, 8, 8, 8, 8, 8, 8, 8, 8, 8, 8, 8, 8, 8, 8, 8, 8, 8, 8, 8, 8, 8, 8, 8, 8, 8, 8, 8, 8, 8, 8, 8, 8, 8, 8, 8, 8, 8, 8, 8, 8, 8, 8, 8, 8, 8, 8, 8, 8, 8, 8, 8, 8, 8, 8, 8, 8, 8, 8, 8, 8, 8, 8, 8, 8, 8, 8, 8, 8, 8, 8, 8, 8, 8, 8, 8, 8, 8]⟩ : ByteArray) (IntKind.u8.wrap (x_))))))))
      else none
    else none :=
  (gateK_open _ _ _).trans (by kernel_rfl)
-- oculus/dec.Add
theorem f135_eq (k : Nat) (a b : Int) : D 135 [.sc (.int .i64 a), .sc (.int .i64 b)] =
  (D 69 [.sc (.int .i64 a)]).bind fun r1 => if hasSh .bool r1 = true then
  Option.bind (α := PV) (
    if (!r1.toBool) = true then
      some (.sc (.bool true))
    else
      Option.bind (α := PV) (
        (D 69 [.sc (.int .i64 b)]).bind fun r2 => if hasSh .bool r2 = true then
        some (.sc (.bool (!r2.toBool)))
        else none) fun r3 =>
      some (.sc (.bool r3.toBool))) fun r4 =>
  Option.bind (α := PV) (
    if r4.toBool = true then
      some (.sc (.bool true))
    else
      Option.bind (α := PV) (
        (D 69 [.sc (.int .i64 (IntKind.i64.wrap (a + b)))]).bind fun r5 => if hasSh .bool r5 = true then
        some (.sc (.bool (!r5.toBool)))
        else none) fun r6 =>
      some (.sc (.bool r6.toBool))) fun r7 =>
  Option.bind (α := PV) (
    if r7.toBool = true then
      some (.sc (.bool true))
    else
      Option.bind (α := PV) (
        Option.bind (α := PV) (
          Option.bind (α := PV) (
            if decide (a > 0) = true then
              some (.sc (.bool (decide (b > 0))))
            else
              some (.sc (.bool false))) fun r8 =>
          Option.bind (α := PV) (
            Option.bind (α := PV) (
              if r8.toBool = true then
                some (.sc (.bool (decide ((IntKind.i64.wrap (a + b)) < 0))))
              else
                some (.sc (.bool false))) fun r9 =>
            some (.sc (.bool r9.toBool))) fun r10 =>
          some (.sc (.bool r10.toBool))) fun r11 =>
        some (.sc (.bool r11.toBool))) fun r12 =>
      some (.sc (.bool r12.toBool))) fun r13 =>
  Option.bind (α := PV) (
    if r13.toBool = true then
      some (.sc (.bool true))
    else
      Option.bind (α := PV) (
        Option.bind (α := PV) (
          Option.bind (α := PV) (
            if decide (a < 0) = true then
              some (.sc (.bool (decide (b < 0))))
            else
              some (.sc (.bool false))) fun r14 =>
          Option.bind (α := PV) (
            Option.bind (α := PV) (
              if r14.toBool = true then
                some (.sc (.bool (decide ((IntKind.i64.wrap (a + b)) ≥ 0))))
              else
                some (.sc (.bool false))) fun r15 =>
            some (.sc (.bool r15.toBool))) fun r16 =>
          some (.sc (.bool r16.toBool))) fun r17 =>
        some (.sc (.bool r17.toBool))) fun r18 =>
      some (.sc (.bool r18.toBool))) fun r19 =>
  if r19.toBool = true then
    some (.tup [.sc (.int .i64 0), .sc (.bool false)])
  else
    some (.tup [.sc (.int .i64 (IntKind.i64.wrap (a + b))), .sc (.bool true)])
  else none :=
  (denI_eq k _ _).trans (by kernel_rfl)
-- oculus/digits.put
theorem f115_eq (k : Nat) (x_ y : Int) (minus : Bool) : D 115 [.sc (.int .i64 x_), .sc (.int .i64 y), .sc (.bool minus)] =
  (D 136 [.sc (.int .i64 x_)]).bind fun r1 => if hasSh (.tup [(.int .i64), .bool]) r1 = true then
  (D 135 [.sc (.int .i64 ((cel 0 r1.parts).toInt)), .sc (.int .i64 y)]).bind fun r2 => if hasSh (.tup [(.int .i64), .bool]) r2 = true then
  Option.bind (α := PV) (
    if (!((cel 1 r1.parts).toBool)) = true then
      some (.sc (.bool true))
    else
      some (.sc (.bool (!((cel 1 r2.parts).toBool))))) fun r3 =>
  if r3.toBool = true then
    some (.tup [.sc (.int .i64 0), .sc (.bool false)])
  else
    if minus = true then
      (D 137 [.sc (.int .i64 ((cel 0 r2.parts).toInt))]).bind fun r4 => if hasSh (.tup [(.int .i64), .bool]) r4 = true then
      some (.tup [.sc (.int .i64 ((cel 0 r4.parts).toInt)), .sc (.bool ((cel 1 r4.parts).toBool))])
      else none
    else
      some (.tup [.sc (.int .i64 ((cel 0 r2.parts).toInt)), .sc (.bool true)])
  else none
  else none :=
  (denI_eq k _ _).trans (by kernel_rfl)
-- oculus/dec.Of
theorem f136_eq (k : Nat) (n_ : Int) : D 136 [.sc (.int .i64 n_)] =
  (D 134 [.sc (.int .i64 n_), .sc (.int .i64 10000), .sc (.int .i64 1)]).bind fun r1 => if hasSh (.tup [(.int .i64), .bool]) r1 = true then
  some (.tup [.sc (.int .i64 ((cel 0 r1.parts).toInt)), .sc (.bool ((cel 1 r1.parts).toBool))])
  else none :=
  (denI_eq k _ _).trans (by kernel_rfl)
-- oculus/dec.Neg
theorem f137_eq (k : Nat) (x_ : Int) : D 137 [.sc (.int .i64 x_)] =
  (D 69 [.sc (.int .i64 x_)]).bind fun r1 => if hasSh .bool r1 = true then
  if (!r1.toBool) = true then
    some (.tup [.sc (.int .i64 0), .sc (.bool false)])
  else
    some (.tup [.sc (.int .i64 (IntKind.i64.wrap (0 - x_))), .sc (.bool true)])
  else none :=
  (denI_eq k _ _).trans (by kernel_rfl)
-- oculus/value.AsText
theorem f64_eq (k : Nat) (v_ v__1 : Int) (v__2 : ByteArray) : D 64 [.agg [.sc (.int .i64 v_), .sc (.int .i64 v__1), .sc (.string v__2)]] =
  if (v_ == 0) = true then
    (D 27 [.sc (.string (⟨#[]⟩ : ByteArray))]).bind fun r1 => if hasSh (.agg [(.int .i64), (.int .i64), .str]) r1 = true then
    some (.agg [.sc (.int .i64 ((cel 0 r1.cells).toInt)), .sc (.int .i64 ((cel 1 r1.cells).toInt)), .sc (.string ((cel 2 r1.cells).toStr))])
    else none
  else
    if (v_ == 3) = true then
      (D 92 [.agg [.sc (.int .i64 v_), .sc (.int .i64 v__1), .sc (.string v__2)]]).bind fun r2 => if hasSh .str r2 = true then
      (D 27 [.sc (.string r2.toStr)]).bind fun r3 => if hasSh (.agg [(.int .i64), (.int .i64), .str]) r3 = true then
      some (.agg [.sc (.int .i64 ((cel 0 r3.cells).toInt)), .sc (.int .i64 ((cel 1 r3.cells).toInt)), .sc (.string ((cel 2 r3.cells).toStr))])
      else none
      else none
    else
      if (v_ == 1) = true then
        (D 73 [.sc (.int .i64 v__1)]).bind fun r4 => if hasSh .str r4 = true then
        (D 27 [.sc (.string r4.toStr)]).bind fun r5 => if hasSh (.agg [(.int .i64), (.int .i64), .str]) r5 = true then
        some (.agg [.sc (.int .i64 ((cel 0 r5.cells).toInt)), .sc (.int .i64 ((cel 1 r5.cells).toInt)), .sc (.string ((cel 2 r5.cells).toStr))])
        else none
        else none
      else
        some (.agg [.sc (.int .i64 v_), .sc (.int .i64 v__1), .sc (.string v__2)]) :=
  (denI_eq k _ _).trans (by kernel_rfl)
-- oculus/digits.Text
noncomputable def f73.j0a (k : Nat) (x_ : Int) (out : ByteArray) : Option PV := gateK k (placeAt Tryd.prog 6 ext hint k 73 [1, 1, 1, 1]) ⟨[.sc (.int .i64 x_), .top, .top, .sc (.string out), .top, .top, .top, .top, .top, .top, .top, .top, .top, .top, .top, .top, .top, .top, .top, .top, .top, .top, .top, .top, .top, .top, .top, .top, .top, .top, .top, .top, .top, .top, .top, .top, .top, .top], []⟩
theorem f73_eq (k : Nat) (x_ : Int) : D 73 [.sc (.int .i64 x_)] =
  (D 69 [.sc (.int .i64 x_)]).bind fun r1 => if hasSh .bool r1 = true then
  if (!r1.toBool) = true then
    some (.sc (.string (⟨#[]⟩ : ByteArray)))
  else
    (D 100 [.sc (.int .i64 x_)]).bind fun r2 => if hasSh (.int .i64) r2 = true then
    (D 99 [.sc (.int .i64 r2.toInt), .sc (.int .i64 10)]).bind fun r3 => if hasSh .str r3 = true then
    Option.bind (α := PV) (
      if decide (x_ < 0) = true then
        some (.sc (.bool (decide (x_ > (-10000)))))
      else
        some (.sc (.bool false))) fun r4 =>
    if r4.toBool = true then
      if 1 + r3.toStr.size ≤ 9223372036854775807 then
        f73.j0a k x_ ((⟨#[45]⟩ : ByteArray) ++ r3.toStr)
      else none
    else
      f73.j0a k x_ r3.toStr
    else none
    else none
  else none :=
  (denI_eq k _ _).trans (by kernel_rfl)
theorem f73.j0a_eq (k : Nat) (x_ : Int) (out : ByteArray) : f73.j0a k x_ out =
  if ((x_.tmod 10000) == 0) = true then
    some (.sc (.string out))
  else
    (D 99 [.sc (.int .i64 (IntKind.i64.wrap ((10000 : Int) + (if IntKind.i64.wrap (0 - (x_.tmod 10000)) > x_.tmod 10000 then IntKind.i64.wrap (0 - (x_.tmod 10000)) else x_.tmod 10000)))), .sc (.int .i64 10)]).bind fun r5 => if hasSh .str r5 = true then
    if 0 ≤ (r5.toStr.size : Int) then
      if (r5.toStr.size : Int) ≤ (r5.toStr.size : Int) then
        if 1 ≤ (r5.toStr.size : Int) then
          if out.size + 1 ≤ 9223372036854775807 then
            (D 101 [.sc (.string (r5.toStr.extract 1 (r5.toStr.size : Int).toNat)), .sc (.string (⟨#[48]⟩ : ByteArray))]).bind fun r6 => if hasSh .str r6 = true then
            if (out ++ (⟨#[46]⟩ : ByteArray)).size + r6.toStr.size ≤ 9223372036854775807 then
              some (.sc (.string ((out ++ (⟨#[46]⟩ : ByteArray)) ++ r6.toStr)))
            else none
            else none
          else none
        else none
      else none
    else none
    else none :=
  (gateK_open _ _ _).trans (by kernel_rfl)
-- oculus/dec.Units
theorem f100_eq (k : Nat) (x_ : Int) : D 100 [.sc (.int .i64 x_)] =
  (D 69 [.sc (.int .i64 x_)]).bind fun r1 => if hasSh .bool r1 = true then
  if (!r1.toBool) = true then
    some (.sc (.int .i64 0))
  else
    some (.sc (.int .i64 (IntKind.i64.wrap (x_.tdiv 10000))))
  else none :=
  (denI_eq k _ _).trans (by kernel_rfl)
-- oculus/value.truth
theorem f92_eq (k : Nat) (v_ v__1 : Int) (v__2 : ByteArray) : D 92 [.agg [.sc (.int .i64 v_), .sc (.int .i64 v__1), .sc (.string v__2)]] =
  if (v__1 == 1) = true then
    some (.sc (.string (⟨#[84, 82, 85, 69]⟩ : ByteArray)))
  else
    some (.sc (.string (⟨#[70, 65, 76, 83, 69]⟩ : ByteArray))) :=
  (denI_eq k _ _).trans (by kernel_rfl)
-- oculus/value.AsTruth
theorem f65_eq (k : Nat) (v_ v__1 : Int) (v__2 : ByteArray) : D 65 [.agg [.sc (.int .i64 v_), .sc (.int .i64 v__1), .sc (.string v__2)]] =
  if (v_ == 0) = true then
    (D 28 [.sc (.bool false)]).bind fun r1 => if hasSh (.agg [(.int .i64), (.int .i64), .str]) r1 = true then
    some (.agg [.sc (.int .i64 ((cel 0 r1.cells).toInt)), .sc (.int .i64 ((cel 1 r1.cells).toInt)), .sc (.string ((cel 2 r1.cells).toStr))])
    else none
  else
    if (v_ == 1) = true then
      (D 28 [.sc (.bool (v__1 != 0))]).bind fun r2 => if hasSh (.agg [(.int .i64), (.int .i64), .str]) r2 = true then
      some (.agg [.sc (.int .i64 ((cel 0 r2.cells).toInt)), .sc (.int .i64 ((cel 1 r2.cells).toInt)), .sc (.string ((cel 2 r2.cells).toStr))])
      else none
    else
      if (v_ == 2) = true then
        Option.bind (α := PV) (
          if (v__2.toList == (⟨#[84, 82, 85, 69]⟩ : ByteArray).toList) = true then
            some (.sc (.bool true))
          else
            some (.sc (.bool (v__2.toList == (⟨#[70, 65, 76, 83, 69]⟩ : ByteArray).toList)))) fun r3 =>
        if r3.toBool = true then
          (D 28 [.sc (.bool (v__2.toList == (⟨#[84, 82, 85, 69]⟩ : ByteArray).toList))]).bind fun r4 => if hasSh (.agg [(.int .i64), (.int .i64), .str]) r4 = true then
          some (.agg [.sc (.int .i64 ((cel 0 r4.cells).toInt)), .sc (.int .i64 ((cel 1 r4.cells).toInt)), .sc (.string ((cel 2 r4.cells).toStr))])
          else none
        else
          (D 29 [.sc (.int .i64 2)]).bind fun r5 => if hasSh (.agg [(.int .i64), (.int .i64), .str]) r5 = true then
          some (.agg [.sc (.int .i64 ((cel 0 r5.cells).toInt)), .sc (.int .i64 ((cel 1 r5.cells).toInt)), .sc (.string ((cel 2 r5.cells).toStr))])
          else none
      else
        some (.agg [.sc (.int .i64 v_), .sc (.int .i64 v__1), .sc (.string v__2)]) :=
  (denI_eq k _ _).trans (by kernel_rfl)
-- oculus/value.Compare
theorem f66_eq (k : Nat) (a a_1 : Int) (a_2 : ByteArray) (b b_1 : Int) (b_2 : ByteArray) : D 66 [.agg [.sc (.int .i64 a), .sc (.int .i64 a_1), .sc (.string a_2)], .agg [.sc (.int .i64 b), .sc (.int .i64 b_1), .sc (.string b_2)]] =
  Option.bind (α := PV) (
    if (a == 4) = true then
      some (.sc (.bool true))
    else
      some (.sc (.bool (b == 4)))) fun r1 =>
  if r1.toBool = true then
    some (.sc (.int .i64 0))
  else
    (D 93 [.agg [.sc (.int .i64 a), .sc (.int .i64 a_1), .sc (.string a_2)], .agg [.sc (.int .i64 b), .sc (.int .i64 b_1), .sc (.string b_2)]]).bind fun r2 => if hasSh (.agg [(.int .i64), (.int .i64), .str]) r2 = true then
    (D 93 [.agg [.sc (.int .i64 b), .sc (.int .i64 b_1), .sc (.string b_2)], .agg [.sc (.int .i64 a), .sc (.int .i64 a_1), .sc (.string a_2)]]).bind fun r3 => if hasSh (.agg [(.int .i64), (.int .i64), .str]) r3 = true then
    if (((cel 0 r2.cells).toInt) != ((cel 0 r3.cells).toInt)) = true then
      (D 94 [.sc (.int .i64 (IntKind.i64.wrap (((cel 0 r2.cells).toInt) - ((cel 0 r3.cells).toInt))))]).bind fun r4 => if hasSh (.int .i64) r4 = true then
      some (.sc (.int .i64 r4.toInt))
      else none
    else
      if (((cel 0 r2.cells).toInt) == 2) = true then
        (D 95 [.sc (.string ((cel 2 r2.cells).toStr)), .sc (.string ((cel 2 r3.cells).toStr))]).bind fun r5 => if hasSh (.int .i64) r5 = true then
        some (.sc (.int .i64 r5.toInt))
        else none
      else
        if decide (((cel 1 r2.cells).toInt) < ((cel 1 r3.cells).toInt)) = true then
          some (.sc (.int .i64 (-1)))
        else
          if decide (((cel 1 r2.cells).toInt) > ((cel 1 r3.cells).toInt)) = true then
            some (.sc (.int .i64 1))
          else
            some (.sc (.int .i64 0))
    else none
    else none :=
  (denI_eq k _ _).trans (by kernel_rfl)
-- oculus/value.like
theorem f93_eq (k : Nat) (v_ v__1 : Int) (v__2 : ByteArray) (w w_1 : Int) (w_2 : ByteArray) : D 93 [.agg [.sc (.int .i64 v_), .sc (.int .i64 v__1), .sc (.string v__2)], .agg [.sc (.int .i64 w), .sc (.int .i64 w_1), .sc (.string w_2)]] =
  if (v_ == 0) = true then
    some (.agg [.sc (.int .i64 w), .sc (.int .i64 v__1), .sc (.string v__2)])
  else
    some (.agg [.sc (.int .i64 v_), .sc (.int .i64 v__1), .sc (.string v__2)]) :=
  (denI_eq k _ _).trans (by kernel_rfl)
-- oculus/value.Show
theorem f67_eq (k : Nat) (v_ v__1 : Int) (v__2 : ByteArray) : D 67 [.agg [.sc (.int .i64 v_), .sc (.int .i64 v__1), .sc (.string v__2)]] =
  if (v_ == 0) = true then
    some (.sc (.string (⟨#[]⟩ : ByteArray)))
  else
    if (v_ == 2) = true then
      (D 96 [.sc (.string v__2)]).bind fun r1 => if hasSh .str r1 = true then
      some (.sc (.string r1.toStr))
      else none
    else
      if (v_ == 4) = true then
        (D 38 [.sc (.int .i64 v__1)]).bind fun r2 => if hasSh .str r2 = true then
        some (.sc (.string r2.toStr))
        else none
      else
        (D 64 [.agg [.sc (.int .i64 v_), .sc (.int .i64 v__1), .sc (.string v__2)]]).bind fun r3 => if hasSh (.agg [(.int .i64), (.int .i64), .str]) r3 = true then
        some (.sc (.string ((cel 2 r3.cells).toStr)))
        else none :=
  (denI_eq k _ _).trans (by kernel_rfl)
-- oculus/value.FaultText
theorem f38_eq (k : Nat) (code : Int) : D 38 [.sc (.int .i64 code)] =
  if (code == 1) = true then
    some (.sc (.string (⟨#[35, 68, 73, 86]⟩ : ByteArray)))
  else
    if (code == 2) = true then
      some (.sc (.string (⟨#[35, 86, 65, 76, 85, 69]⟩ : ByteArray)))
    else
      if (code == 3) = true then
        some (.sc (.string (⟨#[35, 82, 69, 70]⟩ : ByteArray)))
      else
        if (code == 4) = true then
          some (.sc (.string (⟨#[35, 78, 85, 77]⟩ : ByteArray)))
        else
          if (code == 5) = true then
            some (.sc (.string (⟨#[35, 78, 65]⟩ : ByteArray)))
          else
            if (code == 6) = true then
              some (.sc (.string (⟨#[35, 65, 85, 84, 72]⟩ : ByteArray)))
            else
              if (code == 7) = true then
                some (.sc (.string (⟨#[35, 67, 89, 67, 76, 69]⟩ : ByteArray)))
              else
                some (.sc (.string (⟨#[]⟩ : ByteArray))) :=
  (denI_eq k _ _).trans (by kernel_rfl)
-- oculus/value.Quote
theorem f96_eq (k : Nat) (t : ByteArray) : D 96 [.sc (.string t)] =
  (D 117 [.sc (.string t), .sc (.string (⟨#[34]⟩ : ByteArray)), .sc (.string (⟨#[34, 34]⟩ : ByteArray))]).bind fun r1 => if hasSh .str r1 = true then
  if 1 + r1.toStr.size ≤ 9223372036854775807 then
    if ((⟨#[34]⟩ : ByteArray) ++ r1.toStr).size + 1 ≤ 9223372036854775807 then
      some (.sc (.string (((⟨#[34]⟩ : ByteArray) ++ r1.toStr) ++ (⟨#[34]⟩ : ByteArray))))
    else none
  else none
  else none :=
  (denI_eq k _ _).trans (by kernel_rfl)
-- oculus/value.Got
theorem f30_eq (k : Nat) (x_ : Int) (ok : Bool) : D 30 [.sc (.int .i64 x_), .sc (.bool ok)] =
  if (!ok) = true then
    (D 29 [.sc (.int .i64 4)]).bind fun r1 => if hasSh (.agg [(.int .i64), (.int .i64), .str]) r1 = true then
    some (.agg [.sc (.int .i64 ((cel 0 r1.cells).toInt)), .sc (.int .i64 ((cel 1 r1.cells).toInt)), .sc (.string ((cel 2 r1.cells).toStr))])
    else none
  else
    (D 26 [.sc (.int .i64 x_)]).bind fun r2 => if hasSh (.agg [(.int .i64), (.int .i64), .str]) r2 = true then
    some (.agg [.sc (.int .i64 ((cel 0 r2.cells).toInt)), .sc (.int .i64 ((cel 1 r2.cells).toInt)), .sc (.string ((cel 2 r2.cells).toStr))])
    else none :=
  (denI_eq k _ _).trans (by kernel_rfl)
-- oculus/oculusref12.May
theorem f32_eq (k : Nat) (v_ v__1 : Int) (v__2 : ByteArray) : D 32 [.agg [.sc (.int .i64 v_), .sc (.int .i64 v__1), .sc (.string v__2)]] =
  Option.bind (α := PV) (
    if (v_ == 0) = true then
      some (.sc (.bool (v__2.toList == (⟨#[]⟩ : ByteArray).toList)))
    else
      some (.sc (.bool false))) fun r1 =>
  Option.bind (α := PV) (
    if r1.toBool = true then
      some (.sc (.bool (v__1 == 0)))
    else
      some (.sc (.bool false))) fun r2 =>
  Option.bind (α := PV) (
    if r2.toBool = true then
      some (.sc (.bool true))
    else
      Option.bind (α := PV) (
        Option.bind (α := PV) (
          Option.bind (α := PV) (
            Option.bind (α := PV) (
              if (v_ == 1) = true then
                some (.sc (.bool (v__2.toList == (⟨#[]⟩ : ByteArray).toList)))
              else
                some (.sc (.bool false))) fun r3 =>
            Option.bind (α := PV) (
              Option.bind (α := PV) (
                if r3.toBool = true then
                  Option.bind (α := PV) (
                    Option.bind (α := PV) (
                      (D 70 [.sc (.int .i64 v__1)]).bind fun r4 => if hasSh .bool r4 = true then
                      some (.sc (.bool r4.toBool))
                      else none) fun r5 =>
                    some (.sc (.bool r5.toBool))) fun r6 =>
                  some (.sc (.bool r6.toBool))
                else
                  some (.sc (.bool false))) fun r7 =>
              some (.sc (.bool r7.toBool))) fun r8 =>
            some (.sc (.bool r8.toBool))) fun r9 =>
          some (.sc (.bool r9.toBool))) fun r10 =>
        some (.sc (.bool r10.toBool))) fun r11 =>
      some (.sc (.bool r11.toBool))) fun r12 =>
  Option.bind (α := PV) (
    if r12.toBool = true then
      some (.sc (.bool true))
    else
      Option.bind (α := PV) (
        Option.bind (α := PV) (
          Option.bind (α := PV) (
            Option.bind (α := PV) (
              if (v_ == 2) = true then
                some (.sc (.bool (v__1 == 0)))
              else
                some (.sc (.bool false))) fun r13 =>
            Option.bind (α := PV) (
              Option.bind (α := PV) (
                if r13.toBool = true then
                  some (.sc (.bool (decide ((v__2.size : Int) ≤ 256))))
                else
                  some (.sc (.bool false))) fun r14 =>
              some (.sc (.bool r14.toBool))) fun r15 =>
            some (.sc (.bool r15.toBool))) fun r16 =>
          some (.sc (.bool r16.toBool))) fun r17 =>
        some (.sc (.bool r17.toBool))) fun r18 =>
      some (.sc (.bool r18.toBool))) fun r19 =>
  Option.bind (α := PV) (
    if r19.toBool = true then
      some (.sc (.bool true))
    else
      Option.bind (α := PV) (
        Option.bind (α := PV) (
          Option.bind (α := PV) (
            Option.bind (α := PV) (
              if (v_ == 3) = true then
                some (.sc (.bool (v__2.toList == (⟨#[]⟩ : ByteArray).toList)))
              else
                some (.sc (.bool false))) fun r20 =>
            Option.bind (α := PV) (
              Option.bind (α := PV) (
                if r20.toBool = true then
                  Option.bind (α := PV) (
                    Option.bind (α := PV) (
                      Option.bind (α := PV) (
                        Option.bind (α := PV) (
                          if (v__1 == 0) = true then
                            some (.sc (.bool true))
                          else
                            some (.sc (.bool (v__1 == 1)))) fun r21 =>
                        some (.sc (.bool r21.toBool))) fun r22 =>
                      some (.sc (.bool r22.toBool))) fun r23 =>
                    some (.sc (.bool r23.toBool))) fun r24 =>
                  some (.sc (.bool r24.toBool))
                else
                  some (.sc (.bool false))) fun r25 =>
              some (.sc (.bool r25.toBool))) fun r26 =>
            some (.sc (.bool r26.toBool))) fun r27 =>
          some (.sc (.bool r27.toBool))) fun r28 =>
        some (.sc (.bool r28.toBool))) fun r29 =>
      some (.sc (.bool r29.toBool))) fun r30 =>
  Option.bind (α := PV) (
    if r30.toBool = true then
      some (.sc (.bool true))
    else
      Option.bind (α := PV) (
        Option.bind (α := PV) (
          Option.bind (α := PV) (
            Option.bind (α := PV) (
              if (v_ == 4) = true then
                some (.sc (.bool (v__2.toList == (⟨#[]⟩ : ByteArray).toList)))
              else
                some (.sc (.bool false))) fun r31 =>
            Option.bind (α := PV) (
              Option.bind (α := PV) (
                if r31.toBool = true then
                  some (.sc (.bool (decide (v__1 ≥ 1))))
                else
                  some (.sc (.bool false))) fun r32 =>
              Option.bind (α := PV) (
                Option.bind (α := PV) (
                  if r32.toBool = true then
                    some (.sc (.bool (decide (v__1 ≤ 7))))
                  else
                    some (.sc (.bool false))) fun r33 =>
                some (.sc (.bool r33.toBool))) fun r34 =>
              some (.sc (.bool r34.toBool))) fun r35 =>
            some (.sc (.bool r35.toBool))) fun r36 =>
          some (.sc (.bool r36.toBool))) fun r37 =>
        some (.sc (.bool r37.toBool))) fun r38 =>
      some (.sc (.bool r38.toBool))) fun r39 =>
  some (.sc (.bool r39.toBool)) :=
  (denI_eq k _ _).trans (by kernel_rfl)
-- oculus/oculusref08.May
theorem f70_eq (k : Nat) (x_ : Int) : D 70 [.sc (.int .i64 x_)] =
  some (.sc (.bool (decide (x_ ≥ (-9223372036854775807))))) :=
  (denI_eq k _ _).trans (by kernel_rfl)
-- oculus/oculusref12.Num
theorem f33_eq (k : Nat) (x_ : Int) : D 33 [.sc (.int .i64 x_)] =
  (D 70 [.sc (.int .i64 x_)]).bind fun r1 => if hasSh .bool r1 = true then
  if (!r1.toBool) = true then
    (D 36 [.sc (.int .i64 4)]).bind fun r2 => if hasSh (.agg [(.int .i64), (.int .i64), .str]) r2 = true then
    some (.agg [.sc (.int .i64 ((cel 0 r2.cells).toInt)), .sc (.int .i64 ((cel 1 r2.cells).toInt)), .sc (.string ((cel 2 r2.cells).toStr))])
    else none
  else
    some (.agg [.sc (.int .i64 1), .sc (.int .i64 x_), .sc (.string (⟨#[]⟩ : ByteArray))])
  else none :=
  (denI_eq k _ _).trans (by kernel_rfl)
-- oculus/oculusref12.Bad
theorem f36_eq (k : Nat) (code : Int) : D 36 [.sc (.int .i64 code)] =
  Option.bind (α := PV) (
    if decide (code < 1) = true then
      some (.sc (.bool true))
    else
      some (.sc (.bool (decide (code > 7))))) fun r1 =>
  if r1.toBool = true then
    some (.agg [.sc (.int .i64 4), .sc (.int .i64 2), .sc (.string (⟨#[]⟩ : ByteArray))])
  else
    some (.agg [.sc (.int .i64 4), .sc (.int .i64 code), .sc (.string (⟨#[]⟩ : ByteArray))]) :=
  (denI_eq k _ _).trans (by kernel_rfl)
-- oculus/oculusref12.Str
theorem f34_eq (k : Nat) (t : ByteArray) : D 34 [.sc (.string t)] =
  if decide ((t.size : Int) > 256) = true then
    (D 36 [.sc (.int .i64 2)]).bind fun r1 => if hasSh (.agg [(.int .i64), (.int .i64), .str]) r1 = true then
    some (.agg [.sc (.int .i64 ((cel 0 r1.cells).toInt)), .sc (.int .i64 ((cel 1 r1.cells).toInt)), .sc (.string ((cel 2 r1.cells).toStr))])
    else none
  else
    some (.agg [.sc (.int .i64 2), .sc (.int .i64 0), .sc (.string t)]) :=
  (denI_eq k _ _).trans (by kernel_rfl)
-- oculus/oculusref12.Bool
theorem f35_eq (k : Nat) (is : Bool) : D 35 [.sc (.bool is)] =
  if is = true then
    some (.agg [.sc (.int .i64 3), .sc (.int .i64 1), .sc (.string (⟨#[]⟩ : ByteArray))])
  else
    some (.agg [.sc (.int .i64 3), .sc (.int .i64 0), .sc (.string (⟨#[]⟩ : ByteArray))]) :=
  (denI_eq k _ _).trans (by kernel_rfl)
end EV
end Go.Den
