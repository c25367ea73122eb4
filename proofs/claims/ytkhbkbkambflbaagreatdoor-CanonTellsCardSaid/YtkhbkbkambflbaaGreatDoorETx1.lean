import Derived.Test.YtkhbkbkambflbaaGreatDoorETh
import Derived.KernelRfl
set_option maxRecDepth 100000
set_option linter.unusedVariables false
namespace Go.Den
open Go Go.Proofs
namespace ET
-- oculus/digits.number
noncomputable def f204.l0a (k : Nat) (t : ByteArray) (n_ t11 t12 : Int) : Option PV := loopAt Tryz.prog cf ext hint k 204 [1, 1, 0, 1, 0] ⟨([.sc (.string t), .top, .top, .top, .sc (.int .i64 n_)] ++ tops 6 ([.sc (.int .i64 t11), .sc (.int .i64 t12)] ++ tops 38 ([]))), [], none⟩
theorem f204_eq (k : Nat) (t : ByteArray) : D 204 [.sc (.string t)] =
 f204.l0a k t 0 (t.size : Int) 0 :=
 (denI_eq k _ _).trans (by kernel_rfl)
theorem f204.l0a_eq (k : Nat) (t : ByteArray) (n_ t11 t12 : Int) : f204.l0a k t n_ t11 t12 =
 if decide (t12 < t11) = true then
 if 0 ≤ t12 then
 if t12 < (t.size : Int) then
 Option.bind (α := PV) (
 if decide ((bt t t12) < 48) = true then
 some (.sc (.bool true))
 else
 Option.bind (α := PV) (
 Option.bind (α := PV) (
 if 0 ≤ t12 then
 if t12 < (t.size : Int) then
 some (.sc (.bool (decide ((bt t t12) > 57))))
 else none
 else none) fun r1 =>
 some (.sc (.bool r1.toBool))) fun r2 =>
 some (.sc (.bool r2.toBool))) fun r3 =>
 if r3.toBool = true then
 some (.tup [.sc (.int .i64 0), .sc (.bool false)])
 else
 (D 227 [.sc (.int .i64 n_), .sc (.int .i64 10), .sc (.int .i64 1)]).bind fun r4 => if hasSh (.tup [(.int .i64), .bool]) r4 = true then
 if 0 ≤ t12 then
 if t12 < (t.size : Int) then
 (D 228 [.sc (.int .i64 ((cel 0 r4.parts).toInt)), .sc (.int .i64 (IntKind.i64.wrap (IntKind.u8.wrap ((bt t t12) - 48))))]).bind fun r5 => if hasSh (.tup [(.int .i64), .bool]) r5 = true then
 Option.bind (α := PV) (
 if (!((cel 1 r4.parts).toBool)) = true then
 some (.sc (.bool true))
 else
 some (.sc (.bool (!((cel 1 r5.parts).toBool))))) fun r6 =>
 if r6.toBool = true then
 some (.tup [.sc (.int .i64 0), .sc (.bool false)])
 else
 f204.l0a k t ((cel 0 r5.parts).toInt) t11 (IntKind.i64.wrap (t12 + 1))
 else none
 else none
 else none
 else none
 else none
 else none
 else
 some (.tup [.sc (.int .i64 n_), .sc (.bool (!(t.toList == (⟨#[]⟩ : ByteArray).toList)))]) :=
 (loopAt_eq _ _ _ _).trans (by kernel_rfl)
-- oculus/dec.Scaled
noncomputable def f227.j0a (k : Nat) (a b c q : Int) : Option PV := gateK k (placeAt Tryz.prog cf ext hint k 227 [1, 1, 1, 1, 1, 1, 1]) ⟨([.sc (.int .i64 a), .sc (.int .i64 b), .sc (.int .i64 c)] ++ tops 8 ([.sc (.int .u64 q)] ++ tops 61 ([]))), [], none⟩
theorem f227_eq (k : Nat) (a b c : Int) : D 227 [.sc (.int .i64 a), .sc (.int .i64 b), .sc (.int .i64 c)] =
 (D 148 [.sc (.int .i64 a)]).bind fun r1 => if hasSh .bool r1 = true then
 Option.bind (α := PV) (
 if (!r1.toBool) = true then
 some (.sc (.bool true))
 else
 Option.bind (α := PV) (
 (D 148 [.sc (.int .i64 b)]).bind fun r2 => if hasSh .bool r2 = true then
 some (.sc (.bool (!r2.toBool)))
 else none) fun r3 =>
 some (.sc (.bool r3.toBool))) fun r4 =>
 Option.bind (α := PV) (
 if r4.toBool = true then
 some (.sc (.bool true))
 else
 Option.bind (α := PV) (
 (D 148 [.sc (.int .i64 c)]).bind fun r5 => if hasSh .bool r5 = true then
 some (.sc (.bool (!r5.toBool)))
 else none) fun r6 =>
 some (.sc (.bool r6.toBool))) fun r7 =>
 Option.bind (α := PV) (
 if r7.toBool = true then
 some (.sc (.bool true))
 else
 some (.sc (.bool (c == 0)))) fun r8 =>
 if r8.toBool = true then
 some (.tup [.sc (.int .i64 0), .sc (.bool false)])
 else
 (D 251 [.sc (.int .i64 c)]).bind fun r9 => if hasSh (.int .u64) r9 = true then
 (D 251 [.sc (.int .i64 a)]).bind fun r10 => if hasSh (.int .u64) r10 = true then
 (D 251 [.sc (.int .i64 b)]).bind fun r11 => if hasSh (.int .u64) r11 = true then
 (D 252 [.sc (.int .u64 r10.toInt), .sc (.int .u64 r11.toInt)]).bind fun r12 => if hasSh (.tup [(.int .u64), (.int .u64)]) r12 = true then
 if decide (((cel 0 r12.parts).toInt) ≥ r9.toInt) = true then
 some (.tup [.sc (.int .i64 0), .sc (.bool false)])
 else
 (D 253 [.sc (.int .u64 ((cel 0 r12.parts).toInt)), .sc (.int .u64 ((cel 1 r12.parts).toInt)), .sc (.int .u64 r9.toInt)]).bind fun r13 => if hasSh (.tup [(.int .u64), (.int .u64)]) r13 = true then
 if decide (((cel 1 r13.parts).toInt) ≥ (IntKind.u64.wrap (r9.toInt - ((cel 1 r13.parts).toInt)))) = true then
 f227.j0a k a b c (IntKind.u64.wrap (((cel 0 r13.parts).toInt) + 1))
 else
 f227.j0a k a b c ((cel 0 r13.parts).toInt)
 else none
 else none
 else none
 else none
 else none
 else none :=
 (denI_eq k _ _).trans (by kernel_rfl)
theorem f227.j0a_eq (k : Nat) (a b c q : Int) : f227.j0a k a b c q =
 if decide (q > 9223372036854775807) = true then
 some (.tup [.sc (.int .i64 0), .sc (.bool false)])
 else
 (D 254 [.sc (.int .i64 a)]).bind fun r14 => if hasSh (.int .i64) r14 = true then
 (D 254 [.sc (.int .i64 b)]).bind fun r15 => if hasSh (.int .i64) r15 = true then
 (D 254 [.sc (.int .i64 c)]).bind fun r16 => if hasSh (.int .i64) r16 = true then
 if decide ((IntKind.i64.wrap ((IntKind.i64.wrap (r14.toInt * r15.toInt)) * r16.toInt)) < 0) = true then
 some (.tup [.sc (.int .i64 (IntKind.i64.wrap (0 - (IntKind.i64.wrap (q))))), .sc (.bool true)])
 else
 some (.tup [.sc (.int .i64 (IntKind.i64.wrap (q))), .sc (.bool true)])
 else none
 else none
 else none :=
 (gateK_open _ _ _).trans (by kernel_rfl)
-- oculus/dec.May
theorem f148_eq (k : Nat) (x_ : Int) : D 148 [.sc (.int .i64 x_)] =
 some (.sc (.bool (x_ != (-9223372036854775808)))) :=
 (denI_eq k _ _).trans (by kernel_rfl)
-- oculus/dec.size
theorem f251_eq (k : Nat) (x_ : Int) : D 251 [.sc (.int .i64 x_)] =
 if decide (x_ < 0) = true then
 some (.sc (.int .u64 (IntKind.u64.wrap (IntKind.i64.wrap (0 - x_)))))
 else
 some (.sc (.int .u64 (IntKind.u64.wrap (x_)))) :=
 (denI_eq k _ _).trans (by kernel_rfl)
-- math/bits.Mul64
theorem f252_eq (k : Nat) (x_ y : Int) : D 252 [.sc (.int .u64 x_), .sc (.int .u64 y)] =
 some (.tup [.sc (.int .u64 (IntKind.u64.wrap ((IntKind.u64.wrap ((IntKind.u64.wrap ((x_.fdiv 4294967296) * (y.fdiv 4294967296))) + ((IntKind.u64.wrap ((IntKind.u64.wrap ((x_.fdiv 4294967296) * (bits .and .u64 y 4294967295))) + ((IntKind.u64.wrap ((bits .and .u64 x_ 4294967295) * (bits .and .u64 y 4294967295))).fdiv 4294967296))).fdiv 4294967296))) + ((IntKind.u64.wrap ((bits .and .u64 (IntKind.u64.wrap ((IntKind.u64.wrap ((x_.fdiv 4294967296) * (bits .and .u64 y 4294967295))) + ((IntKind.u64.wrap ((bits .and .u64 x_ 4294967295) * (bits .and .u64 y 4294967295))).fdiv 4294967296))) 4294967295) + (IntKind.u64.wrap ((bits .and .u64 x_ 4294967295) * (y.fdiv 4294967296))))).fdiv 4294967296)))), .sc (.int .u64 (IntKind.u64.wrap (x_ * y)))]) :=
 (denI_eq k _ _).trans (by kernel_rfl)
-- math/bits.Div64
noncomputable def f253.j0a (k : Nat) (hi lo y : Int) : Option PV := gateK k (placeAt Tryz.prog cf ext hint k 253 [1, 1]) ⟨([.sc (.int .u64 hi), .sc (.int .u64 lo), .sc (.int .u64 y)] ++ tops 132 ([])), [], none⟩
noncomputable def f253.j1a (k : Nat) (hi lo y : Int) : Option PV := gateK k (placeAt Tryz.prog cf ext hint k 253 [1, 1, 1]) ⟨([.sc (.int .u64 hi), .sc (.int .u64 lo), .sc (.int .u64 y)] ++ tops 132 ([])), [], none⟩
noncomputable def f253.l2a (k : Nat) (y s_ yn1 yn0 un32 un1 un0 q1 rhat : Int) : Option PV := loopAt Tryz.prog cf ext hint k 253 [1, 1, 1, 1, 1, 1, 1, 1, 1, 1, 1, 1, 1, 1, 0, 0] ⟨([.top, .top, .sc (.int .u64 y)] ++ tops 5 ([.sc (.int .u64 s_), .sc (.int .u64 yn1), .sc (.int .u64 yn0), .sc (.int .u64 un32), .top, .sc (.int .u64 un1), .sc (.int .u64 un0), .sc (.int .u64 q1), .sc (.int .u64 rhat)] ++ tops 118 ([]))), [], none⟩
noncomputable def f253.j3a (k : Nat) (y s_ yn1 yn0 un32 un1 un0 q1 : Int) : Option PV := gateK k (placeAt Tryz.prog cf ext hint k 253 [1, 1, 1, 1, 1, 1, 1, 1, 1, 1, 1, 1, 1, 1, 1]) ⟨([.top, .top, .sc (.int .u64 y)] ++ tops 5 ([.sc (.int .u64 s_), .sc (.int .u64 yn1), .sc (.int .u64 yn0), .sc (.int .u64 un32), .top, .sc (.int .u64 un1), .sc (.int .u64 un0), .sc (.int .u64 q1)] ++ tops 119 ([]))), [], none⟩
noncomputable def f253.l4a (k : Nat) (y s_ yn1 yn0 un0 q1 rhat un21 q0 : Int) : Option PV := loopAt Tryz.prog cf ext hint k 253 [1, 1, 1, 1, 1, 1, 1, 1, 1, 1, 1, 1, 1, 1, 1, 1, 1, 1, 0, 0] ⟨([.top, .top, .sc (.int .u64 y)] ++ tops 5 ([.sc (.int .u64 s_), .sc (.int .u64 yn1), .sc (.int .u64 yn0), .top, .top, .top, .sc (.int .u64 un0), .sc (.int .u64 q1), .sc (.int .u64 rhat), .sc (.int .u64 un21), .sc (.int .u64 q0)] ++ tops 116 ([]))), [], none⟩
noncomputable def f253.j5a (k : Nat) (y s_ un0 q1 un21 q0 : Int) : Option PV := gateK k (placeAt Tryz.prog cf ext hint k 253 [1, 1, 1, 1, 1, 1, 1, 1, 1, 1, 1, 1, 1, 1, 1, 1, 1, 1, 1]) ⟨([.top, .top, .sc (.int .u64 y)] ++ tops 5 ([.sc (.int .u64 s_)] ++ tops 5 ([.sc (.int .u64 un0), .sc (.int .u64 q1), .top, .sc (.int .u64 un21), .sc (.int .u64 q0)] ++ tops 116 ([])))), [], none⟩
theorem f253_eq (k : Nat) (hi lo y : Int) : D 253 [.sc (.int .u64 hi), .sc (.int .u64 lo), .sc (.int .u64 y)] =
 if (y == 0) = true then
 none
 else
 f253.j0a k hi lo y :=
 (denI_eq k _ _).trans (by kernel_rfl)
theorem f253.j0a_eq (k : Nat) (hi lo y : Int) : f253.j0a k hi lo y =
 if decide (y ≤ hi) = true then
 none
 else
 f253.j1a k hi lo y :=
 (gateK_open _ _ _).trans (by kernel_rfl)
theorem f253.j1a_eq (k : Nat) (hi lo y : Int) : f253.j1a k hi lo y =
 if (hi == 0) = true then
 if IntKind.u64 = IntKind.u64 ∧ y ≠ 0 then
 if IntKind.u64 = IntKind.u64 ∧ y ≠ 0 then
 some (.tup [.sc (.int .u64 (IntKind.u64.wrap (lo.tdiv y))), .sc (.int .u64 (lo.tmod y))])
 else none
 else none
 else
 (D 268 [.sc (.int .u64 y)]).bind fun r1 => if hasSh (.int .i64) r1 = true then
 if 0 ≤ IntKind.u64.wrap (r1.toInt) then
 if 0 ≤ IntKind.u64.wrap (r1.toInt) then
 if 0 ≤ IntKind.u64.wrap ((64 : Int) - (IntKind.u64.wrap (r1.toInt))) then
 if 0 ≤ IntKind.u64.wrap (r1.toInt) then
 if IntKind.u64 = IntKind.u64 ∧ (IntKind.u64.wrap (y * 2 ^ (min (IntKind.u64.wrap (r1.toInt)).toNat 64))).fdiv 4294967296 ≠ 0 then
 f253.l2a k (IntKind.u64.wrap (y * 2 ^ (min (IntKind.u64.wrap (r1.toInt)).toNat 64))) (IntKind.u64.wrap (r1.toInt)) ((IntKind.u64.wrap (y * 2 ^ (min (IntKind.u64.wrap (r1.toInt)).toNat 64))).fdiv 4294967296) (bits .and .u64 (IntKind.u64.wrap (y * 2 ^ (min (IntKind.u64.wrap (r1.toInt)).toNat 64))) 4294967295) (bits .or .u64 (IntKind.u64.wrap (hi * 2 ^ (min (IntKind.u64.wrap (r1.toInt)).toNat 64))) (lo.fdiv (2 ^ (min (IntKind.u64.wrap ((64 : Int) - (IntKind.u64.wrap (r1.toInt)))).toNat 64)))) ((IntKind.u64.wrap (lo * 2 ^ (min (IntKind.u64.wrap (r1.toInt)).toNat 64))).fdiv 4294967296) (bits .and .u64 (IntKind.u64.wrap (lo * 2 ^ (min (IntKind.u64.wrap (r1.toInt)).toNat 64))) 4294967295) (IntKind.u64.wrap ((bits .or .u64 (IntKind.u64.wrap (hi * 2 ^ (min (IntKind.u64.wrap (r1.toInt)).toNat 64))) (lo.fdiv (2 ^ (min (IntKind.u64.wrap ((64 : Int) - (IntKind.u64.wrap (r1.toInt)))).toNat 64)))).tdiv ((IntKind.u64.wrap (y * 2 ^ (min (IntKind.u64.wrap (r1.toInt)).toNat 64))).fdiv 4294967296))) (IntKind.u64.wrap ((bits .or .u64 (IntKind.u64.wrap (hi * 2 ^ (min (IntKind.u64.wrap (r1.toInt)).toNat 64))) (lo.fdiv (2 ^ (min (IntKind.u64.wrap ((64 : Int) - (IntKind.u64.wrap (r1.toInt)))).toNat 64)))) - (IntKind.u64.wrap ((IntKind.u64.wrap ((bits .or .u64 (IntKind.u64.wrap (hi * 2 ^ (min (IntKind.u64.wrap (r1.toInt)).toNat 64))) (lo.fdiv (2 ^ (min (IntKind.u64.wrap ((64 : Int) - (IntKind.u64.wrap (r1.toInt)))).toNat 64)))).tdiv ((IntKind.u64.wrap (y * 2 ^ (min (IntKind.u64.wrap (r1.toInt)).toNat 64))).fdiv 4294967296))) * ((IntKind.u64.wrap (y * 2 ^ (min (IntKind.u64.wrap (r1.toInt)).toNat 64))).fdiv 4294967296)))))
 else none
 else none
 else none
 else none
 else none
 else none :=
 (gateK_open _ _ _).trans (by kernel_rfl)
theorem f253.l2a_eq (k : Nat) (y s_ yn1 yn0 un32 un1 un0 q1 rhat : Int) : f253.l2a k y s_ yn1 yn0 un32 un1 un0 q1 rhat =
 Option.bind (α := PV) (
 if decide (q1 ≥ 4294967296) = true then
 some (.sc (.bool true))
 else
 some (.sc (.bool (decide ((IntKind.u64.wrap (q1 * yn0)) > (IntKind.u64.wrap ((IntKind.u64.wrap ((4294967296 : Int) * rhat)) + un1))))))) fun r2 =>
 if r2.toBool = true then
 if decide ((IntKind.u64.wrap (rhat + yn1)) ≥ 4294967296) = true then
 f253.j3a k y s_ yn1 yn0 un32 un1 un0 (IntKind.u64.wrap (q1 - 1))
 else
 f253.l2a k y s_ yn1 yn0 un32 un1 un0 (IntKind.u64.wrap (q1 - 1)) (IntKind.u64.wrap (rhat + yn1))
 else
 f253.j3a k y s_ yn1 yn0 un32 un1 un0 q1 :=
 (loopAt_eq _ _ _ _).trans (by kernel_rfl)
theorem f253.j3a_eq (k : Nat) (y s_ yn1 yn0 un32 un1 un0 q1 : Int) : f253.j3a k y s_ yn1 yn0 un32 un1 un0 q1 =
 if IntKind.u64 = IntKind.u64 ∧ yn1 ≠ 0 then
 f253.l4a k y s_ yn1 yn0 un0 q1 (IntKind.u64.wrap ((IntKind.u64.wrap ((IntKind.u64.wrap ((IntKind.u64.wrap (un32 * 4294967296)) + un1)) - (IntKind.u64.wrap (q1 * y)))) - (IntKind.u64.wrap ((IntKind.u64.wrap ((IntKind.u64.wrap ((IntKind.u64.wrap ((IntKind.u64.wrap (un32 * 4294967296)) + un1)) - (IntKind.u64.wrap (q1 * y)))).tdiv yn1)) * yn1)))) (IntKind.u64.wrap ((IntKind.u64.wrap ((IntKind.u64.wrap (un32 * 4294967296)) + un1)) - (IntKind.u64.wrap (q1 * y)))) (IntKind.u64.wrap ((IntKind.u64.wrap ((IntKind.u64.wrap ((IntKind.u64.wrap (un32 * 4294967296)) + un1)) - (IntKind.u64.wrap (q1 * y)))).tdiv yn1))
 else none :=
 (gateK_open _ _ _).trans (by kernel_rfl)
theorem f253.l4a_eq (k : Nat) (y s_ yn1 yn0 un0 q1 rhat un21 q0 : Int) : f253.l4a k y s_ yn1 yn0 un0 q1 rhat un21 q0 =
 Option.bind (α := PV) (
 if decide (q0 ≥ 4294967296) = true then
 some (.sc (.bool true))
 else
 some (.sc (.bool (decide ((IntKind.u64.wrap (q0 * yn0)) > (IntKind.u64.wrap ((IntKind.u64.wrap ((4294967296 : Int) * rhat)) + un0))))))) fun r3 =>
 if r3.toBool = true then
 if decide ((IntKind.u64.wrap (rhat + yn1)) ≥ 4294967296) = true then
 f253.j5a k y s_ un0 q1 un21 (IntKind.u64.wrap (q0 - 1))
 else
 f253.l4a k y s_ yn1 yn0 un0 q1 (IntKind.u64.wrap (rhat + yn1)) un21 (IntKind.u64.wrap (q0 - 1))
 else
 f253.j5a k y s_ un0 q1 un21 q0 :=
 (loopAt_eq _ _ _ _).trans (by kernel_rfl)
theorem f253.j5a_eq (k : Nat) (y s_ un0 q1 un21 q0 : Int) : f253.j5a k y s_ un0 q1 un21 q0 =
 if 0 ≤ s_ then
 some (.tup [.sc (.int .u64 (IntKind.u64.wrap ((IntKind.u64.wrap (q1 * 4294967296)) + q0))), .sc (.int .u64 ((IntKind.u64.wrap ((IntKind.u64.wrap ((IntKind.u64.wrap (un21 * 4294967296)) + un0)) - (IntKind.u64.wrap (q0 * y)))).fdiv (2 ^ (min s_.toNat 64))))])
 else none :=
 (gateK_open _ _ _).trans (by kernel_rfl)
-- math/bits.LeadingZeros64
theorem f268_eq (k : Nat) (x_ : Int) : D 268 [.sc (.int .u64 x_)] =
 (D 175 [.sc (.int .u64 x_)]).bind fun r1 => if hasSh (.int .i64) r1 = true then
 some (.sc (.int .i64 (IntKind.i64.wrap ((64 : Int) - r1.toInt))))
 else none :=
 (denI_eq k _ _).trans (by kernel_rfl)
-- math/bits.Len64
noncomputable def f175.j0a (k : Nat) (x_ n_ : Int) : Option PV := gateK k (placeAt Tryz.prog cf ext hint k 175 [1, 1]) ⟨([.sc (.int .u64 x_), .top, .sc (.int .i64 n_)] ++ tops 22 ([])), [], none⟩
noncomputable def f175.j1a (k : Nat) (x_ n_ : Int) : Option PV := gateK k (placeAt Tryz.prog cf ext hint k 175 [1, 1, 1]) ⟨([.sc (.int .u64 x_), .top, .sc (.int .i64 n_)] ++ tops 22 ([])), [], none⟩
theorem f175_eq (k : Nat) (x_ : Int) : D 175 [.sc (.int .u64 x_)] =
 if decide (x_ ≥ 4294967296) = true then
 f175.j0a k (x_.fdiv 4294967296) 32
 else
 f175.j0a k x_ 0 :=
 (denI_eq k _ _).trans (by kernel_rfl)
theorem f175.j0a_eq (k : Nat) (x_ n_ : Int) : f175.j0a k x_ n_ =
 if decide (x_ ≥ 65536) = true then
 f175.j1a k (x_.fdiv 65536) (IntKind.i64.wrap (n_ + 16))
 else
 f175.j1a k x_ n_ :=
 (gateK_open _ _ _).trans (by kernel_rfl)
theorem f175.j1a_eq (k : Nat) (x_ n_ : Int) : f175.j1a k x_ n_ =
 if decide (x_ ≥ 256) = true then
 if 0 ≤ IntKind.u8.wrap (x_.fdiv 256) then
 if IntKind.u8.wrap (x_.fdiv 256) < (256 : Int) then
 some (.sc (.int .i64 (IntKind.i64.wrap ((IntKind.i64.wrap (n_ + 8)) + (IntKind.i64.wrap (bt (⟨#[0, 1, 2, 2, 3, 3, 3, 3, 4, 4, 4, 4, 4, 4, 4, 4, 5, 5, 5, 5, 5, 5, 5, 5, 5, 5, 5, 5, 5, 5, 5, 5, 6, 6, 6, 6, 6, 6, 6, 6, 6, 6, 6, 6, 6, 6, 6, 6, 6, 6, 6, 6, 6, 6, 6, 6, 6, 6, 6, 6, 6, 6, 6, 6, 7, 7, 7, 7, 7, 7, 7, 7, 7, 7, 7, 7, 7, 7, 7, 7, 7, 7, 7, 7, 7, 7, 7, 7, 7, 7, 7, 7, 7, 7, 7, 7, 7, 7, 7, 7, 7, 7, 7, 7, 7, 7, 7, 7, 7, 7, 7, 7, 7, 7, 7, 7, 7, 7, 7, 7, 7, 7, 7, 7, 7, 7, 7, 7, 8, 8, 8, 8, 8, 8, 8, 8, 8, 8, 8, 8, 8, 8, 8, 8, 8, 8, 8, 8, 8, 8, 8, 8, 8, 8, 8, 8, 8, 8, 8, 8, 8, 8, 8, 8, 8, 8, 8, 8, 8, 8, 8, 8, 8, 8, 8, 8, 8, 8, 8, 8, 8, 8, 8, 8, 8, 8, 8, 8, 8, 8, 8, 8, 8, 8, 8, 8, 8, 8, 8, 8, 8, 8, 8, 8, 8, 8, 8, 8, 8, 8, 8, 8, 8, 8, 8, 8, 8, 8, 8, 8, 8, 8, 8, 8, 8, 8, 8, 8, 8, 8, 8, 8, 8, 8, 8, 8, 8, 8, 8, 8, 8, 8, 8, 8, 8, 8, 8, 8, 8, 8, 8, 8, 8, 8, 8, 8]⟩ : ByteArray) (IntKind.u8.wrap (x_.fdiv 256))))))))
 else none
 else none
 else
 if 0 ≤ IntKind.u8.wrap (x_) then
 if IntKind.u8.wrap (x_) < (256 : Int) then
 some (.sc (.int .i64 (IntKind.i64.wrap (n_ + (IntKind.i64.wrap (bt (⟨#[0, 1, 2, 2, 3, 3, 3, 3, 4, 4, 4, 4, 4, 4, 4, 4, 5, 5, 5, 5, 5, 5, 5, 5, 5, 5, 5, 5, 5, 5, 5, 5, 6, 6, 6, 6, 6, 6, 6, 6, 6, 6, 6, 6, 6, 6, 6, 6, 6, 6, 6, 6, 6, 6, 6, 6, 6, 6, 6, 6, 6, 6, 6, 6, 7, 7, 7, 7, 7, 7, 7, 7, 7, 7, 7, 7, 7, 7, 7, 7, 7, 7, 7, 7, 7, 7, 7, 7, 7, 7, 7, 7, 7, 7, 7, 7, 7, 7, 7, 7, 7, 7, 7, 7, 7, 7, 7, 7, 7, 7, 7, 7, 7, 7, 7, 7, 7, 7, 7, 7, 7, 7, 7, 7, 7, 7, 7, 7, 8, 8, 8, 8, 8, 8, 8, 8, 8, 8, 8, 8, 8, 8, 8, 8, 8, 8, 8, 8, 8, 8, 8, 8, 8, 8, 8, 8, 8, 8, 8, 8, 8, 8, 8, 8, 8, 8, 8, 8, 8, 8, 8, 8, 8, 8, 8, 8, 8, 8, 8, 8, 8, 8, 8, 8, 8, 8, 8, 8, 8, 8, 8, 8, 8, 8, 8, 8, 8, 8, 8, 8, 8, 8, 8, 8, 8, 8, 8, 8, 8, 8, 8, 8, 8, 8, 8, 8, 8, 8, 8, 8, 8, 8, 8, 8, 8, 8, 8, 8, 8, 8, 8, 8, 8, 8, 8, 8, 8, 8, 8, 8, 8, 8, 8, 8, 8, 8, 8, 8, 8, 8, 8, 8, 8, 8, 8, 8]⟩ : ByteArray) (IntKind.u8.wrap (x_))))))))
 else none
 else none :=
 (gateK_open _ _ _).trans (by kernel_rfl)
-- oculus/dec.Sign
theorem f254_eq (k : Nat) (x_ : Int) : D 254 [.sc (.int .i64 x_)] =
 if decide (x_ < 0) = true then
 some (.sc (.int .i64 (-1)))
 else
 if decide (x_ > 0) = true then
 some (.sc (.int .i64 1))
 else
 some (.sc (.int .i64 0)) :=
 (denI_eq k _ _).trans (by kernel_rfl)
-- oculus/dec.Add
theorem f228_eq (k : Nat) (a b : Int) : D 228 [.sc (.int .i64 a), .sc (.int .i64 b)] =
 (D 148 [.sc (.int .i64 a)]).bind fun r1 => if hasSh .bool r1 = true then
 Option.bind (α := PV) (
 if (!r1.toBool) = true then
 some (.sc (.bool true))
 else
 Option.bind (α := PV) (
 (D 148 [.sc (.int .i64 b)]).bind fun r2 => if hasSh .bool r2 = true then
 some (.sc (.bool (!r2.toBool)))
 else none) fun r3 =>
 some (.sc (.bool r3.toBool))) fun r4 =>
 Option.bind (α := PV) (
 if r4.toBool = true then
 some (.sc (.bool true))
 else
 Option.bind (α := PV) (
 (D 148 [.sc (.int .i64 (IntKind.i64.wrap (a + b)))]).bind fun r5 => if hasSh .bool r5 = true then
 some (.sc (.bool (!r5.toBool)))
 else none) fun r6 =>
 some (.sc (.bool r6.toBool))) fun r7 =>
 Option.bind (α := PV) (
 if r7.toBool = true then
 some (.sc (.bool true))
 else
 Option.bind (α := PV) (
 Option.bind (α := PV) (
 Option.bind (α := PV) (
 if decide (a > 0) = true then
 some (.sc (.bool (decide (b > 0))))
 else
 some (.sc (.bool false))) fun r8 =>
 Option.bind (α := PV) (
 Option.bind (α := PV) (
 if r8.toBool = true then
 some (.sc (.bool (decide ((IntKind.i64.wrap (a + b)) < 0))))
 else
 some (.sc (.bool false))) fun r9 =>
 some (.sc (.bool r9.toBool))) fun r10 =>
 some (.sc (.bool r10.toBool))) fun r11 =>
 some (.sc (.bool r11.toBool))) fun r12 =>
 some (.sc (.bool r12.toBool))) fun r13 =>
 Option.bind (α := PV) (
 if r13.toBool = true then
 some (.sc (.bool true))
 else
 Option.bind (α := PV) (
 Option.bind (α := PV) (
 Option.bind (α := PV) (
 if decide (a < 0) = true then
 some (.sc (.bool (decide (b < 0))))
 else
 some (.sc (.bool false))) fun r14 =>
 Option.bind (α := PV) (
 Option.bind (α := PV) (
 if r14.toBool = true then
 some (.sc (.bool (decide ((IntKind.i64.wrap (a + b)) ≥ 0))))
 else
 some (.sc (.bool false))) fun r15 =>
 some (.sc (.bool r15.toBool))) fun r16 =>
 some (.sc (.bool r16.toBool))) fun r17 =>
 some (.sc (.bool r17.toBool))) fun r18 =>
 some (.sc (.bool r18.toBool))) fun r19 =>
 if r19.toBool = true then
 some (.tup [.sc (.int .i64 0), .sc (.bool false)])
 else
 some (.tup [.sc (.int .i64 (IntKind.i64.wrap (a + b))), .sc (.bool true)])
 else none :=
 (denI_eq k _ _).trans (by kernel_rfl)
-- oculus/digits.put
theorem f205_eq (k : Nat) (x_ y : Int) (minus : Bool) : D 205 [.sc (.int .i64 x_), .sc (.int .i64 y), .sc (.bool minus)] =
 (D 229 [.sc (.int .i64 x_)]).bind fun r1 => if hasSh (.tup [(.int .i64), .bool]) r1 = true then
 (D 228 [.sc (.int .i64 ((cel 0 r1.parts).toInt)), .sc (.int .i64 y)]).bind fun r2 => if hasSh (.tup [(.int .i64), .bool]) r2 = true then
 Option.bind (α := PV) (
 if (!((cel 1 r1.parts).toBool)) = true then
 some (.sc (.bool true))
 else
 some (.sc (.bool (!((cel 1 r2.parts).toBool))))) fun r3 =>
 if r3.toBool = true then
 some (.tup [.sc (.int .i64 0), .sc (.bool false)])
 else
 if minus = true then
 (D 230 [.sc (.int .i64 ((cel 0 r2.parts).toInt))]).bind fun r4 => if hasSh (.tup [(.int .i64), .bool]) r4 = true then
 some (.tup [.sc (.int .i64 ((cel 0 r4.parts).toInt)), .sc (.bool ((cel 1 r4.parts).toBool))])
 else none
 else
 some (.tup [.sc (.int .i64 ((cel 0 r2.parts).toInt)), .sc (.bool true)])
 else none
 else none :=
 (denI_eq k _ _).trans (by kernel_rfl)
-- oculus/dec.Of
theorem f229_eq (k : Nat) (n_ : Int) : D 229 [.sc (.int .i64 n_)] =
 (D 227 [.sc (.int .i64 n_), .sc (.int .i64 10000), .sc (.int .i64 1)]).bind fun r1 => if hasSh (.tup [(.int .i64), .bool]) r1 = true then
 some (.tup [.sc (.int .i64 ((cel 0 r1.parts).toInt)), .sc (.bool ((cel 1 r1.parts).toBool))])
 else none :=
 (denI_eq k _ _).trans (by kernel_rfl)
-- oculus/dec.Neg
theorem f230_eq (k : Nat) (x_ : Int) : D 230 [.sc (.int .i64 x_)] =
 (D 148 [.sc (.int .i64 x_)]).bind fun r1 => if hasSh .bool r1 = true then
 if (!r1.toBool) = true then
 some (.tup [.sc (.int .i64 0), .sc (.bool false)])
 else
 some (.tup [.sc (.int .i64 (IntKind.i64.wrap (0 - x_))), .sc (.bool true)])
 else none :=
 (denI_eq k _ _).trans (by kernel_rfl)
-- oculus/lex.str
noncomputable def f129.l0a (k : Nat) (s_ : ByteArray) (i : Int) : Option PV := loopAt Tryz.prog cf ext hint k 129 [1, 1, 0, 1, 0] ⟨([.sc (.string s_), .top, .top, .top, .ptr 0 0, .sc (.int .i64 i)] ++ tops 40 ([])), [.cells 90 [.sc (.pointer none), .nils]], none⟩
noncomputable def f129.l0b (k : Nat) (s_ : ByteArray) (i : Int) (xs1 : List PV) : Option PV := loopAt Tryz.prog cf ext hint k 129 [1, 1, 0, 1, 0] ⟨([.sc (.string s_), .top, .top, .top, .ptr 0 0, .sc (.int .i64 i)] ++ tops 40 ([])), [.cells 90 [.selfp 0, .buf 1 0], .buf 5 0 xs1], none⟩
theorem f129_eq (k : Nat) (s_ : ByteArray) : D 129 [.sc (.string s_)] =
 f129.l0a k s_ 1 :=
 (denI_eq k _ _).trans (by kernel_rfl)
theorem f129.l0a_eq (k : Nat) (s_ : ByteArray) (i : Int) : f129.l0a k s_ i =
 if decide (i < (s_.size : Int)) = true then
 if 0 ≤ i then
 if i < (s_.size : Int) then
 (D 178 [.sc (.int .u8 (bt s_ i))]).bind fun r1 => if hasSh .bool r1 = true then
 if (!r1.toBool) = true then
 some (.tup [.sc (.string (⟨#[]⟩ : ByteArray)), .sc (.int .i64 0)])
 else
 if 0 ≤ i then
 if i < (s_.size : Int) then
 if ((bt s_ i) != 34) = true then
 if 0 ≤ i then
 if i < (s_.size : Int) then
 (D 102 [.hp [.iptr (.ptr 90 0 :: [.selfp 0, .buf 1 0]), .tup (.ptr 5 0 :: ([] : List PV))], .ptr 0 0, .sc (.int .u8 (bt s_ i))]).bind fun r2 => if (isHand r2 && (false || objsOk fo102 (handObjs r2)) && retOk Tryz.prog 6 [137] (handRet r2)) = true then
 f129.l0b k s_ (IntKind.i64.wrap (i + 1)) (hBuf 1 r2)
 else none
 else none
 else none
 else
 Option.bind (α := PV) (
 if decide ((IntKind.i64.wrap (i + 1)) < (s_.size : Int)) = true then
 Option.bind (α := PV) (
 Option.bind (α := PV) (
 Option.bind (α := PV) (
 if 0 ≤ IntKind.i64.wrap (i + 1) then
 if IntKind.i64.wrap (i + 1) < (s_.size : Int) then
 some (.sc (.bool ((bt s_ (IntKind.i64.wrap (i + 1))) == 34)))
 else none
 else none) fun r3 =>
 some (.sc (.bool r3.toBool))) fun r4 =>
 some (.sc (.bool r4.toBool))) fun r5 =>
 some (.sc (.bool r5.toBool))
 else
 some (.sc (.bool false))) fun r6 =>
 if r6.toBool = true then
 (D 102 [.hp [.iptr (.ptr 90 0 :: [.selfp 0, .buf 1 0]), .tup (.ptr 5 0 :: ([] : List PV))], .ptr 0 0, .sc (.int .u8 34)]).bind fun r7 => if (isHand r7 && (false || objsOk fo102 (handObjs r7)) && retOk Tryz.prog 6 [137] (handRet r7)) = true then
 f129.l0b k s_ (IntKind.i64.wrap ((IntKind.i64.wrap (i + 1)) + 1)) (hBuf 1 r7)
 else none
 else
 (D 53 [.hp [.iptr (.ptr 90 0 :: [.selfp 0, .buf 1 0]), .tup (.ptr 5 0 :: ([] : List PV))], .ptr 0 0]).bind fun r8 => if (isHand r8 && (true || objsOk fo53 (handObjs r8)) && retOk Tryz.prog 6 [9] (handRet r8)) = true then
 some (.tup [.sc (.string ((handRet r8).toStr)), .sc (.int .i64 (IntKind.i64.wrap (i + 1)))])
 else none
 else none
 else none
 else none
 else none
 else none
 else
 some (.tup [.sc (.string (⟨#[]⟩ : ByteArray)), .sc (.int .i64 0)]) :=
 (loopAt_eq _ _ _ _).trans (by kernel_rfl)
theorem f129.l0b_eq (k : Nat) (s_ : ByteArray) (i : Int) (xs1 : List PV) : f129.l0b k s_ i xs1 =
 if decide (i < (s_.size : Int)) = true then
 if 0 ≤ i then
 if i < (s_.size : Int) then
 (D 178 [.sc (.int .u8 (bt s_ i))]).bind fun r9 => if hasSh .bool r9 = true then
 if (!r9.toBool) = true then
 some (.tup [.sc (.string (⟨#[]⟩ : ByteArray)), .sc (.int .i64 0)])
 else
 if 0 ≤ i then
 if i < (s_.size : Int) then
 if ((bt s_ i) != 34) = true then
 if 0 ≤ i then
 if i < (s_.size : Int) then
 (D 102 [.hp [.iptr (.ptr 90 0 :: [.selfp 0, .buf 1 0]), .tup (.ptr 5 0 :: xs1)], .ptr 0 0, .sc (.int .u8 (bt s_ i))]).bind fun r10 => if (isHand r10 && (false || objsOk fo102 (handObjs r10)) && retOk Tryz.prog 6 [137] (handRet r10)) = true then
 f129.l0b k s_ (IntKind.i64.wrap (i + 1)) (hBuf 1 r10)
 else none
 else none
 else none
 else
 Option.bind (α := PV) (
 if decide ((IntKind.i64.wrap (i + 1)) < (s_.size : Int)) = true then
 Option.bind (α := PV) (
 Option.bind (α := PV) (
 Option.bind (α := PV) (
 if 0 ≤ IntKind.i64.wrap (i + 1) then
 if IntKind.i64.wrap (i + 1) < (s_.size : Int) then
 some (.sc (.bool ((bt s_ (IntKind.i64.wrap (i + 1))) == 34)))
 else none
 else none) fun r11 =>
 some (.sc (.bool r11.toBool))) fun r12 =>
 some (.sc (.bool r12.toBool))) fun r13 =>
 some (.sc (.bool r13.toBool))
 else
 some (.sc (.bool false))) fun r14 =>
 if r14.toBool = true then
 (D 102 [.hp [.iptr (.ptr 90 0 :: [.selfp 0, .buf 1 0]), .tup (.ptr 5 0 :: xs1)], .ptr 0 0, .sc (.int .u8 34)]).bind fun r15 => if (isHand r15 && (false || objsOk fo102 (handObjs r15)) && retOk Tryz.prog 6 [137] (handRet r15)) = true then
 f129.l0b k s_ (IntKind.i64.wrap ((IntKind.i64.wrap (i + 1)) + 1)) (hBuf 1 r15)
 else none
 else
 (D 53 [.hp [.iptr (.ptr 90 0 :: [.selfp 0, .buf 1 0]), .tup (.ptr 5 0 :: xs1)], .ptr 0 0]).bind fun r16 => if (isHand r16 && (true || objsOk fo53 (handObjs r16)) && retOk Tryz.prog 6 [9] (handRet r16)) = true then
 some (.tup [.sc (.string ((handRet r16).toStr)), .sc (.int .i64 (IntKind.i64.wrap (i + 1)))])
 else none
 else none
 else none
 else none
 else none
 else none
 else
 some (.tup [.sc (.string (⟨#[]⟩ : ByteArray)), .sc (.int .i64 0)]) :=
 (loopAt_eq _ _ _ _).trans (by kernel_rfl)
-- (*strings.Builder).WriteByte
theorem f102h_eq (k : Nat) (c : Int) (buf : List PV) : D 102 [.hp [.iptr (.ptr 90 0 :: [.selfp 0, .buf 1 0]), .tup (.ptr 5 0 :: buf)], .ptr 0 0, .sc (.int .u8 c)] =
 (D 147 [.hp [.iptr (.ptr 90 0 :: [.selfp 0, .buf 1 0]), .tup (.ptr 5 0 :: buf)], .ptr 0 0]).bind fun r1 => if (isHand r1 && (false || objsOk fo147 (handObjs r1)) && retOk Tryz.prog 6 [] (handRet r1)) = true then
 if ((hBuf 1 r1).length + ([.sc (.int .u8 c)] : List PV).length) * 1 ≤ 140737488355328 ∧ (hBuf 1 r1).length + ([.sc (.int .u8 c)] : List PV).length ≤ 140737488355328 then
 some (.tup [.hp [.iptr (.ptr 90 0 :: [.selfp 0, .buf 1 0]), .tup (.ptr 5 0 :: ((hBuf 1 r1) ++ ([.sc (.int .u8 c)] : List PV)))], .top])
 else none
 else none :=
 (denI_eq k _ _).trans (by kernel_rfl)
-- oculus/lex.plain
theorem f178_eq (k : Nat) (b : Int) : D 178 [.sc (.int .u8 b)] =
 Option.bind (α := PV) (
 if decide (b ≥ 32) = true then
 some (.sc (.bool (b != 127)))
 else
 some (.sc (.bool false))) fun r1 =>
 some (.sc (.bool r1.toBool)) :=
 (denI_eq k _ _).trans (by kernel_rfl)
-- oculus/lex.inWord
theorem f130_eq (k : Nat) (b : Int) (begins : Bool) : D 130 [.sc (.int .u8 b), .sc (.bool begins)] =
 Option.bind (α := PV) (
 if decide (b ≥ 65) = true then
 some (.sc (.bool (decide (b ≤ 90))))
 else
 some (.sc (.bool false))) fun r1 =>
 Option.bind (α := PV) (
 if r1.toBool = true then
 some (.sc (.bool true))
 else
 some (.sc (.bool (b == 36)))) fun r2 =>
 Option.bind (α := PV) (
 if r2.toBool = true then
 some (.sc (.bool true))
 else
 Option.bind (α := PV) (
 Option.bind (α := PV) (
 Option.bind (α := PV) (
 if (!begins) = true then
 some (.sc (.bool (decide (b ≥ 48))))
 else
 some (.sc (.bool false))) fun r3 =>
 Option.bind (α := PV) (
 Option.bind (α := PV) (
 if r3.toBool = true then
 some (.sc (.bool (decide (b ≤ 57))))
 else
 some (.sc (.bool false))) fun r4 =>
 some (.sc (.bool r4.toBool))) fun r5 =>
 some (.sc (.bool r5.toBool))) fun r6 =>
 some (.sc (.bool r6.toBool))) fun r7 =>
 some (.sc (.bool r7.toBool))) fun r8 =>
 some (.sc (.bool r8.toBool)) :=
 (denI_eq k _ _).trans (by kernel_rfl)
end ET
end Go.Den
