import Derived.Test.YtkhbkbkambflbaaGreatDoorETh
import Derived.KernelRfl
set_option maxRecDepth 100000
set_option linter.unusedVariables false
namespace Go.Den
open Go Go.Proofs
namespace ET
-- oculus/node.has
noncomputable def f81.l0a (k : Nat) (t25 t25_1 t25_2 t25_3 t25_4 : Bool) : Option PV := loopAt Tryz.prog cf ext hint k 81 [1, 1, 0, 1, 0] ⟨([.top, .top, .top, .sc (.int .u64 0)] ++ tops 21 ([.agg [.sc (.bool t25), .sc (.bool t25_1), .sc (.bool t25_2), .sc (.bool t25_3), .sc (.bool t25_4)], .sc (.int .i64 0)] ++ tops 10 ([]))), [], none⟩
noncomputable def f81.l0b (k : Nat) (t25 t25_1 t25_2 t25_3 t25_4 : Bool) : Option PV := loopAt Tryz.prog cf ext hint k 81 [1, 1, 0, 1, 0] ⟨([.top, .top, .top, .sc (.int .u64 1)] ++ tops 21 ([.agg [.sc (.bool t25), .sc (.bool t25_1), .sc (.bool t25_2), .sc (.bool t25_3), .sc (.bool t25_4)], .sc (.int .i64 1)] ++ tops 10 ([]))), [], none⟩
noncomputable def f81.l0c (k : Nat) (t25 t25_1 t25_2 t25_3 t25_4 : Bool) : Option PV := loopAt Tryz.prog cf ext hint k 81 [1, 1, 0, 1, 0] ⟨([.top, .top, .top, .sc (.int .u64 0)] ++ tops 21 ([.agg [.sc (.bool t25), .sc (.bool t25_1), .sc (.bool t25_2), .sc (.bool t25_3), .sc (.bool t25_4)], .sc (.int .i64 1)] ++ tops 10 ([]))), [], none⟩
noncomputable def f81.l0d (k : Nat) (t25 t25_1 t25_2 t25_3 t25_4 : Bool) : Option PV := loopAt Tryz.prog cf ext hint k 81 [1, 1, 0, 1, 0] ⟨([.top, .top, .top, .sc (.int .u64 3)] ++ tops 21 ([.agg [.sc (.bool t25), .sc (.bool t25_1), .sc (.bool t25_2), .sc (.bool t25_3), .sc (.bool t25_4)], .sc (.int .i64 2)] ++ tops 10 ([]))), [], none⟩
noncomputable def f81.l0e (k : Nat) (t25 t25_1 t25_2 t25_3 t25_4 : Bool) : Option PV := loopAt Tryz.prog cf ext hint k 81 [1, 1, 0, 1, 0] ⟨([.top, .top, .top, .sc (.int .u64 1)] ++ tops 21 ([.agg [.sc (.bool t25), .sc (.bool t25_1), .sc (.bool t25_2), .sc (.bool t25_3), .sc (.bool t25_4)], .sc (.int .i64 2)] ++ tops 10 ([]))), [], none⟩
noncomputable def f81.l0f (k : Nat) (t25 t25_1 t25_2 t25_3 t25_4 : Bool) : Option PV := loopAt Tryz.prog cf ext hint k 81 [1, 1, 0, 1, 0] ⟨([.top, .top, .top, .sc (.int .u64 2)] ++ tops 21 ([.agg [.sc (.bool t25), .sc (.bool t25_1), .sc (.bool t25_2), .sc (.bool t25_3), .sc (.bool t25_4)], .sc (.int .i64 2)] ++ tops 10 ([]))), [], none⟩
noncomputable def f81.l0g (k : Nat) (t25 t25_1 t25_2 t25_3 t25_4 : Bool) : Option PV := loopAt Tryz.prog cf ext hint k 81 [1, 1, 0, 1, 0] ⟨([.top, .top, .top, .sc (.int .u64 0)] ++ tops 21 ([.agg [.sc (.bool t25), .sc (.bool t25_1), .sc (.bool t25_2), .sc (.bool t25_3), .sc (.bool t25_4)], .sc (.int .i64 2)] ++ tops 10 ([]))), [], none⟩
noncomputable def f81.l0h (k : Nat) (t25 t25_1 t25_2 t25_3 t25_4 : Bool) : Option PV := loopAt Tryz.prog cf ext hint k 81 [1, 1, 0, 1, 0] ⟨([.top, .top, .top, .sc (.int .u64 7)] ++ tops 21 ([.agg [.sc (.bool t25), .sc (.bool t25_1), .sc (.bool t25_2), .sc (.bool t25_3), .sc (.bool t25_4)], .sc (.int .i64 3)] ++ tops 10 ([]))), [], none⟩
noncomputable def f81.l0i (k : Nat) (t25 t25_1 t25_2 t25_3 t25_4 : Bool) : Option PV := loopAt Tryz.prog cf ext hint k 81 [1, 1, 0, 1, 0] ⟨([.top, .top, .top, .sc (.int .u64 3)] ++ tops 21 ([.agg [.sc (.bool t25), .sc (.bool t25_1), .sc (.bool t25_2), .sc (.bool t25_3), .sc (.bool t25_4)], .sc (.int .i64 3)] ++ tops 10 ([]))), [], none⟩
noncomputable def f81.l0j (k : Nat) (t25 t25_1 t25_2 t25_3 t25_4 : Bool) : Option PV := loopAt Tryz.prog cf ext hint k 81 [1, 1, 0, 1, 0] ⟨([.top, .top, .top, .sc (.int .u64 5)] ++ tops 21 ([.agg [.sc (.bool t25), .sc (.bool t25_1), .sc (.bool t25_2), .sc (.bool t25_3), .sc (.bool t25_4)], .sc (.int .i64 3)] ++ tops 10 ([]))), [], none⟩
noncomputable def f81.l0k (k : Nat) (t25 t25_1 t25_2 t25_3 t25_4 : Bool) : Option PV := loopAt Tryz.prog cf ext hint k 81 [1, 1, 0, 1, 0] ⟨([.top, .top, .top, .sc (.int .u64 1)] ++ tops 21 ([.agg [.sc (.bool t25), .sc (.bool t25_1), .sc (.bool t25_2), .sc (.bool t25_3), .sc (.bool t25_4)], .sc (.int .i64 3)] ++ tops 10 ([]))), [], none⟩
noncomputable def f81.l0l (k : Nat) (t25 t25_1 t25_2 t25_3 t25_4 : Bool) : Option PV := loopAt Tryz.prog cf ext hint k 81 [1, 1, 0, 1, 0] ⟨([.top, .top, .top, .sc (.int .u64 6)] ++ tops 21 ([.agg [.sc (.bool t25), .sc (.bool t25_1), .sc (.bool t25_2), .sc (.bool t25_3), .sc (.bool t25_4)], .sc (.int .i64 3)] ++ tops 10 ([]))), [], none⟩
noncomputable def f81.l0m (k : Nat) (t25 t25_1 t25_2 t25_3 t25_4 : Bool) : Option PV := loopAt Tryz.prog cf ext hint k 81 [1, 1, 0, 1, 0] ⟨([.top, .top, .top, .sc (.int .u64 2)] ++ tops 21 ([.agg [.sc (.bool t25), .sc (.bool t25_1), .sc (.bool t25_2), .sc (.bool t25_3), .sc (.bool t25_4)], .sc (.int .i64 3)] ++ tops 10 ([]))), [], none⟩
noncomputable def f81.l0n (k : Nat) (t25 t25_1 t25_2 t25_3 t25_4 : Bool) : Option PV := loopAt Tryz.prog cf ext hint k 81 [1, 1, 0, 1, 0] ⟨([.top, .top, .top, .sc (.int .u64 4)] ++ tops 21 ([.agg [.sc (.bool t25), .sc (.bool t25_1), .sc (.bool t25_2), .sc (.bool t25_3), .sc (.bool t25_4)], .sc (.int .i64 3)] ++ tops 10 ([]))), [], none⟩
noncomputable def f81.l0o (k : Nat) (t25 t25_1 t25_2 t25_3 t25_4 : Bool) : Option PV := loopAt Tryz.prog cf ext hint k 81 [1, 1, 0, 1, 0] ⟨([.top, .top, .top, .sc (.int .u64 0)] ++ tops 21 ([.agg [.sc (.bool t25), .sc (.bool t25_1), .sc (.bool t25_2), .sc (.bool t25_3), .sc (.bool t25_4)], .sc (.int .i64 3)] ++ tops 10 ([]))), [], none⟩
noncomputable def f81.l0p (k : Nat) (t25 t25_1 t25_2 t25_3 t25_4 : Bool) : Option PV := loopAt Tryz.prog cf ext hint k 81 [1, 1, 0, 1, 0] ⟨([.top, .top, .top, .sc (.int .u64 15)] ++ tops 21 ([.agg [.sc (.bool t25), .sc (.bool t25_1), .sc (.bool t25_2), .sc (.bool t25_3), .sc (.bool t25_4)], .sc (.int .i64 4)] ++ tops 10 ([]))), [], none⟩
noncomputable def f81.l0z16z (k : Nat) (t25 t25_1 t25_2 t25_3 t25_4 : Bool) : Option PV := loopAt Tryz.prog cf ext hint k 81 [1, 1, 0, 1, 0] ⟨([.top, .top, .top, .sc (.int .u64 7)] ++ tops 21 ([.agg [.sc (.bool t25), .sc (.bool t25_1), .sc (.bool t25_2), .sc (.bool t25_3), .sc (.bool t25_4)], .sc (.int .i64 4)] ++ tops 10 ([]))), [], none⟩
noncomputable def f81.l0z17z (k : Nat) (t25 t25_1 t25_2 t25_3 t25_4 : Bool) : Option PV := loopAt Tryz.prog cf ext hint k 81 [1, 1, 0, 1, 0] ⟨([.top, .top, .top, .sc (.int .u64 11)] ++ tops 21 ([.agg [.sc (.bool t25), .sc (.bool t25_1), .sc (.bool t25_2), .sc (.bool t25_3), .sc (.bool t25_4)], .sc (.int .i64 4)] ++ tops 10 ([]))), [], none⟩
noncomputable def f81.l0z18z (k : Nat) (t25 t25_1 t25_2 t25_3 t25_4 : Bool) : Option PV := loopAt Tryz.prog cf ext hint k 81 [1, 1, 0, 1, 0] ⟨([.top, .top, .top, .sc (.int .u64 3)] ++ tops 21 ([.agg [.sc (.bool t25), .sc (.bool t25_1), .sc (.bool t25_2), .sc (.bool t25_3), .sc (.bool t25_4)], .sc (.int .i64 4)] ++ tops 10 ([]))), [], none⟩
noncomputable def f81.l0z19z (k : Nat) (t25 t25_1 t25_2 t25_3 t25_4 : Bool) : Option PV := loopAt Tryz.prog cf ext hint k 81 [1, 1, 0, 1, 0] ⟨([.top, .top, .top, .sc (.int .u64 13)] ++ tops 21 ([.agg [.sc (.bool t25), .sc (.bool t25_1), .sc (.bool t25_2), .sc (.bool t25_3), .sc (.bool t25_4)], .sc (.int .i64 4)] ++ tops 10 ([]))), [], none⟩
noncomputable def f81.l0z20z (k : Nat) (t25 t25_1 t25_2 t25_3 t25_4 : Bool) : Option PV := loopAt Tryz.prog cf ext hint k 81 [1, 1, 0, 1, 0] ⟨([.top, .top, .top, .sc (.int .u64 5)] ++ tops 21 ([.agg [.sc (.bool t25), .sc (.bool t25_1), .sc (.bool t25_2), .sc (.bool t25_3), .sc (.bool t25_4)], .sc (.int .i64 4)] ++ tops 10 ([]))), [], none⟩
noncomputable def f81.l0z21z (k : Nat) (t25 t25_1 t25_2 t25_3 t25_4 : Bool) : Option PV := loopAt Tryz.prog cf ext hint k 81 [1, 1, 0, 1, 0] ⟨([.top, .top, .top, .sc (.int .u64 9)] ++ tops 21 ([.agg [.sc (.bool t25), .sc (.bool t25_1), .sc (.bool t25_2), .sc (.bool t25_3), .sc (.bool t25_4)], .sc (.int .i64 4)] ++ tops 10 ([]))), [], none⟩
noncomputable def f81.l0z22z (k : Nat) (t25 t25_1 t25_2 t25_3 t25_4 : Bool) : Option PV := loopAt Tryz.prog cf ext hint k 81 [1, 1, 0, 1, 0] ⟨([.top, .top, .top, .sc (.int .u64 1)] ++ tops 21 ([.agg [.sc (.bool t25), .sc (.bool t25_1), .sc (.bool t25_2), .sc (.bool t25_3), .sc (.bool t25_4)], .sc (.int .i64 4)] ++ tops 10 ([]))), [], none⟩
noncomputable def f81.l0z23z (k : Nat) (t25 t25_1 t25_2 t25_3 t25_4 : Bool) : Option PV := loopAt Tryz.prog cf ext hint k 81 [1, 1, 0, 1, 0] ⟨([.top, .top, .top, .sc (.int .u64 14)] ++ tops 21 ([.agg [.sc (.bool t25), .sc (.bool t25_1), .sc (.bool t25_2), .sc (.bool t25_3), .sc (.bool t25_4)], .sc (.int .i64 4)] ++ tops 10 ([]))), [], none⟩
noncomputable def f81.l0z24z (k : Nat) (t25 t25_1 t25_2 t25_3 t25_4 : Bool) : Option PV := loopAt Tryz.prog cf ext hint k 81 [1, 1, 0, 1, 0] ⟨([.top, .top, .top, .sc (.int .u64 6)] ++ tops 21 ([.agg [.sc (.bool t25), .sc (.bool t25_1), .sc (.bool t25_2), .sc (.bool t25_3), .sc (.bool t25_4)], .sc (.int .i64 4)] ++ tops 10 ([]))), [], none⟩
noncomputable def f81.l0z25z (k : Nat) (t25 t25_1 t25_2 t25_3 t25_4 : Bool) : Option PV := loopAt Tryz.prog cf ext hint k 81 [1, 1, 0, 1, 0] ⟨([.top, .top, .top, .sc (.int .u64 10)] ++ tops 21 ([.agg [.sc (.bool t25), .sc (.bool t25_1), .sc (.bool t25_2), .sc (.bool t25_3), .sc (.bool t25_4)], .sc (.int .i64 4)] ++ tops 10 ([]))), [], none⟩
noncomputable def f81.l0z26z (k : Nat) (t25 t25_1 t25_2 t25_3 t25_4 : Bool) : Option PV := loopAt Tryz.prog cf ext hint k 81 [1, 1, 0, 1, 0] ⟨([.top, .top, .top, .sc (.int .u64 2)] ++ tops 21 ([.agg [.sc (.bool t25), .sc (.bool t25_1), .sc (.bool t25_2), .sc (.bool t25_3), .sc (.bool t25_4)], .sc (.int .i64 4)] ++ tops 10 ([]))), [], none⟩
noncomputable def f81.l0z27z (k : Nat) (t25 t25_1 t25_2 t25_3 t25_4 : Bool) : Option PV := loopAt Tryz.prog cf ext hint k 81 [1, 1, 0, 1, 0] ⟨([.top, .top, .top, .sc (.int .u64 12)] ++ tops 21 ([.agg [.sc (.bool t25), .sc (.bool t25_1), .sc (.bool t25_2), .sc (.bool t25_3), .sc (.bool t25_4)], .sc (.int .i64 4)] ++ tops 10 ([]))), [], none⟩
noncomputable def f81.l0z28z (k : Nat) (t25 t25_1 t25_2 t25_3 t25_4 : Bool) : Option PV := loopAt Tryz.prog cf ext hint k 81 [1, 1, 0, 1, 0] ⟨([.top, .top, .top, .sc (.int .u64 4)] ++ tops 21 ([.agg [.sc (.bool t25), .sc (.bool t25_1), .sc (.bool t25_2), .sc (.bool t25_3), .sc (.bool t25_4)], .sc (.int .i64 4)] ++ tops 10 ([]))), [], none⟩
noncomputable def f81.l0z29z (k : Nat) (t25 t25_1 t25_2 t25_3 t25_4 : Bool) : Option PV := loopAt Tryz.prog cf ext hint k 81 [1, 1, 0, 1, 0] ⟨([.top, .top, .top, .sc (.int .u64 8)] ++ tops 21 ([.agg [.sc (.bool t25), .sc (.bool t25_1), .sc (.bool t25_2), .sc (.bool t25_3), .sc (.bool t25_4)], .sc (.int .i64 4)] ++ tops 10 ([]))), [], none⟩
noncomputable def f81.l0z30z (k : Nat) (t25 t25_1 t25_2 t25_3 t25_4 : Bool) : Option PV := loopAt Tryz.prog cf ext hint k 81 [1, 1, 0, 1, 0] ⟨([.top, .top, .top, .sc (.int .u64 0)] ++ tops 21 ([.agg [.sc (.bool t25), .sc (.bool t25_1), .sc (.bool t25_2), .sc (.bool t25_3), .sc (.bool t25_4)], .sc (.int .i64 4)] ++ tops 10 ([]))), [], none⟩
noncomputable def f81.l0z31z (k : Nat) (t25 t25_1 t25_2 t25_3 t25_4 : Bool) : Option PV := loopAt Tryz.prog cf ext hint k 81 [1, 1, 0, 1, 0] ⟨([.top, .top, .top, .sc (.int .u64 31)] ++ tops 21 ([.agg [.sc (.bool t25), .sc (.bool t25_1), .sc (.bool t25_2), .sc (.bool t25_3), .sc (.bool t25_4)], .sc (.int .i64 5)] ++ tops 10 ([]))), [], none⟩
noncomputable def f81.l0z32z (k : Nat) (t25 t25_1 t25_2 t25_3 t25_4 : Bool) : Option PV := loopAt Tryz.prog cf ext hint k 81 [1, 1, 0, 1, 0] ⟨([.top, .top, .top, .sc (.int .u64 15)] ++ tops 21 ([.agg [.sc (.bool t25), .sc (.bool t25_1), .sc (.bool t25_2), .sc (.bool t25_3), .sc (.bool t25_4)], .sc (.int .i64 5)] ++ tops 10 ([]))), [], none⟩
noncomputable def f81.l0z33z (k : Nat) (t25 t25_1 t25_2 t25_3 t25_4 : Bool) : Option PV := loopAt Tryz.prog cf ext hint k 81 [1, 1, 0, 1, 0] ⟨([.top, .top, .top, .sc (.int .u64 23)] ++ tops 21 ([.agg [.sc (.bool t25), .sc (.bool t25_1), .sc (.bool t25_2), .sc (.bool t25_3), .sc (.bool t25_4)], .sc (.int .i64 5)] ++ tops 10 ([]))), [], none⟩
noncomputable def f81.l0z34z (k : Nat) (t25 t25_1 t25_2 t25_3 t25_4 : Bool) : Option PV := loopAt Tryz.prog cf ext hint k 81 [1, 1, 0, 1, 0] ⟨([.top, .top, .top, .sc (.int .u64 7)] ++ tops 21 ([.agg [.sc (.bool t25), .sc (.bool t25_1), .sc (.bool t25_2), .sc (.bool t25_3), .sc (.bool t25_4)], .sc (.int .i64 5)] ++ tops 10 ([]))), [], none⟩
noncomputable def f81.l0z35z (k : Nat) (t25 t25_1 t25_2 t25_3 t25_4 : Bool) : Option PV := loopAt Tryz.prog cf ext hint k 81 [1, 1, 0, 1, 0] ⟨([.top, .top, .top, .sc (.int .u64 27)] ++ tops 21 ([.agg [.sc (.bool t25), .sc (.bool t25_1), .sc (.bool t25_2), .sc (.bool t25_3), .sc (.bool t25_4)], .sc (.int .i64 5)] ++ tops 10 ([]))), [], none⟩
noncomputable def f81.l0z36z (k : Nat) (t25 t25_1 t25_2 t25_3 t25_4 : Bool) : Option PV := loopAt Tryz.prog cf ext hint k 81 [1, 1, 0, 1, 0] ⟨([.top, .top, .top, .sc (.int .u64 11)] ++ tops 21 ([.agg [.sc (.bool t25), .sc (.bool t25_1), .sc (.bool t25_2), .sc (.bool t25_3), .sc (.bool t25_4)], .sc (.int .i64 5)] ++ tops 10 ([]))), [], none⟩
noncomputable def f81.l0z37z (k : Nat) (t25 t25_1 t25_2 t25_3 t25_4 : Bool) : Option PV := loopAt Tryz.prog cf ext hint k 81 [1, 1, 0, 1, 0] ⟨([.top, .top, .top, .sc (.int .u64 19)] ++ tops 21 ([.agg [.sc (.bool t25), .sc (.bool t25_1), .sc (.bool t25_2), .sc (.bool t25_3), .sc (.bool t25_4)], .sc (.int .i64 5)] ++ tops 10 ([]))), [], none⟩
noncomputable def f81.l0z38z (k : Nat) (t25 t25_1 t25_2 t25_3 t25_4 : Bool) : Option PV := loopAt Tryz.prog cf ext hint k 81 [1, 1, 0, 1, 0] ⟨([.top, .top, .top, .sc (.int .u64 3)] ++ tops 21 ([.agg [.sc (.bool t25), .sc (.bool t25_1), .sc (.bool t25_2), .sc (.bool t25_3), .sc (.bool t25_4)], .sc (.int .i64 5)] ++ tops 10 ([]))), [], none⟩
noncomputable def f81.l0z39z (k : Nat) (t25 t25_1 t25_2 t25_3 t25_4 : Bool) : Option PV := loopAt Tryz.prog cf ext hint k 81 [1, 1, 0, 1, 0] ⟨([.top, .top, .top, .sc (.int .u64 29)] ++ tops 21 ([.agg [.sc (.bool t25), .sc (.bool t25_1), .sc (.bool t25_2), .sc (.bool t25_3), .sc (.bool t25_4)], .sc (.int .i64 5)] ++ tops 10 ([]))), [], none⟩
noncomputable def f81.l0z40z (k : Nat) (t25 t25_1 t25_2 t25_3 t25_4 : Bool) : Option PV := loopAt Tryz.prog cf ext hint k 81 [1, 1, 0, 1, 0] ⟨([.top, .top, .top, .sc (.int .u64 13)] ++ tops 21 ([.agg [.sc (.bool t25), .sc (.bool t25_1), .sc (.bool t25_2), .sc (.bool t25_3), .sc (.bool t25_4)], .sc (.int .i64 5)] ++ tops 10 ([]))), [], none⟩
noncomputable def f81.l0z41z (k : Nat) (t25 t25_1 t25_2 t25_3 t25_4 : Bool) : Option PV := loopAt Tryz.prog cf ext hint k 81 [1, 1, 0, 1, 0] ⟨([.top, .top, .top, .sc (.int .u64 21)] ++ tops 21 ([.agg [.sc (.bool t25), .sc (.bool t25_1), .sc (.bool t25_2), .sc (.bool t25_3), .sc (.bool t25_4)], .sc (.int .i64 5)] ++ tops 10 ([]))), [], none⟩
noncomputable def f81.l0z42z (k : Nat) (t25 t25_1 t25_2 t25_3 t25_4 : Bool) : Option PV := loopAt Tryz.prog cf ext hint k 81 [1, 1, 0, 1, 0] ⟨([.top, .top, .top, .sc (.int .u64 5)] ++ tops 21 ([.agg [.sc (.bool t25), .sc (.bool t25_1), .sc (.bool t25_2), .sc (.bool t25_3), .sc (.bool t25_4)], .sc (.int .i64 5)] ++ tops 10 ([]))), [], none⟩
noncomputable def f81.l0z43z (k : Nat) (t25 t25_1 t25_2 t25_3 t25_4 : Bool) : Option PV := loopAt Tryz.prog cf ext hint k 81 [1, 1, 0, 1, 0] ⟨([.top, .top, .top, .sc (.int .u64 25)] ++ tops 21 ([.agg [.sc (.bool t25), .sc (.bool t25_1), .sc (.bool t25_2), .sc (.bool t25_3), .sc (.bool t25_4)], .sc (.int .i64 5)] ++ tops 10 ([]))), [], none⟩
noncomputable def f81.l0z44z (k : Nat) (t25 t25_1 t25_2 t25_3 t25_4 : Bool) : Option PV := loopAt Tryz.prog cf ext hint k 81 [1, 1, 0, 1, 0] ⟨([.top, .top, .top, .sc (.int .u64 9)] ++ tops 21 ([.agg [.sc (.bool t25), .sc (.bool t25_1), .sc (.bool t25_2), .sc (.bool t25_3), .sc (.bool t25_4)], .sc (.int .i64 5)] ++ tops 10 ([]))), [], none⟩
noncomputable def f81.l0z45z (k : Nat) (t25 t25_1 t25_2 t25_3 t25_4 : Bool) : Option PV := loopAt Tryz.prog cf ext hint k 81 [1, 1, 0, 1, 0] ⟨([.top, .top, .top, .sc (.int .u64 17)] ++ tops 21 ([.agg [.sc (.bool t25), .sc (.bool t25_1), .sc (.bool t25_2), .sc (.bool t25_3), .sc (.bool t25_4)], .sc (.int .i64 5)] ++ tops 10 ([]))), [], none⟩
noncomputable def f81.l0z46z (k : Nat) (t25 t25_1 t25_2 t25_3 t25_4 : Bool) : Option PV := loopAt Tryz.prog cf ext hint k 81 [1, 1, 0, 1, 0] ⟨([.top, .top, .top, .sc (.int .u64 1)] ++ tops 21 ([.agg [.sc (.bool t25), .sc (.bool t25_1), .sc (.bool t25_2), .sc (.bool t25_3), .sc (.bool t25_4)], .sc (.int .i64 5)] ++ tops 10 ([]))), [], none⟩
noncomputable def f81.l0z47z (k : Nat) (t25 t25_1 t25_2 t25_3 t25_4 : Bool) : Option PV := loopAt Tryz.prog cf ext hint k 81 [1, 1, 0, 1, 0] ⟨([.top, .top, .top, .sc (.int .u64 30)] ++ tops 21 ([.agg [.sc (.bool t25), .sc (.bool t25_1), .sc (.bool t25_2), .sc (.bool t25_3), .sc (.bool t25_4)], .sc (.int .i64 5)] ++ tops 10 ([]))), [], none⟩
noncomputable def f81.l0z48z (k : Nat) (t25 t25_1 t25_2 t25_3 t25_4 : Bool) : Option PV := loopAt Tryz.prog cf ext hint k 81 [1, 1, 0, 1, 0] ⟨([.top, .top, .top, .sc (.int .u64 14)] ++ tops 21 ([.agg [.sc (.bool t25), .sc (.bool t25_1), .sc (.bool t25_2), .sc (.bool t25_3), .sc (.bool t25_4)], .sc (.int .i64 5)] ++ tops 10 ([]))), [], none⟩
noncomputable def f81.l0z49z (k : Nat) (t25 t25_1 t25_2 t25_3 t25_4 : Bool) : Option PV := loopAt Tryz.prog cf ext hint k 81 [1, 1, 0, 1, 0] ⟨([.top, .top, .top, .sc (.int .u64 22)] ++ tops 21 ([.agg [.sc (.bool t25), .sc (.bool t25_1), .sc (.bool t25_2), .sc (.bool t25_3), .sc (.bool t25_4)], .sc (.int .i64 5)] ++ tops 10 ([]))), [], none⟩
noncomputable def f81.l0z50z (k : Nat) (t25 t25_1 t25_2 t25_3 t25_4 : Bool) : Option PV := loopAt Tryz.prog cf ext hint k 81 [1, 1, 0, 1, 0] ⟨([.top, .top, .top, .sc (.int .u64 6)] ++ tops 21 ([.agg [.sc (.bool t25), .sc (.bool t25_1), .sc (.bool t25_2), .sc (.bool t25_3), .sc (.bool t25_4)], .sc (.int .i64 5)] ++ tops 10 ([]))), [], none⟩
noncomputable def f81.l0z51z (k : Nat) (t25 t25_1 t25_2 t25_3 t25_4 : Bool) : Option PV := loopAt Tryz.prog cf ext hint k 81 [1, 1, 0, 1, 0] ⟨([.top, .top, .top, .sc (.int .u64 26)] ++ tops 21 ([.agg [.sc (.bool t25), .sc (.bool t25_1), .sc (.bool t25_2), .sc (.bool t25_3), .sc (.bool t25_4)], .sc (.int .i64 5)] ++ tops 10 ([]))), [], none⟩
noncomputable def f81.l0z52z (k : Nat) (t25 t25_1 t25_2 t25_3 t25_4 : Bool) : Option PV := loopAt Tryz.prog cf ext hint k 81 [1, 1, 0, 1, 0] ⟨([.top, .top, .top, .sc (.int .u64 10)] ++ tops 21 ([.agg [.sc (.bool t25), .sc (.bool t25_1), .sc (.bool t25_2), .sc (.bool t25_3), .sc (.bool t25_4)], .sc (.int .i64 5)] ++ tops 10 ([]))), [], none⟩
noncomputable def f81.l0z53z (k : Nat) (t25 t25_1 t25_2 t25_3 t25_4 : Bool) : Option PV := loopAt Tryz.prog cf ext hint k 81 [1, 1, 0, 1, 0] ⟨([.top, .top, .top, .sc (.int .u64 18)] ++ tops 21 ([.agg [.sc (.bool t25), .sc (.bool t25_1), .sc (.bool t25_2), .sc (.bool t25_3), .sc (.bool t25_4)], .sc (.int .i64 5)] ++ tops 10 ([]))), [], none⟩
noncomputable def f81.l0z54z (k : Nat) (t25 t25_1 t25_2 t25_3 t25_4 : Bool) : Option PV := loopAt Tryz.prog cf ext hint k 81 [1, 1, 0, 1, 0] ⟨([.top, .top, .top, .sc (.int .u64 2)] ++ tops 21 ([.agg [.sc (.bool t25), .sc (.bool t25_1), .sc (.bool t25_2), .sc (.bool t25_3), .sc (.bool t25_4)], .sc (.int .i64 5)] ++ tops 10 ([]))), [], none⟩
noncomputable def f81.l0z55z (k : Nat) (t25 t25_1 t25_2 t25_3 t25_4 : Bool) : Option PV := loopAt Tryz.prog cf ext hint k 81 [1, 1, 0, 1, 0] ⟨([.top, .top, .top, .sc (.int .u64 28)] ++ tops 21 ([.agg [.sc (.bool t25), .sc (.bool t25_1), .sc (.bool t25_2), .sc (.bool t25_3), .sc (.bool t25_4)], .sc (.int .i64 5)] ++ tops 10 ([]))), [], none⟩
noncomputable def f81.l0z56z (k : Nat) (t25 t25_1 t25_2 t25_3 t25_4 : Bool) : Option PV := loopAt Tryz.prog cf ext hint k 81 [1, 1, 0, 1, 0] ⟨([.top, .top, .top, .sc (.int .u64 12)] ++ tops 21 ([.agg [.sc (.bool t25), .sc (.bool t25_1), .sc (.bool t25_2), .sc (.bool t25_3), .sc (.bool t25_4)], .sc (.int .i64 5)] ++ tops 10 ([]))), [], none⟩
noncomputable def f81.l0z57z (k : Nat) (t25 t25_1 t25_2 t25_3 t25_4 : Bool) : Option PV := loopAt Tryz.prog cf ext hint k 81 [1, 1, 0, 1, 0] ⟨([.top, .top, .top, .sc (.int .u64 20)] ++ tops 21 ([.agg [.sc (.bool t25), .sc (.bool t25_1), .sc (.bool t25_2), .sc (.bool t25_3), .sc (.bool t25_4)], .sc (.int .i64 5)] ++ tops 10 ([]))), [], none⟩
noncomputable def f81.l0z58z (k : Nat) (t25 t25_1 t25_2 t25_3 t25_4 : Bool) : Option PV := loopAt Tryz.prog cf ext hint k 81 [1, 1, 0, 1, 0] ⟨([.top, .top, .top, .sc (.int .u64 4)] ++ tops 21 ([.agg [.sc (.bool t25), .sc (.bool t25_1), .sc (.bool t25_2), .sc (.bool t25_3), .sc (.bool t25_4)], .sc (.int .i64 5)] ++ tops 10 ([]))), [], none⟩
noncomputable def f81.l0z59z (k : Nat) (t25 t25_1 t25_2 t25_3 t25_4 : Bool) : Option PV := loopAt Tryz.prog cf ext hint k 81 [1, 1, 0, 1, 0] ⟨([.top, .top, .top, .sc (.int .u64 24)] ++ tops 21 ([.agg [.sc (.bool t25), .sc (.bool t25_1), .sc (.bool t25_2), .sc (.bool t25_3), .sc (.bool t25_4)], .sc (.int .i64 5)] ++ tops 10 ([]))), [], none⟩
noncomputable def f81.l0z60z (k : Nat) (t25 t25_1 t25_2 t25_3 t25_4 : Bool) : Option PV := loopAt Tryz.prog cf ext hint k 81 [1, 1, 0, 1, 0] ⟨([.top, .top, .top, .sc (.int .u64 8)] ++ tops 21 ([.agg [.sc (.bool t25), .sc (.bool t25_1), .sc (.bool t25_2), .sc (.bool t25_3), .sc (.bool t25_4)], .sc (.int .i64 5)] ++ tops 10 ([]))), [], none⟩
noncomputable def f81.l0z61z (k : Nat) (t25 t25_1 t25_2 t25_3 t25_4 : Bool) : Option PV := loopAt Tryz.prog cf ext hint k 81 [1, 1, 0, 1, 0] ⟨([.top, .top, .top, .sc (.int .u64 16)] ++ tops 21 ([.agg [.sc (.bool t25), .sc (.bool t25_1), .sc (.bool t25_2), .sc (.bool t25_3), .sc (.bool t25_4)], .sc (.int .i64 5)] ++ tops 10 ([]))), [], none⟩
noncomputable def f81.l0z62z (k : Nat) (t25 t25_1 t25_2 t25_3 t25_4 : Bool) : Option PV := loopAt Tryz.prog cf ext hint k 81 [1, 1, 0, 1, 0] ⟨([.top, .top, .top, .sc (.int .u64 0)] ++ tops 21 ([.agg [.sc (.bool t25), .sc (.bool t25_1), .sc (.bool t25_2), .sc (.bool t25_3), .sc (.bool t25_4)], .sc (.int .i64 5)] ++ tops 10 ([]))), [], none⟩
theorem f81_eq (k : Nat) (n_ n__1 n__2 n__3 : Int) (n__4 : ByteArray) (n__5 n__6 : Int) (n__7 n__8 : Bool) (n__9 n__10 : Int) (n__11 n__12 : Bool) (nn : Nat) (nf : Nat → PV) : D 81 [.agg [.sc (.int .i64 n_), .sc (.int .i64 n__1), .sc (.int .i64 n__2), .sc (.int .i64 n__3), .sc (.string n__4), .sc (.int .i64 n__5), .sc (.int .i64 n__6), .sc (.bool n__7), .sc (.bool n__8), .sc (.int .i64 n__9), .sc (.int .i64 n__10), .sc (.bool n__11), .sc (.bool n__12), .lst 14 nn nf]] =
 f81.l0a k (n__1 != 0) (!((n__2 == 0) && ((n__3 == 0) && ((n__4.toList == (⟨#[]⟩ : ByteArray).toList) && true)))) (!((n__5 == 0) && ((n__6 == 0) && ((n__7 == false) && ((n__8 == false) && true))))) (!((n__9 == 0) && ((n__10 == 0) && ((n__11 == false) && ((n__12 == false) && true))))) (decide ((nn : Int) > 0)) :=
 (denI_eq k _ _).trans (by kernel_rfl)
theorem f81.l0a_eq (k : Nat) (t25 t25_1 t25_2 t25_3 t25_4 : Bool) : f81.l0a k t25 t25_1 t25_2 t25_3 t25_4 =
 if t25 = true then
 f81.l0b k t25 t25_1 t25_2 t25_3 t25_4
 else
 f81.l0c k t25 t25_1 t25_2 t25_3 t25_4 :=
 (loopAt_eq _ _ _ _).trans (by kernel_rfl)
theorem f81.l0b_eq (k : Nat) (t25 t25_1 t25_2 t25_3 t25_4 : Bool) : f81.l0b k t25 t25_1 t25_2 t25_3 t25_4 =
 if t25_1 = true then
 f81.l0d k t25 t25_1 t25_2 t25_3 t25_4
 else
 f81.l0e k t25 t25_1 t25_2 t25_3 t25_4 :=
 (loopAt_eq _ _ _ _).trans (by kernel_rfl)
theorem f81.l0c_eq (k : Nat) (t25 t25_1 t25_2 t25_3 t25_4 : Bool) : f81.l0c k t25 t25_1 t25_2 t25_3 t25_4 =
 if t25_1 = true then
 f81.l0f k t25 t25_1 t25_2 t25_3 t25_4
 else
 f81.l0g k t25 t25_1 t25_2 t25_3 t25_4 :=
 (loopAt_eq _ _ _ _).trans (by kernel_rfl)
theorem f81.l0d_eq (k : Nat) (t25 t25_1 t25_2 t25_3 t25_4 : Bool) : f81.l0d k t25 t25_1 t25_2 t25_3 t25_4 =
 if t25_2 = true then
 f81.l0h k t25 t25_1 t25_2 t25_3 t25_4
 else
 f81.l0i k t25 t25_1 t25_2 t25_3 t25_4 :=
 (loopAt_eq _ _ _ _).trans (by kernel_rfl)
theorem f81.l0e_eq (k : Nat) (t25 t25_1 t25_2 t25_3 t25_4 : Bool) : f81.l0e k t25 t25_1 t25_2 t25_3 t25_4 =
 if t25_2 = true then
 f81.l0j k t25 t25_1 t25_2 t25_3 t25_4
 else
 f81.l0k k t25 t25_1 t25_2 t25_3 t25_4 :=
 (loopAt_eq _ _ _ _).trans (by kernel_rfl)
theorem f81.l0f_eq (k : Nat) (t25 t25_1 t25_2 t25_3 t25_4 : Bool) : f81.l0f k t25 t25_1 t25_2 t25_3 t25_4 =
 if t25_2 = true then
 f81.l0l k t25 t25_1 t25_2 t25_3 t25_4
 else
 f81.l0m k t25 t25_1 t25_2 t25_3 t25_4 :=
 (loopAt_eq _ _ _ _).trans (by kernel_rfl)
theorem f81.l0g_eq (k : Nat) (t25 t25_1 t25_2 t25_3 t25_4 : Bool) : f81.l0g k t25 t25_1 t25_2 t25_3 t25_4 =
 if t25_2 = true then
 f81.l0n k t25 t25_1 t25_2 t25_3 t25_4
 else
 f81.l0o k t25 t25_1 t25_2 t25_3 t25_4 :=
 (loopAt_eq _ _ _ _).trans (by kernel_rfl)
theorem f81.l0h_eq (k : Nat) (t25 t25_1 t25_2 t25_3 t25_4 : Bool) : f81.l0h k t25 t25_1 t25_2 t25_3 t25_4 =
 if t25_3 = true then
 f81.l0p k t25 t25_1 t25_2 t25_3 t25_4
 else
 f81.l0z16z k t25 t25_1 t25_2 t25_3 t25_4 :=
 (loopAt_eq _ _ _ _).trans (by kernel_rfl)
theorem f81.l0i_eq (k : Nat) (t25 t25_1 t25_2 t25_3 t25_4 : Bool) : f81.l0i k t25 t25_1 t25_2 t25_3 t25_4 =
 if t25_3 = true then
 f81.l0z17z k t25 t25_1 t25_2 t25_3 t25_4
 else
 f81.l0z18z k t25 t25_1 t25_2 t25_3 t25_4 :=
 (loopAt_eq _ _ _ _).trans (by kernel_rfl)
theorem f81.l0j_eq (k : Nat) (t25 t25_1 t25_2 t25_3 t25_4 : Bool) : f81.l0j k t25 t25_1 t25_2 t25_3 t25_4 =
 if t25_3 = true then
 f81.l0z19z k t25 t25_1 t25_2 t25_3 t25_4
 else
 f81.l0z20z k t25 t25_1 t25_2 t25_3 t25_4 :=
 (loopAt_eq _ _ _ _).trans (by kernel_rfl)
theorem f81.l0k_eq (k : Nat) (t25 t25_1 t25_2 t25_3 t25_4 : Bool) : f81.l0k k t25 t25_1 t25_2 t25_3 t25_4 =
 if t25_3 = true then
 f81.l0z21z k t25 t25_1 t25_2 t25_3 t25_4
 else
 f81.l0z22z k t25 t25_1 t25_2 t25_3 t25_4 :=
 (loopAt_eq _ _ _ _).trans (by kernel_rfl)
theorem f81.l0l_eq (k : Nat) (t25 t25_1 t25_2 t25_3 t25_4 : Bool) : f81.l0l k t25 t25_1 t25_2 t25_3 t25_4 =
 if t25_3 = true then
 f81.l0z23z k t25 t25_1 t25_2 t25_3 t25_4
 else
 f81.l0z24z k t25 t25_1 t25_2 t25_3 t25_4 :=
 (loopAt_eq _ _ _ _).trans (by kernel_rfl)
theorem f81.l0m_eq (k : Nat) (t25 t25_1 t25_2 t25_3 t25_4 : Bool) : f81.l0m k t25 t25_1 t25_2 t25_3 t25_4 =
 if t25_3 = true then
 f81.l0z25z k t25 t25_1 t25_2 t25_3 t25_4
 else
 f81.l0z26z k t25 t25_1 t25_2 t25_3 t25_4 :=
 (loopAt_eq _ _ _ _).trans (by kernel_rfl)
theorem f81.l0n_eq (k : Nat) (t25 t25_1 t25_2 t25_3 t25_4 : Bool) : f81.l0n k t25 t25_1 t25_2 t25_3 t25_4 =
 if t25_3 = true then
 f81.l0z27z k t25 t25_1 t25_2 t25_3 t25_4
 else
 f81.l0z28z k t25 t25_1 t25_2 t25_3 t25_4 :=
 (loopAt_eq _ _ _ _).trans (by kernel_rfl)
theorem f81.l0o_eq (k : Nat) (t25 t25_1 t25_2 t25_3 t25_4 : Bool) : f81.l0o k t25 t25_1 t25_2 t25_3 t25_4 =
 if t25_3 = true then
 f81.l0z29z k t25 t25_1 t25_2 t25_3 t25_4
 else
 f81.l0z30z k t25 t25_1 t25_2 t25_3 t25_4 :=
 (loopAt_eq _ _ _ _).trans (by kernel_rfl)
theorem f81.l0p_eq (k : Nat) (t25 t25_1 t25_2 t25_3 t25_4 : Bool) : f81.l0p k t25 t25_1 t25_2 t25_3 t25_4 =
 if t25_4 = true then
 f81.l0z31z k t25 t25_1 t25_2 t25_3 t25_4
 else
 f81.l0z32z k t25 t25_1 t25_2 t25_3 t25_4 :=
 (loopAt_eq _ _ _ _).trans (by kernel_rfl)
theorem f81.l0z16z_eq (k : Nat) (t25 t25_1 t25_2 t25_3 t25_4 : Bool) : f81.l0z16z k t25 t25_1 t25_2 t25_3 t25_4 =
 if t25_4 = true then
 f81.l0z33z k t25 t25_1 t25_2 t25_3 t25_4
 else
 f81.l0z34z k t25 t25_1 t25_2 t25_3 t25_4 :=
 (loopAt_eq _ _ _ _).trans (by kernel_rfl)
theorem f81.l0z17z_eq (k : Nat) (t25 t25_1 t25_2 t25_3 t25_4 : Bool) : f81.l0z17z k t25 t25_1 t25_2 t25_3 t25_4 =
 if t25_4 = true then
 f81.l0z35z k t25 t25_1 t25_2 t25_3 t25_4
 else
 f81.l0z36z k t25 t25_1 t25_2 t25_3 t25_4 :=
 (loopAt_eq _ _ _ _).trans (by kernel_rfl)
theorem f81.l0z18z_eq (k : Nat) (t25 t25_1 t25_2 t25_3 t25_4 : Bool) : f81.l0z18z k t25 t25_1 t25_2 t25_3 t25_4 =
 if t25_4 = true then
 f81.l0z37z k t25 t25_1 t25_2 t25_3 t25_4
 else
 f81.l0z38z k t25 t25_1 t25_2 t25_3 t25_4 :=
 (loopAt_eq _ _ _ _).trans (by kernel_rfl)
theorem f81.l0z19z_eq (k : Nat) (t25 t25_1 t25_2 t25_3 t25_4 : Bool) : f81.l0z19z k t25 t25_1 t25_2 t25_3 t25_4 =
 if t25_4 = true then
 f81.l0z39z k t25 t25_1 t25_2 t25_3 t25_4
 else
 f81.l0z40z k t25 t25_1 t25_2 t25_3 t25_4 :=
 (loopAt_eq _ _ _ _).trans (by kernel_rfl)
theorem f81.l0z20z_eq (k : Nat) (t25 t25_1 t25_2 t25_3 t25_4 : Bool) : f81.l0z20z k t25 t25_1 t25_2 t25_3 t25_4 =
 if t25_4 = true then
 f81.l0z41z k t25 t25_1 t25_2 t25_3 t25_4
 else
 f81.l0z42z k t25 t25_1 t25_2 t25_3 t25_4 :=
 (loopAt_eq _ _ _ _).trans (by kernel_rfl)
theorem f81.l0z21z_eq (k : Nat) (t25 t25_1 t25_2 t25_3 t25_4 : Bool) : f81.l0z21z k t25 t25_1 t25_2 t25_3 t25_4 =
 if t25_4 = true then
 f81.l0z43z k t25 t25_1 t25_2 t25_3 t25_4
 else
 f81.l0z44z k t25 t25_1 t25_2 t25_3 t25_4 :=
 (loopAt_eq _ _ _ _).trans (by kernel_rfl)
theorem f81.l0z22z_eq (k : Nat) (t25 t25_1 t25_2 t25_3 t25_4 : Bool) : f81.l0z22z k t25 t25_1 t25_2 t25_3 t25_4 =
 if t25_4 = true then
 f81.l0z45z k t25 t25_1 t25_2 t25_3 t25_4
 else
 f81.l0z46z k t25 t25_1 t25_2 t25_3 t25_4 :=
 (loopAt_eq _ _ _ _).trans (by kernel_rfl)
theorem f81.l0z23z_eq (k : Nat) (t25 t25_1 t25_2 t25_3 t25_4 : Bool) : f81.l0z23z k t25 t25_1 t25_2 t25_3 t25_4 =
 if t25_4 = true then
 f81.l0z47z k t25 t25_1 t25_2 t25_3 t25_4
 else
 f81.l0z48z k t25 t25_1 t25_2 t25_3 t25_4 :=
 (loopAt_eq _ _ _ _).trans (by kernel_rfl)
theorem f81.l0z24z_eq (k : Nat) (t25 t25_1 t25_2 t25_3 t25_4 : Bool) : f81.l0z24z k t25 t25_1 t25_2 t25_3 t25_4 =
 if t25_4 = true then
 f81.l0z49z k t25 t25_1 t25_2 t25_3 t25_4
 else
 f81.l0z50z k t25 t25_1 t25_2 t25_3 t25_4 :=
 (loopAt_eq _ _ _ _).trans (by kernel_rfl)
theorem f81.l0z25z_eq (k : Nat) (t25 t25_1 t25_2 t25_3 t25_4 : Bool) : f81.l0z25z k t25 t25_1 t25_2 t25_3 t25_4 =
 if t25_4 = true then
 f81.l0z51z k t25 t25_1 t25_2 t25_3 t25_4
 else
 f81.l0z52z k t25 t25_1 t25_2 t25_3 t25_4 :=
 (loopAt_eq _ _ _ _).trans (by kernel_rfl)
theorem f81.l0z26z_eq (k : Nat) (t25 t25_1 t25_2 t25_3 t25_4 : Bool) : f81.l0z26z k t25 t25_1 t25_2 t25_3 t25_4 =
 if t25_4 = true then
 f81.l0z53z k t25 t25_1 t25_2 t25_3 t25_4
 else
 f81.l0z54z k t25 t25_1 t25_2 t25_3 t25_4 :=
 (loopAt_eq _ _ _ _).trans (by kernel_rfl)
theorem f81.l0z27z_eq (k : Nat) (t25 t25_1 t25_2 t25_3 t25_4 : Bool) : f81.l0z27z k t25 t25_1 t25_2 t25_3 t25_4 =
 if t25_4 = true then
 f81.l0z55z k t25 t25_1 t25_2 t25_3 t25_4
 else
 f81.l0z56z k t25 t25_1 t25_2 t25_3 t25_4 :=
 (loopAt_eq _ _ _ _).trans (by kernel_rfl)
theorem f81.l0z28z_eq (k : Nat) (t25 t25_1 t25_2 t25_3 t25_4 : Bool) : f81.l0z28z k t25 t25_1 t25_2 t25_3 t25_4 =
 if t25_4 = true then
 f81.l0z57z k t25 t25_1 t25_2 t25_3 t25_4
 else
 f81.l0z58z k t25 t25_1 t25_2 t25_3 t25_4 :=
 (loopAt_eq _ _ _ _).trans (by kernel_rfl)
theorem f81.l0z29z_eq (k : Nat) (t25 t25_1 t25_2 t25_3 t25_4 : Bool) : f81.l0z29z k t25 t25_1 t25_2 t25_3 t25_4 =
 if t25_4 = true then
 f81.l0z59z k t25 t25_1 t25_2 t25_3 t25_4
 else
 f81.l0z60z k t25 t25_1 t25_2 t25_3 t25_4 :=
 (loopAt_eq _ _ _ _).trans (by kernel_rfl)
theorem f81.l0z30z_eq (k : Nat) (t25 t25_1 t25_2 t25_3 t25_4 : Bool) : f81.l0z30z k t25 t25_1 t25_2 t25_3 t25_4 =
 if t25_4 = true then
 f81.l0z61z k t25 t25_1 t25_2 t25_3 t25_4
 else
 f81.l0z62z k t25 t25_1 t25_2 t25_3 t25_4 :=
 (loopAt_eq _ _ _ _).trans (by kernel_rfl)
theorem f81.l0z31z_eq (k : Nat) (t25 t25_1 t25_2 t25_3 t25_4 : Bool) : f81.l0z31z k t25 t25_1 t25_2 t25_3 t25_4 =
 some (.sc (.int .u64 31)) :=
 (loopAt_eq _ _ _ _).trans (by kernel_rfl)
theorem f81.l0z32z_eq (k : Nat) (t25 t25_1 t25_2 t25_3 t25_4 : Bool) : f81.l0z32z k t25 t25_1 t25_2 t25_3 t25_4 =
 some (.sc (.int .u64 15)) :=
 (loopAt_eq _ _ _ _).trans (by kernel_rfl)
theorem f81.l0z33z_eq (k : Nat) (t25 t25_1 t25_2 t25_3 t25_4 : Bool) : f81.l0z33z k t25 t25_1 t25_2 t25_3 t25_4 =
 some (.sc (.int .u64 23)) :=
 (loopAt_eq _ _ _ _).trans (by kernel_rfl)
theorem f81.l0z34z_eq (k : Nat) (t25 t25_1 t25_2 t25_3 t25_4 : Bool) : f81.l0z34z k t25 t25_1 t25_2 t25_3 t25_4 =
 some (.sc (.int .u64 7)) :=
 (loopAt_eq _ _ _ _).trans (by kernel_rfl)
theorem f81.l0z35z_eq (k : Nat) (t25 t25_1 t25_2 t25_3 t25_4 : Bool) : f81.l0z35z k t25 t25_1 t25_2 t25_3 t25_4 =
 some (.sc (.int .u64 27)) :=
 (loopAt_eq _ _ _ _).trans (by kernel_rfl)
theorem f81.l0z36z_eq (k : Nat) (t25 t25_1 t25_2 t25_3 t25_4 : Bool) : f81.l0z36z k t25 t25_1 t25_2 t25_3 t25_4 =
 some (.sc (.int .u64 11)) :=
 (loopAt_eq _ _ _ _).trans (by kernel_rfl)
theorem f81.l0z37z_eq (k : Nat) (t25 t25_1 t25_2 t25_3 t25_4 : Bool) : f81.l0z37z k t25 t25_1 t25_2 t25_3 t25_4 =
 some (.sc (.int .u64 19)) :=
 (loopAt_eq _ _ _ _).trans (by kernel_rfl)
theorem f81.l0z38z_eq (k : Nat) (t25 t25_1 t25_2 t25_3 t25_4 : Bool) : f81.l0z38z k t25 t25_1 t25_2 t25_3 t25_4 =
 some (.sc (.int .u64 3)) :=
 (loopAt_eq _ _ _ _).trans (by kernel_rfl)
theorem f81.l0z39z_eq (k : Nat) (t25 t25_1 t25_2 t25_3 t25_4 : Bool) : f81.l0z39z k t25 t25_1 t25_2 t25_3 t25_4 =
 some (.sc (.int .u64 29)) :=
 (loopAt_eq _ _ _ _).trans (by kernel_rfl)
theorem f81.l0z40z_eq (k : Nat) (t25 t25_1 t25_2 t25_3 t25_4 : Bool) : f81.l0z40z k t25 t25_1 t25_2 t25_3 t25_4 =
 some (.sc (.int .u64 13)) :=
 (loopAt_eq _ _ _ _).trans (by kernel_rfl)
theorem f81.l0z41z_eq (k : Nat) (t25 t25_1 t25_2 t25_3 t25_4 : Bool) : f81.l0z41z k t25 t25_1 t25_2 t25_3 t25_4 =
 some (.sc (.int .u64 21)) :=
 (loopAt_eq _ _ _ _).trans (by kernel_rfl)
theorem f81.l0z42z_eq (k : Nat) (t25 t25_1 t25_2 t25_3 t25_4 : Bool) : f81.l0z42z k t25 t25_1 t25_2 t25_3 t25_4 =
 some (.sc (.int .u64 5)) :=
 (loopAt_eq _ _ _ _).trans (by kernel_rfl)
theorem f81.l0z43z_eq (k : Nat) (t25 t25_1 t25_2 t25_3 t25_4 : Bool) : f81.l0z43z k t25 t25_1 t25_2 t25_3 t25_4 =
 some (.sc (.int .u64 25)) :=
 (loopAt_eq _ _ _ _).trans (by kernel_rfl)
theorem f81.l0z44z_eq (k : Nat) (t25 t25_1 t25_2 t25_3 t25_4 : Bool) : f81.l0z44z k t25 t25_1 t25_2 t25_3 t25_4 =
 some (.sc (.int .u64 9)) :=
 (loopAt_eq _ _ _ _).trans (by kernel_rfl)
theorem f81.l0z45z_eq (k : Nat) (t25 t25_1 t25_2 t25_3 t25_4 : Bool) : f81.l0z45z k t25 t25_1 t25_2 t25_3 t25_4 =
 some (.sc (.int .u64 17)) :=
 (loopAt_eq _ _ _ _).trans (by kernel_rfl)
theorem f81.l0z46z_eq (k : Nat) (t25 t25_1 t25_2 t25_3 t25_4 : Bool) : f81.l0z46z k t25 t25_1 t25_2 t25_3 t25_4 =
 some (.sc (.int .u64 1)) :=
 (loopAt_eq _ _ _ _).trans (by kernel_rfl)
theorem f81.l0z47z_eq (k : Nat) (t25 t25_1 t25_2 t25_3 t25_4 : Bool) : f81.l0z47z k t25 t25_1 t25_2 t25_3 t25_4 =
 some (.sc (.int .u64 30)) :=
 (loopAt_eq _ _ _ _).trans (by kernel_rfl)
theorem f81.l0z48z_eq (k : Nat) (t25 t25_1 t25_2 t25_3 t25_4 : Bool) : f81.l0z48z k t25 t25_1 t25_2 t25_3 t25_4 =
 some (.sc (.int .u64 14)) :=
 (loopAt_eq _ _ _ _).trans (by kernel_rfl)
theorem f81.l0z49z_eq (k : Nat) (t25 t25_1 t25_2 t25_3 t25_4 : Bool) : f81.l0z49z k t25 t25_1 t25_2 t25_3 t25_4 =
 some (.sc (.int .u64 22)) :=
 (loopAt_eq _ _ _ _).trans (by kernel_rfl)
theorem f81.l0z50z_eq (k : Nat) (t25 t25_1 t25_2 t25_3 t25_4 : Bool) : f81.l0z50z k t25 t25_1 t25_2 t25_3 t25_4 =
 some (.sc (.int .u64 6)) :=
 (loopAt_eq _ _ _ _).trans (by kernel_rfl)
theorem f81.l0z51z_eq (k : Nat) (t25 t25_1 t25_2 t25_3 t25_4 : Bool) : f81.l0z51z k t25 t25_1 t25_2 t25_3 t25_4 =
 some (.sc (.int .u64 26)) :=
 (loopAt_eq _ _ _ _).trans (by kernel_rfl)
theorem f81.l0z52z_eq (k : Nat) (t25 t25_1 t25_2 t25_3 t25_4 : Bool) : f81.l0z52z k t25 t25_1 t25_2 t25_3 t25_4 =
 some (.sc (.int .u64 10)) :=
 (loopAt_eq _ _ _ _).trans (by kernel_rfl)
theorem f81.l0z53z_eq (k : Nat) (t25 t25_1 t25_2 t25_3 t25_4 : Bool) : f81.l0z53z k t25 t25_1 t25_2 t25_3 t25_4 =
 some (.sc (.int .u64 18)) :=
 (loopAt_eq _ _ _ _).trans (by kernel_rfl)
theorem f81.l0z54z_eq (k : Nat) (t25 t25_1 t25_2 t25_3 t25_4 : Bool) : f81.l0z54z k t25 t25_1 t25_2 t25_3 t25_4 =
 some (.sc (.int .u64 2)) :=
 (loopAt_eq _ _ _ _).trans (by kernel_rfl)
theorem f81.l0z55z_eq (k : Nat) (t25 t25_1 t25_2 t25_3 t25_4 : Bool) : f81.l0z55z k t25 t25_1 t25_2 t25_3 t25_4 =
 some (.sc (.int .u64 28)) :=
 (loopAt_eq _ _ _ _).trans (by kernel_rfl)
theorem f81.l0z56z_eq (k : Nat) (t25 t25_1 t25_2 t25_3 t25_4 : Bool) : f81.l0z56z k t25 t25_1 t25_2 t25_3 t25_4 =
 some (.sc (.int .u64 12)) :=
 (loopAt_eq _ _ _ _).trans (by kernel_rfl)
theorem f81.l0z57z_eq (k : Nat) (t25 t25_1 t25_2 t25_3 t25_4 : Bool) : f81.l0z57z k t25 t25_1 t25_2 t25_3 t25_4 =
 some (.sc (.int .u64 20)) :=
 (loopAt_eq _ _ _ _).trans (by kernel_rfl)
theorem f81.l0z58z_eq (k : Nat) (t25 t25_1 t25_2 t25_3 t25_4 : Bool) : f81.l0z58z k t25 t25_1 t25_2 t25_3 t25_4 =
 some (.sc (.int .u64 4)) :=
 (loopAt_eq _ _ _ _).trans (by kernel_rfl)
theorem f81.l0z59z_eq (k : Nat) (t25 t25_1 t25_2 t25_3 t25_4 : Bool) : f81.l0z59z k t25 t25_1 t25_2 t25_3 t25_4 =
 some (.sc (.int .u64 24)) :=
 (loopAt_eq _ _ _ _).trans (by kernel_rfl)
theorem f81.l0z60z_eq (k : Nat) (t25 t25_1 t25_2 t25_3 t25_4 : Bool) : f81.l0z60z k t25 t25_1 t25_2 t25_3 t25_4 =
 some (.sc (.int .u64 8)) :=
 (loopAt_eq _ _ _ _).trans (by kernel_rfl)
theorem f81.l0z61z_eq (k : Nat) (t25 t25_1 t25_2 t25_3 t25_4 : Bool) : f81.l0z61z k t25 t25_1 t25_2 t25_3 t25_4 =
 some (.sc (.int .u64 16)) :=
 (loopAt_eq _ _ _ _).trans (by kernel_rfl)
theorem f81.l0z62z_eq (k : Nat) (t25 t25_1 t25_2 t25_3 t25_4 : Bool) : f81.l0z62z k t25 t25_1 t25_2 t25_3 t25_4 =
 some (.sc (.int .u64 0)) :=
 (loopAt_eq _ _ _ _).trans (by kernel_rfl)
end ET
end Go.Den
