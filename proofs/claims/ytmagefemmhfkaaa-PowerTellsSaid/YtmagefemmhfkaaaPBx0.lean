-- PRINTED for this claim by wip/xprint.py (a program of this session's over the kit's print). Lean checks it.
import Derived.Test.YtmagefemmhfkaaaProg
import Derived.Below
import Derived.Deep.Draws
import Derived.Deep.AppendLies
import Derived.Maps.AppendAt
import Derived.OwnWalk
import Derived.Laws.BytesArg
import Derived.Laws.MakeOwn
import Derived.Laws.OwnMore
import Derived.Deep.OwnRows
import Derived.Tactics
import Derived.Lib.ConvBytes
import Derived.Laws.Slices
import Derived.WalkKit
import Derived.KernelRfl
import Derived.RowKit3
import Derived.Deep.LoopGhost
import Derived.Deep.QuietTactic
import Derived.BigQuiet
import Derived.WideLaws
import Derived.Deep.DeepCutAuto
import Derived.Deep.CutBlock
import Derived.Deep.RegionHeld3
import Derived.Laws.Rows
import Derived.Lib.AppendStr
import Derived.ArgAppend
import Derived.Laws.IdiomCopy
import Derived.OrdersHeld
import Derived.Laws.BitsLemmas
import Derived.RowKit
import Derived.Test.YtmagefemmhfkaaaWWords
import Derived.Test.YtmagefemmhfkaaaWLast
import Derived.Test.YtmagefemmhfkaaaWTab
import Derived.Test.YtmagefemmhfkaaaWFour
import Derived.Test.YtmagefemmhfkaaaWQPut
import Derived.Test.YtmagefemmhfkaaaWApart
import Derived.Test.YtmagefemmhfkaaaWArr
import Derived.Test.YtmagefemmhfkaaaWZeros
import Derived.Test.YtmagefemmhfkaaaWFoot
import Derived.Test.YtmagefemmhfkaaaWKept
import Derived.Test.YtmagefemmhfkaaaWShare
import Derived.Test.YtmagefemmhfkaaaWN
import Derived.Test.YtmagefemmhfkaaaWFootNe
import Derived.Test.YtmagefemmhfkaaaWAt
import Derived.Test.YtmagefemmhfkaaaWEqStruct
import Derived.Test.YtmagefemmhfkaaaWRepsOne
import Derived.Test.YtmagefemmhfkaaaWInv
import Derived.Test.YtmagefemmhfkaaaWInvWords
import Derived.Test.YtmagefemmhfkaaaWGuard
import Derived.Test.YtmagefemmhfkaaaWNEv
import Derived.Test.YtmagefemmhfkaaaWMore
namespace Go.Proofs.Ytmagefemmhfkaaa.PA
open Go.RowKit Go.Proofs.YtmagefemmhfkaaaW.PrintWords Go.Proofs.YtmagefemmhfkaaaW.PrintLast Go.Proofs.YtmagefemmhfkaaaW.PrintMore
attribute [local go_sem] max2_int min2_int max_two min_two max_three min_three max_four min_four   -- for this text's walks alone
set_option linter.unusedVariables false
set_option linter.unusedSimpArgs false



def errW : Option Int → Value
  | none => .nilIface
  | some c => .iface 0 (.int .i64 c)
theorem errW_none : errW none = .nilIface := rfl
theorem errW_some (c : Int) : errW (some c) = .iface 0 (.int .i64 c) := rfl

section
variable {P : Program} {ops : Array Oper} {Q : Exit → Act → World → Prop}
/-- A call whose callee only computes. -/
theorem goD {rest : List Oper} {oi : Oper} {a : Act} {w : World} (N : Option Tmp) (hd : oi.dst = N) {f : FuncId} {fn : Func} (hf : P.funcs[f]? = some fn) {args : Array Value} {v : Value}
    (hc : Calls P f args w fun e w' => e = .returned v ∧ Drawn0 w w') {as_ : Array Operand} {ts : Array TypeId} (K : ∀ nd, wpList P ops Q rest (a.put N v) (w.drewN nd))
    (hg : oi.guard = none := by rfl) (hname : (fn.name == "runtime.NumGoroutine") = false := by kernel_rfl) (hb : fn.body.isSome = true := by rfl)
    (hop : oi.op = .call { callee := .value (.func f), args := as_, argTypes := ts } := by rfl)
    (hargs : as_.map a.eval = args := by ((try simp only [List.map_toArray, List.map_cons, List.map_nil]); first | done | rfl | (simp only [List.length_drop, List.length_take]; rfl))) : wpList P ops Q (oi :: rest) a w :=
  goesL_ N hd hg hf hname hb args hop hargs (hc.mono (by rintro e w' ⟨rfl, ⟨nd, rfl⟩⟩; exact ⟨_, rfl, K nd⟩))
/-- A call whose callee makes memory. -/
theorem goB {rest : List Oper} {oi : Oper} {a : Act} {w0 w : World} (N : Option Tmp) (hd : oi.dst = N) {f : FuncId} {fn : Func} (hf : P.funcs[f]? = some fn) {args : Array Value} {v : Value}
    (hc : Calls P f args w fun e w' => e = .returned v ∧ Below w.heap.size w w') {as_ : Array Operand} {ts : Array TypeId} (K : ∀ w', Aside0 (Below w0.heap.size w0 w') → wpList P ops Q rest (a.put N v) w')
    (hB : Below w0.heap.size w0 w := by repeat (first | (with_reducible first | exact HB.out | apply below_alloc | apply pw_below_drewN | apply below_drew1) | exact HB.out))
    (hg : oi.guard = none := by rfl) (hname : (fn.name == "runtime.NumGoroutine") = false := by kernel_rfl) (hb : fn.body.isSome = true := by rfl)
    (hop : oi.op = .call { callee := .value (.func f), args := as_, argTypes := ts } := by rfl)
    (hargs : as_.map a.eval = args := by ((try simp only [List.map_toArray, List.map_cons, List.map_nil]); first | done | rfl | (simp only [List.length_drop, List.length_take]; rfl))) : wpList P ops Q (oi :: rest) a w :=
  goesL_ N hd hg hf hname hb args hop hargs (hc.mono (by rintro e w' ⟨rfl, hb⟩; exact ⟨_, rfl, K w' ⟨below_step hB hb⟩⟩))
end
/-- The same behind a guard. -/
theorem monoB {P : Program} {f : FuncId} {args : Array Value} {w0 w : World} {v : Value} {R : Ending → World → Prop}
    (hc : Calls P f args w fun e w' => e = .returned v ∧ Below w.heap.size w w') (K : ∀ w', Aside0 (Below w0.heap.size w0 w') → R (.returned v) w')
    (hB : Below w0.heap.size w0 w := by repeat (first | (with_reducible first | exact HB.out | apply below_alloc | apply pw_below_drewN | apply below_drew1) | exact HB.out)) : Calls P f args w R :=
  hc.mono (by rintro e w' ⟨rfl, hb⟩; exact K w' ⟨below_step hB hb⟩)
theorem fin0 {p q : Prop} (a : p := by first | rfl | (simp; done) | (simp [*]; done)) (b : q := by repeat (first | exact Drawn0.refl _ | apply Drawn0.step)) : p ∧ q := ⟨a, b⟩
theorem finB {p q : Prop} (a : p := by first | rfl | (simp [errW_none, errW_some] <;> rfl) | (simp [*, errW_none, errW_some] <;> rfl)) (b : q := by repeat (first | (with_reducible first | exact HB.out | apply below_alloc | apply pw_below_drewN | apply below_drew1) | exact HB.out)) : p ∧ q := ⟨a, b⟩
theorem eqv {α : Sort _} {a b : α} (h : a = b := by first | rfl | (simp; done) | (simp [*]; done)) : a = b := h
theorem drv {w w' : World} (h : Drawn0 w w' := by repeat (first | exact Drawn0.refl _ | apply Drawn0.step)) : Drawn0 w w' := h
theorem blv {w w' : World} (h : Below w.heap.size w w' := by repeat (first | (with_reducible first | exact HB.out | apply below_alloc | apply pw_below_drewN | apply below_drew1) | exact HB.out)) : Aside0 (Below w.heap.size w w') := ⟨h⟩
theorem lev {a b : Nat} (h : a ≤ b := by first | omega | exact Nat.le_refl _) : Aside0 (a ≤ b) := ⟨h⟩

theorem info2 : (Try.prog.info? 2).map (fun i => (i.zero, i.size, i.bytes)) = some (some (.int .i64 0), 1, 8) := by kernel_rfl
theorem info30 : (Try.prog.info? 30).map (fun i => (i.zero, i.size, i.bytes)) = some (some (.agg #[(.int .i64 0), (.bool false)]), 2, 16) := by kernel_rfl
-- the values' own types
/-! #### struct type 30 -/
structure S30 where
  f0 : Int
  f1 : Bool
def z30 : S30 := ⟨(0 : Int), false⟩
def k30 : Kd S30 := Kd.iso (Kd.pair (Kd.int .i64) Kd.bool) (fun x : S30 => (x.f0, x.f1))
theorem k30_open {w : World} {x : S30} {cs : List Value} (h : k30.K w x cs) : cs = [.int .i64 x.f0, .bool x.f1] := by
  obtain ⟨_, _, rfl, rfl, rfl⟩ := h
  exact rfl
theorem k30_openM {w : World} {base : Nat} {ok : Nat → Prop} {x : S30} {cs : List Value} (h : k30.M w base ok x cs) : cs = [.int .i64 x.f0, .bool x.f1] := by
  obtain ⟨_, _, rfl, rfl, rfl⟩ := h
  exact rfl
theorem k30_mk (w : World) (x : S30)  : k30.K w x [.int .i64 x.f0, .bool x.f1] := ⟨[.int .i64 x.f0], [.bool x.f1], rfl, rfl, rfl⟩
theorem k30_mkM (w : World) (base : Nat) (ok : Nat → Prop) (x : S30)  : k30.M w base ok x [.int .i64 x.f0, .bool x.f1] := ⟨[.int .i64 x.f0], [.bool x.f1], rfl, rfl, rfl⟩
def rd_T30 (xs : List S30) (i : Int) : S30 := xs.getD i.toNat z30
theorem at_T30 {w : World} {A : Option Addr} {n : Nat} {xs : List S30} (h : Kd.C k30 w A n xs) (i : Int) (h0 : 0 ≤ i) (h1 : i < n) : ∃ ad , A = some ad ∧ w.cell? (ad.add (i.toNat * 2)) = some (.int .i64 (rd_T30 xs i).f0) ∧ w.cell? ⟨(ad.add (i.toNat * 2)).block, (ad.add (i.toNat * 2)).off + 1, none⟩ = some (.bool (rd_T30 xs i).f1) := by
  obtain ⟨ad, c, e, _, hK, hc0⟩ := Kd.C_get h z30 i h0 h1
  have hc : ∀ j u, c[j]? = some u → w.cell? (ad.add (i.toNat * 2 + j)) = some u := hc0
  obtain rfl := k30_open hK
  exact ⟨ad, e, hc 0 _ rfl, by rw [← add_field _ _ 1 (by omega)]; exact hc 1 _ rfl⟩

end Go.Proofs.Ytmagefemmhfkaaa.PA
