/- Frames and calls. -/
import Derived.Test.YtkhbkbkambflbaaGreatDoorDenJ
namespace Go.Den
open Go Go.RowKit
set_option linter.unusedVariables false
section
variable {P : Program} {T : World → Prop}

/-- What a function hands back. -/
def RetOk (r : PV) : Prop := r.plainE = true ∨ ∃ cs, r = .tup cs ∧ cs.all PV.plainE = true
/-- .. one that is handed memory. -/
def retsE (x : PV) : Bool := x.plainE || isPtr x || x.isTop
def RetsOk (r : PV) : Prop := retsE r = true ∨ ∃ cs, r = .tup cs ∧ cs.all retsE = true
/-- A function's contract: these arguments, that answer; what was there stays. T: what the library's variables hold. -/
def FunPlain (P : Program) (T : World → Prop) (f : FuncId) (args : List PV) (r : PV) : Prop :=
 ∀ (w : World) (V : Nat → Prop) (vs : Array Value), T w → (∀ c, V c → c < w.heap.size) → args.length = vs.size → (∀ i (h1 : i < args.length) (h2 : i < vs.size), Enc (bare w V) args[i] vs[i]) →
  Calls P f vs w fun e w' => ∃ v, e = .returned v ∧ Enc (bare w' V) r v ∧ RetOk r ∧ Below w.heap.size w w'
/-- .. of one that is handed memory: it writes there alone. -/
structure HandRes (P : Program) (w0 : World) (E : Env) (m : Nat) (r : PV) (e : Ending) (w' : World) (v : Value) (E' : Env) (objs : List PV) (ret : PV) : Prop where
 r : r = .tup [.hp objs, ret]
 e : e = .returned v
 w : E'.w = w'
 V : E'.V = E.V
 heap : HeapOk P E' w0.heap.size (objs.map decO)
 enc : Enc E' ret v
 rets : RetsOk ret
 below : Below w0.heap.size E.w w'
 blk : ∀ j, j < m → j < E'.n ∧ E'.blk j = E.blk j
 own : ∀ c, E'.O c → E.O c ∨ E.w.heap.size ≤ c
 same : ∀ c, c < E.w.heap.size → ¬ E.O c → w'.heap[c]? = E.w.heap[c]?
 size : E.w.heap.size ≤ w'.heap.size
def FunHand (P : Program) (T : World → Prop) (f : FuncId) (objs as : List PV) (r : PV) : Prop :=
 ∀ (w0 : World) (E : Env) (vs : Array Value), T w0 → HeapOk P E w0.heap.size (objs.map decO) → Below w0.heap.size w0 E.w → as.length = vs.size → (∀ i (h1 : i < as.length) (h2 : i < vs.size), Enc E as[i] vs[i]) →
  Calls P f vs E.w fun e w' => ∃ v E' objs' ret, HandRes P w0 E objs.length r e w' v E' objs' ret
structure FunOk (P : Program) (T : World → Prop) (f : FuncId) (args : List PV) (r : PV) : Prop where
 plain : FunPlain P T f args r
 hand : ∀ objs as, args = .hp objs :: as → FunHand P T f objs as r
theorem FunOk.of {f : FuncId} {args : List PV} {r : PV} (h : FunPlain P T f args r) (hn : ∀ objs as, args ≠ .hp objs :: as) : FunOk P T f args r := ⟨h, fun objs as e => absurd e (hn objs as)⟩
/-- Where a function's run began: the world in which nothing is to be written; what it was handed. -/
structure Bs extends World where
 m : Option Nat
 blk0 : Nat → Nat
 own0 : Nat → Prop
 ew : World
instance : Coe Bs World := ⟨Bs.toWorld⟩
structure Hand (B : Bs) (E : Env) (m : Option Nat) : Prop where
 m : m = B.m
 blk : ∀ j, j < B.m.getD 0 → j < E.n ∧ E.blk j = B.blk0 j
 own : ∀ c, E.O c → B.own0 c ∨ B.ew.heap.size ≤ c
 same : ∀ c, c < B.ew.heap.size → ¬ B.own0 c → E.w.heap[c]? = B.ew.heap[c]?
 size : B.ew.heap.size ≤ E.w.heap.size
theorem Hand.of {B : Bs} {E E' : Env} {m : Option Nat} (h : Hand B E m) (hn : E.n ≤ E'.n) (hb : ∀ b, b < E.n → E'.blk b = E.blk b) (ho : ∀ c, E'.O c → E.O c ∨ E.w.heap.size ≤ c) (hs : ∀ c, c < E.w.heap.size → ¬ E.O c → E'.w.heap[c]? = E.w.heap[c]?) (hz : E.w.heap.size ≤ E'.w.heap.size) : Hand B E' m :=
 ⟨h.m, fun j hj => ⟨Nat.lt_of_lt_of_le (h.blk j hj).1 hn, (hb j (h.blk j hj).1).trans (h.blk j hj).2⟩, fun c hc => (ho c hc).elim (fun o => h.own c o) fun s => .inr (Nat.le_trans h.size s),
  fun c hc hn => (hs c (Nat.lt_of_lt_of_le hc h.size) fun o => (h.own c o).elim hn fun s => by omega).trans (h.same c hc hn), Nat.le_trans h.size hz⟩
theorem Hand.ext {B : Bs} {E E' : Env} {m : Option Nat} (h : Hand B E m) (x : Ext E E') : Hand B E' m := h.of x.n x.blk x.own x.same x.size
structure Rel (P : Program) (T : World → Prop) (w0 : Bs) (V : Nat → Prop) (E : Env) (s : St) (a : Act) : Prop where
 heap : HeapOk P E w0.heap.size s.h
 len : s.fr.length = a.tmps.size
 fr : ∀ i (h1 : i < s.fr.length) (h2 : i < a.tmps.size), Enc E s.fr[i] a.tmps[i]
 below : Below w0.heap.size w0 E.w
 defers : a.defers = []
 V : E.V = V
 T : T w0
 hand : Hand w0 E s.m
theorem put_m (s : St) (d : Option Tmp) (x : PV) : (s.put d x).m = s.m := by cases d <;> rfl
variable {w0 : Bs} {V : Nat → Prop} {E : Env} {s : St} {a : Act}
theorem Rel.ρ (h : Rel P T w0 V E s a) (x : Operand) : Enc E (s.ρ x) (a.eval x) := by
 cases x with
 | tmp t =>
  show Enc E (s.fr.getD t .top) (a.tmps.getD t undef)
  by_cases ht : t < s.fr.length
  ·have h2 : t < a.tmps.size := by rw [← h.len]; exact ht
   have e1 : s.fr.getD t .top = s.fr[t] := by simp [ht]
   have e2 : a.tmps.getD t undef = a.tmps[t] := by simp [h2]
   rw [e1, e2]
   exact h.fr t ht h2
  ·have e1 : s.fr.getD t .top = .top := by simp [ht]
   rw [e1]
   exact .top
 | const v => exact ofV_enc E v
 | global g => exact .top
 | func f => exact .sc rfl
theorem set_enc {l : List PV} {m : Array Value} (h : ∀ i (h1 : i < l.length) (h2 : i < m.size), Enc E l[i] m[i]) {t : Nat} {x : PV} {v : Value} (he : Enc E x v) (i : Nat) (h1 : i < (l.set t x).length) (h2 : i < (m.setIfInBounds t v).size) :
  Enc E (l.set t x)[i] (m.setIfInBounds t v)[i] := by
 rw [List.getElem_set, Array.getElem_setIfInBounds]
 split
 ·exact he
 ·exact h i (by simpa using h1) (by simpa using h2)
theorem Rel.step (h : Rel P T w0 V E s a) {E' : Env} (hx : Ext E E') {h' : Heap} (hh : HeapOk P E' w0.heap.size h') (hb : Below w0.heap.size E.w E'.w) {x : PV} {v : Value} (he : Enc E' x v) (dst : Option Tmp) :
  Rel P T w0 V E' (St.put { s with h := h' } dst x) (a.put dst v) := by
 have base : Rel P T w0 V E' { s with h := h' } a := ⟨hh, h.len, fun i h1 h2 => (h.fr i h1 h2).ext hx, h.below.trans hb, h.defers, hx.V.trans h.V, h.T, h.hand.ext hx⟩
 cases dst with
 | none => exact base
 | some t =>
  refine ⟨hh, by simp [St.put, Act.put, h.len], fun i h1 h2 => ?_, base.below, base.defers, base.V, base.T, base.hand⟩
  exact set_enc base.fr he i h1 h2
theorem Rel.same (h : Rel P T w0 V E s a) {x : PV} {v : Value} (he : Enc E x v) (dst : Option Tmp) : Rel P T w0 V E (s.put dst x) (a.put dst v) :=
 h.step (Ext.refl E) h.heap (Below.refl _ _) he dst
/-- A condition that has been decided. -/
theorem Rel.fix (h : Rel P T w0 V E s a) {t : Tmp} {b : Bool} (ht : s.fr.getD t .top = .sc (.bool b)) : Rel P T w0 V E { s with fr := s.fr.set t (.sc (.bool b)) } a ∧ a.tmps[t]? = some (.bool b) := by
 have hlt : t < s.fr.length := by
  rcases Nat.lt_or_ge t s.fr.length with h | h
  ·exact h
  ·rw [List.getD, List.getElem?_eq_none h] at ht
   cases ht
 have h2 : t < a.tmps.size := by rw [← h.len]; exact hlt
 have e1 : s.fr[t] = .sc (.bool b) := by simpa [hlt] using ht
 have e2 := h.fr t hlt h2
 rw [e1] at e2
 have e3 := e2.sc_iff
 refine ⟨⟨h.heap, by simp [h.len], fun i h1 h4 => ?_, h.below, h.defers, h.V, h.T, h.hand⟩, by rw [Array.getElem?_eq_getElem h2, e3]⟩
 have h3 : i < s.fr.length := by simpa using h1
 show Enc E (s.fr.set t (.sc (.bool b)))[i] a.tmps[i]
 rw [List.getElem_set]
 split
 ·rename_i hi
  subst hi
  exact e2
 ·exact h.fr i h3 h4
/-- The world has grown. -/
theorem ext_withW {w : World} (hb : Below E.w.heap.size E.w w) : Ext E (E.withW w) :=
 ⟨Nat.le_refl _, fun _ _ => rfl, hb.size, fun c hc => .inl hc, fun c hc _ => hb.block c hc, fun _ _ => ⟨Nat.le_refl _, fun _ => rfl⟩, rfl, fun _ c _ ho hs _ => ⟨ho, hb.block c hs⟩⟩
theorem heap_withW {base : Nat} {h : Heap} (hs : HeapOk P E base h) {w : World} (hb : Below E.w.heap.size E.w w) : HeapOk P (E.withW w) base h :=
 ⟨hs.n, fun b o ho => (hs.obj b o ho).keep (ext_withW hb) rfl rfl rfl rfl fun c hc => hb.block c ((hs.obj b o ho).lt hc).2, hs.apart, Nat.le_trans hs.low hb.size, fun c hc => ⟨Nat.lt_of_lt_of_le (hs.below c hc).1 hb.size, (hs.below c hc).2⟩⟩
theorem Rel.world (h : Rel P T w0 V E s a) {w : World} (hb : Below E.w.heap.size E.w w) : Rel P T w0 V (E.withW w) s a :=
 ⟨heap_withW h.heap hb, h.len, fun i h1 h2 => (h.fr i h1 h2).ext (ext_withW hb), h.below.trans (hb.mono h.heap.low), h.defers, h.V, h.T, h.hand.ext (ext_withW hb)⟩
/-- The program's function is entered. -/
theorem callFunc_run {g : FuncId} {fn : Func} (hf : P.funcs[g]? = some fn) (hb : fn.body.isSome = true) (hn : (fn.name == "runtime.NumGoroutine") = false) (args : Array Value) (w : World) : (callFunc g args).run P w = .ok (.enter g args) w := by
 unfold callFunc
 rw [Sem.run_bind, run_program, Result.andThen_ok, hf]
 dsimp only
 have hnb : fn.body.isNone = false := by
  cases h : fn.body with
  | none => rw [h] at hb; cases hb
  | some c => rfl
 rw [if_neg (by rw [hn]; decide), if_neg (by rw [hnb]; decide)]
 rfl
theorem exec_call {o : Oper} {f : Operand} {as : Array Operand} {ts : Array TypeId} (ho : o.op = .call { callee := .value f, args := as, argTypes := ts }) {g : FuncId} {fs cs : Array Value} (hf : a.eval f = .func (.func g) fs cs) (hfs : fs.isEmpty = true) (hcs : cs.isEmpty = true)
  {fn : Func} (hfn : P.funcs[g]? = some fn) (hb : fn.body.isSome = true) (hn : (fn.name == "runtime.NumGoroutine") = false) (w : World) : (execOp a.eval o).run P w = .ok (.enter g (as.map a.eval)) w := by
 obtain rfl : fs = #[] := by simpa using hfs
 obtain rfl : cs = #[] := by simpa using hcs
 unfold execOp
 rw [ho]
 dsimp only
 rw [Sem.run_bind]
 have e : (resolve a.eval { callee := .value f, args := as, argTypes := ts } o.type).run P w = .ok { target := .fn (.func g) #[], args := as.map a.eval } w := by
  unfold resolve
  dsimp only
  rw [hf]
  simp [Deferred.ofValue]
 rw [e, Result.andThen_ok]
 show (callFunc g (as.map a.eval ++ #[])).run P w = _
 rw [Array.append_empty]
 exact callFunc_run hfn hb hn _ w
mutual
/-- The very value of what holds no memory. -/
def PV.val : PV → Value
 | .sc v => v
 | .agg cs => .agg (PV.vals cs).toArray
 | .tup cs => .tuple (PV.vals cs).toArray
 | _ => undef
def PV.vals : List PV → List Value
 | [] => []
 | x :: cs => x.val :: PV.vals cs
end
theorem vals_len : ∀ cs : List PV, (PV.vals cs).length = cs.length
 | [] => rfl
 | x :: cs => by rw [PV.vals, List.length_cons, List.length_cons, vals_len cs]
mutual
theorem flat_val : ∀ (s : Sh) (x : PV), s.flat = true → hasSh s x = true → (∀ E0 v, Enc E0 x v → v = x.val) ∧ ∀ E0 v0, Enc E0 x v0 → ∀ E1, Enc E1 x x.val
 | .int k, x, _, h => by
  cases x with
  | sc u => exact ⟨fun _ _ he => he.sc_iff, fun _ _ he _ => by cases he with | sc h => exact .sc h⟩
  | _ => simp [hasSh, PV.isInt] at h
 | .bool, x, _, h => by
  cases x with
  | sc u => exact ⟨fun _ _ he => he.sc_iff, fun _ _ he _ => by cases he with | sc h => exact .sc h⟩
  | _ => simp [hasSh, PV.isBool] at h
 | .str, x, _, h => by
  cases x with
  | sc u => exact ⟨fun _ _ he => he.sc_iff, fun _ _ he _ => by cases he with | sc h => exact .sc h⟩
  | _ => simp [hasSh, PV.isStr] at h
 | .agg l, x, hf, h => by
  cases x with
  | agg cs =>
   rw [hasSh] at h
   rw [Sh.flat] at hf
   have hl := vals_len cs
   refine ⟨fun E0 v he => ?_, fun E0 v0 he E1 => ?_⟩
   ·cases he with
    | agg hl2 hx =>
     rw [PV.val]
     congr 1
     apply Array.ext
     ·simp [hl, hl2]
     ·intro i h1 h2
      have := (flatL_val l cs hf h i (by omega)).1 E0 _ (hx i (by omega) h1)
      rw [this]
      simp
   ·cases he with
    | agg hl2 hx =>
     rw [PV.val]
     refine .agg (by simp [hl]) fun i h1 h2 => ?_
     have := (flatL_val l cs hf h i h1).2 E0 _ (hx i h1 (by omega)) E1
     simpa using this
  | _ => simp [hasSh] at h
 | .tup l, x, hf, h => by
  cases x with
  | tup cs =>
   rw [hasSh] at h
   rw [Sh.flat] at hf
   have hl := vals_len cs
   refine ⟨fun E0 v he => ?_, fun E0 v0 he E1 => ?_⟩
   ·cases he with
    | tup hl2 hx =>
     rw [PV.val]
     congr 1
     apply Array.ext
     ·simp [hl, hl2]
     ·intro i h1 h2
      have := (flatL_val l cs hf h i (by omega)).1 E0 _ (hx i (by omega) h1)
      rw [this]
      simp
   ·cases he with
    | tup hl2 hx =>
     rw [PV.val]
     refine .tup (by simp [hl]) fun i h1 h2 => ?_
     have := (flatL_val l cs hf h i h1).2 E0 _ (hx i h1 (by omega)) E1
     simpa using this
  | _ => simp [hasSh] at h
 | .lst _, _, hf, _ => by simp [Sh.flat] at hf
 | .any, _, hf, _ => by simp [Sh.flat] at hf
theorem flatL_val : ∀ (l : List Sh) (cs : List PV), Sh.flatL l = true → hasShL l cs = true → ∀ (i : Nat) (h : i < cs.length), (∀ E0 v, Enc E0 cs[i] v → v = (PV.vals cs)[i]'(by rw [vals_len]; exact h)) ∧ ∀ E0 v0, Enc E0 cs[i] v0 → ∀ E1, Enc E1 cs[i] ((PV.vals cs)[i]'(by rw [vals_len]; exact h))
 | [], [], _, _, i, h => by simp at h
 | [], _ :: _, _, h, _, _ => by simp [hasShL] at h
 | _ :: _, [], _, h, _, _ => by simp [hasShL] at h
 | s :: l, x :: cs, hf, h, i, hi => by
  rw [hasShL, Bool.and_eq_true] at h
  rw [Sh.flatL, Bool.and_eq_true] at hf
  cases i with
  | zero => simp only [PV.vals, List.getElem_cons_zero]; exact flat_val s x hf.1 h.1
  | succ i => simp only [PV.vals, List.getElem_cons_succ]; exact flatL_val l cs hf.2 h.2 i _
end
/-- A call's result, back in the caller's world. -/
theorem ret_env {w' : World} {V2 : Nat → Prop} {r : PV} {v : Value} (he : Enc (bare w' V2) r v) (hr : RetOk r) {E2 : Env} (hw : E2.w = w') (hU : ∀ c, ¬ V2 c → ¬ E2.U c) : Enc E2 r v := by
 have hU' : ∀ c, ¬ (bare w' V2).U c → ¬ E2.U c := fun c hc => hU c fun hv => hc (.inl hv)
 rcases hr with h | ⟨cs, rfl, h⟩
 ·exact he.plainE_env hw hU' h
 ·cases he with
  | tup hl hx => exact .tup hl fun i h1 h2 => (hx i h1 h2).plainE_env hw hU' (List.all_eq_true.1 h _ (List.getElem_mem h1))
/-- What a call does. -/
theorem denCall_ok {d : Cf} {C : FuncId → List PV → Option PV} (hC : ∀ g args r, C g args = some r → FunOk P T g args r) (hTb : ∀ w w', T w → Below w.heap.size w w' → T w') (h : Rel P T w0 V E s a) {g : FuncId} {dst : Option Tmp} {args : List PV} {vs : Array Value} (hl : args.length = vs.size)
  (he : ∀ i (h1 : i < args.length) (h2 : i < vs.size), Enc E args[i] vs[i]) {quiet : Bool} {K : St → Option PV} {r : PV} (hd : denCall P d C g s dst args quiet K = some r) :
  ∃ fn, P.funcs[g]? = some fn ∧ fn.body.isSome = true ∧ (fn.name == "runtime.NumGoroutine") = false ∧
   (Calls P g vs E.w fun e w' => ∃ v, e = .returned v ∧ ∃ x, Rel P T w0 V (E.withW w') (s.put dst x) (a.put dst v) ∧ K (s.put dst x) = some r ∧ Below E.w.heap.size E.w w') ∧
   (quiet = true → ∃ x v, Enc E x v ∧ K (s.put dst x) = some r ∧ ∀ w, Below E.w.heap.size E.w w → T w → Calls P g vs w fun e w' => e = .returned v ∧ Below w.heap.size w w') := by
 unfold denCall at hd
 split at hd
 ·cases hd
 ·rename_i fn hfn
  split at hd
  ·rename_i hb
   split at hd
   ·cases hd
   ·rename_i as has
    split at hd
    ·rename_i hfl
     obtain ⟨ret, hret, hd⟩ := Option.bind_eq_some_iff.1 hd
     split at hd
     ·rename_i hsh
      have hfun := (hC g as ret hret).plain
      refine ⟨fn, hfn, hb.1, hb.2, ?_, ?_⟩
      ·-- the call itself
       by_cases hflat : (resSh P d.d fn.resultTypes.toList).flat = true
       ·obtain ⟨l1, l2, _⟩ := outL_ok h.heap (V := fun _ => False) (fun c _ hc => hc) (vs := vs.toList) has (by simpa using hl) (fun i h1 h2 => by
         have := he i h1 (by simpa using h2)
         simpa using this) (fun _ _ _ _ _ hc => hc)
        refine (hfun E.w (fun _ => False) vs (hTb _ _ h.T h.below) (fun _ hc => hc.elim) (by simpa using l1) (fun i h1 h2 => by
         have := l2 i h1 (by simpa using h2)
         simpa using this)).mono ?_
        rintro e w' ⟨v, rfl, hv, hro, hbw⟩
        have hv2 : Enc (E.withW w') ret v := flat_env _ ret hflat hsh hv
        refine ⟨v, rfl, _, ?_, hd, hbw⟩
        exact (h.world hbw).same ((reb_ok _ ret hsh).2.1 _ _ hv2) dst
       ·have hnb : args.all noBuf = true := by
         simp only [Bool.or_eq_true, Bool.and_eq_true, hflat, Bool.false_eq_true, false_or] at hfl
         exact hfl.2
        obtain ⟨l1, l2, _⟩ := outL_ok h.heap (V := E.U) (fun c hc => hc) (vs := vs.toList) has (by simpa using hl) (fun i h1 h2 => by
         have := he i h1 (by simpa using h2)
         simpa using this) (fun b hb => by rw [noBuf_none hnb] at hb; cases hb)
        refine (hfun E.w E.U vs (hTb _ _ h.T h.below) (fun c hc => ?_) (by simpa using l1) (fun i h1 h2 => by
         have := l2 i h1 (by simpa using h2)
         simpa using this)).mono ?_
        ·rcases hc with hc | ⟨b, hbn, ho⟩
         ·exact (h.heap.below c hc).1
         ·have hb' : b < s.h.length := by have := h.heap.n; omega
          exact ((h.heap.obj b s.h[b] (List.getElem?_eq_getElem hb')).lt ho).2
        ·rintro e w' ⟨v, rfl, hv, hro, hbw⟩
         have hv2 : Enc (E.withW w') ret v := ret_env hv hro rfl fun c hc => hc
         refine ⟨v, rfl, _, ?_, hd, hbw⟩
         exact (h.world hbw).same ((reb_ok _ ret hsh).2.1 _ _ hv2) dst
      ·intro hq
       have hflat : (resSh P d.d fn.resultTypes.toList).flat = true := by
        subst hq
        simpa using hfl
       obtain ⟨l1, l2, _⟩ := outL_ok h.heap (V := fun _ => False) (fun c _ hc => hc) (vs := vs.toList) has (by simpa using hl) (fun i h1 h2 => by
         have := he i h1 (by simpa using h2)
         simpa using this) (fun _ _ _ _ _ hc => hc)
       obtain ⟨f1, f2⟩ := flat_val _ ret hflat hsh
       have run : ∀ w, Below E.w.heap.size E.w w → T w → Calls P g vs w fun e w' => ∃ v, e = .returned v ∧ Enc (bare w' fun _ => False) ret v ∧ RetOk ret ∧ Below w.heap.size w w' := fun w hbw hTw => by
        refine hfun w (fun _ => False) vs hTw (fun _ hc => hc.elim) (by simpa using l1) (fun i h1 h2 => ?_)
        have := l2 i h1 (by simpa using h2)
        have h3 : Enc (bare E.w fun _ => False) as[i] vs[i] := by simpa using this
        exact h3.ext (ext_withW (E := bare E.w fun _ => False) hbw)
       -- some run shows that there is a value
       obtain ⟨e, w', fr, ⟨v, _, hv, _⟩, _⟩ := run E.w (Below.refl _ _) (hTb _ _ h.T h.below) []
       have hx : Enc E ret ret.val := f2 _ _ hv E
       refine ⟨_, ret.val, (reb_ok _ ret hsh).2.1 _ _ hx, hd, fun w hbw hTw => (run w hbw hTw).mono ?_⟩
       rintro e w' ⟨v, rfl, hv, hro, hbw'⟩
       exact ⟨by rw [f1 _ _ hv], hbw'⟩
     ·cases hd
    ·cases hd
  ·cases hd
end
end Go.Den
