/- The plain reading of the program's code: frames, regions, code, functions. -/
import Derived.Test.YtcfhllbobapaiaaDoorDenA
namespace Go.Den
open Go

structure St where
  fr : List PV
  h : Heap
def St.ρ (s : St) : Operand → PV
  | .tmp t => s.fr.getD t .top
  | .const v => ofV v
  | .global _ => .top
  | .func f => .sc (.func (.func f) #[] #[])
def St.put (s : St) (d : Option Tmp) (x : PV) : St := match d with
  | some t => { s with fr := s.fr.set t x }
  | none => s
section
variable (P : Program)
/-- A cell of what leaves. -/
def outC (h : Heap) (x : PV) : Option PV := match x with
  | .buf b ver => match h[b]? with
    | some (.buf e0 ver' xs) => if ver = ver' then some (frozen (sizeT P e0) xs) else none
    | _ => none
  | .sc v => some (.sc v)
  | .lst k n f => some (.lst k n f)
  | .nils => some .nils
  | _ => none
def outCs (h : Heap) : List PV → Option (List PV)
  | [] => some []
  | x :: cs => match outC P h x, outCs h cs with
    | some y, some ys => some (y :: ys)
    | _, _ => none
/-- What stands for a value where another function gets it: no memory of this call's own. -/
def outV (d : Nat) (h : Heap) (t : TypeId) (x : PV) : Option PV := match x with
  | .sc v => some (.sc v)
  | .agg cs => match outCs P h cs with
    | some ys => some (.agg ys)
    | none => none
  | .lst k n f => some (.lst k n f)
  | .nils => match shOf P d t with
    | .lst k => some (.lst k 0 fun _ => .top)
    | _ => none
  | .buf b ver => match h[b]?, shOf P d t with
    | some (.buf e0 ver' xs), .lst k => if ver = ver' ∧ sizeT P e0 = k then some (frozen k xs) else none
    | _, _ => none
  | _ => none
def outL (d : Nat) (h : Heap) : List TypeId → List PV → Option (List PV)
  | t :: ts, x :: xs => match outV P d h t x, outL d h ts xs with
    | some y, some ys => some (y :: ys)
    | _, _ => none
  | [], [] => some []
  | _, _ => none
def resSh (d : Nat) : List TypeId → Sh
  | [t] => shOf P d t
  | ts => .tup (ts.map (shOf P d))
def bufOf : PV → List Nat
  | .buf b _ => [b]
  | _ => []
def bufsOf : PV → List Nat
  | .agg cs => cs.flatMap bufOf
  | x => bufOf x
def noBuf (x : PV) : Bool := (bufsOf x).isEmpty
/-- A slice of this call's own is handed over for good: from here on it is only read. -/
def giveC (h : Heap) (bs : List Nat) (x : PV) : PV := match x with
  | .buf b ver => if bs.contains b = true then (match h[b]? with
    | some (.buf e0 ver' xs) => if ver = ver' then frozen (sizeT P e0) xs else .top
    | _ => .top) else .buf b ver
  | x => x
def givePV (h : Heap) (bs : List Nat) (x : PV) : PV := match x with
  | .agg cs => .agg (cs.map (giveC P h bs))
  | x => giveC P h bs x
def giveO (h : Heap) (bs : List Nat) (o : HObj) : HObj := match o with
  | .cells cs => .cells (cs.map (giveC P h bs))
  | o => o
def giveH (h : Heap) (bs : List Nat) : Nat → List HObj → List HObj
  | _, [] => []
  | i, o :: l => (if bs.contains i = true then .gone else giveO P h bs o) :: giveH h bs (i + 1) l
def St.give (s : St) (bs : List Nat) : St := ⟨s.fr.map (givePV P s.h bs), giveH P s.h bs 0 s.h⟩
def giveOp (d : Nat) (s : St) (o : Oper) : Bool := match o.op with
  | .call c => match c.callee with
    | .value f => match s.ρ f with
      | .sc (.func (.func g) _ _) => match P.funcs[g]? with
        | some fn => !(resSh P d fn.resultTypes.toList).flat && !(c.args.toList.map s.ρ).all noBuf
        | none => false
      | _ => false
    | _ => false
  | _ => false
def denGive (d : Nat) (C : FuncId → List PV → Option PV) (o : Oper) (s : St) (K : St → Option PV) : Option PV := match o.op with
  | .call c => match c.callee with
    | .value f => match s.ρ f with
      | .sc (.func (.func g) _ _) => match P.funcs[g]? with
        | some fn => if fn.body.isSome = true ∧ (fn.name == "runtime.NumGoroutine") = false then (match outL P d s.h fn.params.toList (c.args.toList.map s.ρ) with
          | none => none
          | some as => (C g as).bind fun r => if hasSh (resSh P d fn.resultTypes.toList) r = true then K ((s.give P ((c.args.toList.map s.ρ).flatMap bufsOf)).put o.dst (rebuild (resSh P d fn.resultTypes.toList) r)) else none) else none
        | none => none
      | _ => none
    | _ => none
  | _ => none
/-- A call of a function. -/
def denCall (d : Nat) (C : FuncId → List PV → Option PV) (g : FuncId) (s : St) (dst : Option Tmp) (args : List PV) (quiet : Bool) (K : St → Option PV) : Option PV := match P.funcs[g]? with
  | none => none
  | some fn => if fn.body.isSome = true ∧ (fn.name == "runtime.NumGoroutine") = false then
      (match outL P d s.h fn.params.toList args with
      | none => none
      | some as => if ((resSh P d fn.resultTypes.toList).flat || (!quiet && args.all noBuf)) = true then
          (C g as).bind fun r => if hasSh (resSh P d fn.resultTypes.toList) r = true then K (s.put dst (rebuild (resSh P d fn.resultTypes.toList) r)) else none
        else none)
    else none
def bytesT (t : TypeId) : Nat := match P.info? t with
  | some i => i.bytes
  | none => 0
def zeroOk (t : TypeId) : Bool := match P.info? t with
  | some i => match i.zero with
    | some z => z.cells.size == i.size
    | none => false
  | none => false
def denAppend (ts : Array TypeId) (s : St) (dst : Option Tmp) (args : List PV) (K : St → Option PV) : Option PV := match ts[0]?, ts[1]?, (ts[0]?).bind P.underlying, args with
  | some t, some t', some (.slice e), [a, x] => if t = t' ∧ 0 < sizeT P e ∧ zeroOk P e = true then (match elems P s.h (sizeT P e) x with
    | none => none
    | some ys => match a with
      | .nils => if ys.length * bytesT P e ≤ 140737488355328 ∧ ys.length ≤ 140737488355328 then K (St.put { s with h := s.h ++ [HObj.buf e 0 ys] } dst (PV.buf s.h.length 0)) else none
      | .buf b ver => match s.h[b]? with
        | some (.buf e0 ver' xs) => if ver = ver' ∧ e0 = e then (if (xs.length + ys.length) * bytesT P e ≤ 140737488355328 ∧ xs.length + ys.length ≤ 140737488355328 then K (St.put { s with h := s.h.put b (.buf e (ver + 1) (xs ++ ys)) } dst (PV.buf b (ver + 1))) else none) else none
        | _ => none
      | _ => none) else none
  | _, _, _, _ => none
/-- A slice that is written out. -/
def denLit (t : TypeId) (len : Nat) (ps : List (Nat × PV)) (s : St) (dst : Option Tmp) (K : St → Option PV) : Option PV := match P.underlying t with
  | some (.slice e) => if ps.length = len ∧ 0 < sizeT P e ∧ len ≤ 100 ∧ len * sizeT P e ≤ 16777216 ∧ zeroOk P e = true ∧ (ps.map (·.1)) = List.range len ∧ (ps.all fun p => p.2.plainE && p.2.cells.length == sizeT P e) = true then
      K (St.put { s with h := s.h ++ [HObj.buf e 0 (ps.map (·.2))] } dst (PV.buf s.h.length 0)) else none
  | _ => none
def denExec (d : Nat) (C : FuncId → List PV → Option PV) (quiet : Bool) (o : Oper) (s : St) (K : St → Option PV) : Option PV := match o.op with
  | .call c => match c.callee with
    | .value f => match s.ρ f with
      | .sc (.func (.func g) _ _) => denCall P d C g s o.dst (c.args.toList.map s.ρ) quiet K
      | _ => none
    | .builtin .append => if quiet = true then none else denAppend P c.argTypes s o.dst (c.args.toList.map s.ρ) K
    | .builtin b => match denBuiltinH P s.h b c.argTypes (c.args.toList.map s.ρ) with
      | some x => K (s.put o.dst x)
      | none => none
    | .invoke _ _ => none
  | .buildSlice t len ps => if quiet = true then none else denLit P t len (ps.toList.map fun p => (p.1, s.ρ p.2)) s o.dst K
  | op => denOp P s.ρ s.h op fun x h => K (St.put { s with h := h } o.dst x)
def denOper (d : Nat) (C : FuncId → List PV → Option PV) (quiet : Bool) (ops : Array Oper) (o : Oper) (s : St) (K : St → Option PV) : Option PV := match o.guard with
  | none => denExec P d C quiet o s K
  | some (j, want) => match (ops[j]?).bind (·.dst) with
    | none => none
    | some g => match s.fr.getD g .top with
      | .sc (.bool b) => if b = true then
          (if want = true then denExec P d C quiet o { s with fr := s.fr.set g (.sc (.bool true)) } K else K (St.put { s with fr := s.fr.set g (.sc (.bool true)) } o.dst (.tup [])))
        else (if want = true then K (St.put { s with fr := s.fr.set g (.sc (.bool false)) } o.dst (.tup [])) else denExec P d C quiet o { s with fr := s.fr.set g (.sc (.bool false)) } K)
      | .tup [] => K (s.put o.dst (.tup []))
      | _ => none
/-- Operations that leave memory alone. -/
def quietOp (o : Oper) : Bool := match o.op with
  | .move _ | .assign _ | .pick _ _ _ | .build _ _ | .load _ _ | .nilCheck _ | .binOp _ _ _ _ _ | .unOp _ _ _ | .convert _ _ _ | .makeFunc _ _ _ | .fieldAddr _ _ _ | .field _ _ _ | .indexAddr _ _ _ | .index _ _ _ | .slice _ _ _ _ _ | .extract _ _ => true
  | .call c => match c.callee with
    | .value _ => true
    | .builtin .len | .builtin .max | .builtin .min => true
    | _ => false
  | _ => false
/-- The operations up to the pick by slot g, if all ahead of it have a guard and leave memory alone: (with the pick; its slot; what follows). -/
def cutPick (g : Tmp) : List Oper → Option (List Oper × Tmp × List Oper)
  | [] => none
  | o :: l => if quietOp o = true then (match o.op, o.dst with
    | .pick (.tmp c) _ _, some pd => if c = g then some ([o], pd, l) else (match cutPick g l, o.guard with
      | some (xs, pd', l'), some _ => some (o :: xs, pd', l')
      | _, _ => none)
    | _, _ => match cutPick g l, o.guard with
      | some (xs, pd', l'), some _ => some (o :: xs, pd', l')
      | _, _ => none) else none
def groupOf (ops : Array Oper) (s : St) (o : Oper) (rest : List Oper) : Option (List Oper × Tmp × List Oper) := match o.guard with
  | some (j, _) => match (ops[j]?).bind (·.dst) with
    | some g => if (quietOp o && (s.fr.getD g .top).isBool) = true then cutPick g rest else none
    | none => none
  | none => none
def boolOf (x : PV) : Option PV := match x with
  | .sc (.bool b) => some (.sc (.bool b))
  | _ => none
def dstsOf (l : List Oper) : List Tmp := l.filterMap (·.dst)
def dropSlots (ds : List Tmp) : Nat → List PV → List PV
  | _, [] => []
  | i, x :: xs => (if ds.contains i = true then .top else x) :: dropSlots ds (i + 1) xs
def St.forget (s : St) (ds : List Tmp) : St := { s with fr := dropSlots ds 0 s.fr }
/-- Operations in their order. What an 'and' or an 'or' guards is brought to one truth. -/
def denOpsF (d : Nat) (C : FuncId → List PV → Option PV) (quiet : Bool) (ops : Array Oper) : Nat → List Oper → (St → Option PV) → St → Option PV
  | _, [], K, s => K s
  | 0, _, _, _ => none
  | f + 1, o :: rest, K, s => match groupOf ops s o rest with
    | some (xs, pd, rest') => (denOper P d C quiet ops o s fun s2 => denOpsF d C quiet ops f xs (fun s3 => boolOf (s3.fr.getD pd .top)) s2).bind fun r => denOpsF d C quiet ops f rest' K ((s.forget (dstsOf (o :: xs))).put (some pd) (.sc (.bool r.toBool)))
    | none => if (!quiet && o.guard.isNone && giveOp P d s o) = true then denGive P d C o s (fun s' => denOpsF d C quiet ops f rest K s') else denOper P d C quiet ops o s fun s' => denOpsF d C quiet ops f rest K s'
def denOps (d : Nat) (C : FuncId → List PV → Option PV) (quiet : Bool) (ops : Array Oper) (l : List Oper) (K : St → Option PV) (s : St) : Option PV := denOpsF P d C quiet ops (l.length + 1) l K s
/-- In a region that draws its order: what is taken first (it leaves memory alone and is no call). -/
def tamesOp (o : Oper) : Bool := match o.op with
  | .call c => match c.callee with
    | .builtin .len | .builtin .max | .builtin .min => true
    | _ => false
  | _ => quietOp o
def callsOp (o : Oper) : Bool := match o.op with
  | .call c => match c.callee with
    | .value _ => true
    | _ => false
  | _ => false
def calmOp (d : Nat) (o : Oper) : Bool := quietOp o && (!callsOp o || (match P.underlying o.type with
  | some (.tuple ts) => ts.toList.all fun t => (shOf P d t).flat
  | _ => (shOf P d o.type).flat))
def headLen : List Oper → Nat
  | [] => 0
  | o :: l => if quietOp o = true then headLen l + 1 else 0
def planFrom (ops : Array Oper) (n : Nat) : Nat → Array Bool → Option (List Nat)
  | 0, listed => if Region.seqB .any ops (ops.size - n) n listed = true then some [] else none
  | f + 1, listed => match (Region.ready .any ops listed).find? (fun i => decide (i < n) && (((ops[i]?).map tamesOp).getD false && Region.free .any ops listed i)) with
    | some i => (planFrom ops n f (listed.setIfInBounds i true)).map (i :: ·)
    | none => match Region.ready .any ops listed with
      | [i] => if (decide (i < n) && ((ops[i]?).map callsOp).getD false) = true then (planFrom ops n f (listed.setIfInBounds i true)).map (i :: ·) else none
      | _ => none
def planOf (ops : Array Oper) (n : Nat) : Option (List Nat) := if (Region.noSelect ops && (decide (n = ops.size) || (decide (n < ops.size) && (Region.sinkB .any ops n && Region.chainB .any ops n)))) = true then planFrom ops n n (Array.replicate ops.size false) else none
def denPlan (d : Nat) (C : FuncId → List PV → Option PV) (ops : Array Oper) : List Nat → (St → Option PV) → St → Option PV
  | [], K, s => K s
  | i :: l, K, s => match ops[i]? with
    | some o => denOper P d C false ops o s fun s' => denPlan d C ops l K s'
    | none => none
/-- Variables that are made between calls: made in whatever order. -/
def allocOp (o : Oper) : Bool := match o.op with
  | .alloc t => o.guard.isNone && o.dst.isSome && (zeroT P t).known
  | _ => false
def isAlloc (ops : Array Oper) (i : Nat) : Bool := ((ops[i]?).map (allocOp P)).getD false
def allocIx (ops : Array Oper) : List Nat := (List.range ops.size).filter fun i => isAlloc P ops i
def markL (l : List Nat) (listed : Array Bool) : Array Bool := l.foldl (fun a i => a.setIfInBounds i true) listed
/-- First what does not need them: (reads first, calls one by one). -/
def planP (ops : Array Oper) (al : List Nat) : Nat → Array Bool → List Nat
  | 0, _ => []
  | f + 1, listed => match (Region.ready .any ops listed).find? (fun i => ((ops[i]?).map tamesOp).getD false && Region.free .any ops listed i) with
    | some i => i :: planP ops al f (listed.setIfInBounds i true)
    | none => match Region.ready .any ops (markL al listed) with
      | [i] => if (((ops[i]?).map callsOp).getD false && Region.free .any ops listed i && (Region.ready .any ops listed).contains i) = true then i :: planP ops al f (listed.setIfInBounds i true) else []
      | _ => []
def waitsB (ops : Array Oper) (al : List Nat) (listed : Array Bool) : Bool := (List.range ops.size).all fun j => listed.getD j true || isAlloc P ops j || (match ops[j]? with
  | some o => (al.all fun i => o.after.any fun e => Region.binds .any e && e.on == i) || (o.after.any fun e => Region.binds .any e && !listed.getD e.on false && !isAlloc P ops e.on)
  | none => true)
/-- Then the rest. -/
def planS (ops : Array Oper) : Nat → Array Bool → Option (List Nat)
  | 0, listed => if (Region.ready .any ops listed).isEmpty = true then some [] else none
  | f + 1, listed => match (Region.ready .any ops listed).find? (fun i => ((ops[i]?).map tamesOp).getD false && Region.free .any ops listed i) with
    | some i => (planS ops f (listed.setIfInBounds i true)).map (i :: ·)
    | none => match Region.ready .any ops listed with
      | [] => some []
      | [i] => (planS ops f (listed.setIfInBounds i true)).map (i :: ·)
      | _ => none
def planB (ops : Array Oper) : Option (List Nat × List Nat) :=
  let al := allocIx P ops
  let l1 := if al.isEmpty = true then [] else planP ops al ops.size (Array.replicate ops.size false)
  if (Region.noSelect ops && waitsB P ops al (markL l1 (Array.replicate ops.size false)) && (al.all fun i => (match ops[i]? with
    | some o => o.after.all fun e => !Region.binds .any e
    | none => false)) && (ops.toList.all fun o => o.guard.isNone) && decide (l1.length + al.length ≤ ops.size)) = true then
    (planS ops (ops.size - l1.length - al.length) (markL al (markL l1 (Array.replicate ops.size false)))).map fun l2 => (l1, l2)
  else none
def placeOf : List Nat → Nat → Option Nat
  | [], _ => none
  | x :: l, b => if x = b then some 0 else (placeOf l b).map (· + 1)
/-- What a region writes. -/
def baseOf (ops : Array Oper) (al : List Nat) (s : St) : Nat → Operand → List Nat
  | 0, _ => []
  | f + 1, x => match x with
    | .tmp t => match (List.range ops.size).find? (fun i => ((ops[i]?).bind (·.dst)) == some t) with
      | some i => match (ops[i]?).map (fun o : Oper => o.op) with
        | some (.fieldAddr _ x _) => baseOf ops al s f x
        | some (.indexAddr _ x _) => baseOf ops al s f x
        | some (.nilCheck x) => baseOf ops al s f x
        | some (.move x) => baseOf ops al s f x
        | some (.assign x) => baseOf ops al s f x
        | some (.alloc _) => match placeOf al i with
          | some k => [s.h.length + k]
          | none => []
        | _ => []
      | none => match s.fr.getD t .top with
        | .ptr b _ => [b]
        | _ => []
    | _ => []
def writesOf (ops : Array Oper) (al : List Nat) (s : St) : List Nat := ops.toList.flatMap fun o => match o.op with
  | .store _ a _ => baseOf ops al s 6 a
  | _ => []
def okW (W : List Nat) (s : St) (o : Oper) : Bool := match o.op with
  | .store _ a _ => (match s.ρ a with
    | .ptr b _ => W.contains b
    | _ => true)
  | _ => callsOp o || (tamesOp o && readsOk W s.ρ o.op)
def denPlanW (d : Nat) (C : FuncId → List PV → Option PV) (ops : Array Oper) (W : List Nat) : List Nat → (St → Option PV) → St → Option PV
  | [], K, s => K s
  | i :: l, K, s => match ops[i]? with
    | some o => if okW W s o = true then denExec P d C false o s (fun s' => denPlanW d C ops W l K s') else none
    | none => none
def denAllocs (ops : Array Oper) : List Nat → (St → Option PV) → St → Option PV
  | [], K, s => K s
  | i :: l, K, s => match ops[i]? with
    | some o => denOp P s.ρ s.h o.op fun x h => denAllocs ops l K (St.put { s with h := h } o.dst x)
    | none => none
def dstAt (ops : Array Oper) (i : Nat) : Option Tmp := (ops[i]?).bind fun o => o.dst
def allocApart (ops : Array Oper) (s : St) : Bool := (allocIx P ops).all fun i => (match dstAt ops i with
  | some d => decide (d < s.fr.length)
  | none => false) && (allocIx P ops).all fun j => i == j || dstAt ops i != dstAt ops j
def denRegion (d : Nat) (C : FuncId → List PV → Option PV) (ops : Array Oper) (draw : Bool) (K : St → Option PV) (s : St) : Option PV :=
  if draw = true then (if (Region.lexB .any ops && ops.toList.all (calmOp P d)) = true then denOps P d C true ops ops.toList K s else
    match planOf ops (headLen ops.toList) with
    | some l => denPlan P d C ops l (fun s' => denOps P d C false ops (ops.toList.drop (headLen ops.toList)) K s') s
    | none => match planB P ops with
      | some (l1, l2) => if allocApart P ops s = true then denPlanW P d C ops (writesOf ops (allocIx P ops) s) l1 (fun s' => denAllocs P ops (allocIx P ops) (fun s2 => denPlanW P d C ops (writesOf ops (allocIx P ops) s) l2 K s2) s') (s.forget ((allocIx P ops).filterMap (dstAt ops))) else none
      | none => none)
  else denOps P d C false ops ops.toList K s

/-- Where b stands in a list. -/
def posOf : List Nat → Nat → Option Nat
  | [], _ => none
  | x :: l, b => if x = b then some 0 else (posOf l b).map (· + 1)
/-- At the head of a loop: what is not kept is forgotten, what no kept slot reaches is dropped; the rest is numbered anew (L: the old numbers). -/
def tidyC (L : List Nat) (h : Heap) (x : PV) : PV := match x with
  | .sc v => .sc v
  | .lst k m f => .lst k m f
  | .nils => .nils
  | .ptr b off => match posOf L b with
    | some j => .ptr j off
    | none => .top
  | .buf b ver => match posOf L b, h[b]? with
    | some j, some (.buf _ ver' _) => if ver = ver' then .buf j 0 else .top
    | _, _ => .top
  | _ => .top
def tidyPV (L : List Nat) (h : Heap) (x : PV) : PV := match x with
  | .agg cs => .agg (cs.map (tidyC L h))
  | x => tidyC L h x
def tidyObj (L : List Nat) (h : Heap) (o : HObj) : HObj := match o with
  | .cells cs => .cells (cs.map (tidyC L h))
  | .buf e _ xs => .buf e 0 xs
  | .gone => .gone
def keepSlots (L : List Nat) (h : Heap) (keep : List Nat) : Nat → List PV → List PV
  | _, [] => []
  | i, x :: xs => (if keep.contains i = true then tidyPV L h x else .top) :: keepSlots L h keep (i + 1) xs
def refsOf (x : PV) : List Nat := match x with
  | .ptr b _ => [b]
  | .buf b _ => [b]
  | _ => []
def refsPV (x : PV) : List Nat := match x with
  | .agg cs => cs.flatMap refsOf
  | x => refsOf x
def refsSlots (keep : List Nat) : Nat → List PV → List Nat
  | _, [] => []
  | i, x :: xs => if keep.contains i = true then refsPV x ++ refsSlots keep (i + 1) xs else refsSlots keep (i + 1) xs
def addNew (n : Nat) (acc : List Nat) (b : Nat) : List Nat := if b < n then (if acc.contains b = true then acc else acc ++ [b]) else acc
def refsObj (o : Option HObj) : List Nat := match o with
  | some (.cells cs) => cs.flatMap refsOf
  | _ => []
def moreRefs (h : Heap) (L : List Nat) : List Nat := (L.flatMap fun b => refsObj h[b]?).foldl (addNew h.length) L
def keptObjs (h : Heap) (keep : List Nat) (fr : List PV) : List Nat := moreRefs h (moreRefs h (moreRefs h ((refsSlots keep 0 fr).foldl (addNew h.length) [])))
def tidyAt (L : List Nat) (h : Heap) (o : Option HObj) : HObj := match o with
  | some o => tidyObj L h o
  | none => .gone
def tidy (k : Option (List Nat × Nat)) (s : St) : St := match k with
  | none => s
  | some (keep, _) => ⟨keepSlots (keptObjs s.h keep s.fr) s.h keep 0 s.fr, (keptObjs s.h keep s.fr).map fun b => tidyAt (keptObjs s.h keep s.fr) s.h s.h[b]?⟩
def loopN (T : St → St) (F : (St → Option PV) → St → Option PV) : Nat → St → Option PV
  | 0, _ => none
  | n + 1, s => F (fun s2 => loopN T F n (T s2)) s
def firstId : Code → Nat
  | .region id _ _ => id
  | .seq a _ => firstId a
  | .block _ c => firstId c
  | .loop c => firstId c
  | _ => 0
/-- Where ways meet: what is not kept is forgotten. (It does nothing else; but whoever unfolds stops at the letter k.) -/
def gateK (k : Nat) : (St → Option PV) → St → Option PV := match k with
  | 0 => fun F s => F s
  | _ + 1 => fun F s => F s
def gate (h : Option (List Nat × Nat)) (k : Nat) (F : St → Option PV) (s : St) : Option PV := match h with
  | none => F s
  | some x => gateK k F (tidy (some x) s)
abbrev Loops := (St → St) → ((St → Option PV) → St → Option PV) → St → Option PV
def lpN (k : Nat) : Loops := fun T F s => loopN T F k (T s)
def denC (d : Nat) (C : FuncId → List PV → Option PV) (hint : Nat → Option (List Nat × Nat)) (lp : Loops) (k : Nat) : Code → (Nat → St → Option PV) → (St → Option PV) → (St → Option PV) → St → Option PV
  | .skip, _, _, K, s => K s
  | .label _, _, _, K, s => K s
  | .region _ ops draw, _, _, K, s => denRegion P d C ops draw K s
  | .seq a b, X, R, K, s => denC d C hint lp k a X R (gate (hint (1000000 + firstId b)) k (fun s' => denC d C hint lp k b X R K s')) s
  | .cond c t e, X, R, K, s => match c with
    | .tmp x => match s.fr.getD x .top with
      | .sc (.bool b) => if b = true then denC d C hint lp k t X R K { s with fr := s.fr.set x (.sc (.bool true)) } else denC d C hint lp k e X R K { s with fr := s.fr.set x (.sc (.bool false)) }
      | _ => none
    | .const (.bool b) => if b = true then denC d C hint lp k t X R K s else denC d C hint lp k e X R K s
    | _ => none
  | .block id c, X, R, K, s => denC d C hint lp k c (fun j s' => if j = id then K s' else X j s') R K s
  | .exit id, X, _, _, s => X id s
  | .loop c, X, R, _, s => lp (tidy (hint (firstId c))) (fun L s2 => denC d C hint lp k c X R L s2) s
  | .ret, _, R, _, s => R s
  | _, _, _, _, _ => none
def resV (s : St) : ResultVar → Option PV
  | .tmp t => some (s.fr.getD t .top)
  | .cell a t => match behind s.h (s.fr.getD a .top) with
    | some cs => readVar P t cs
    | none => none
def resL (s : St) : List ResultVar → Option (List PV)
  | [] => some []
  | r :: rs => match resV P s r, resL s rs with
    | some x, some xs => some (x :: xs)
    | _, _ => none
def retV (d : Nat) (fn : Func) (s : St) : Option PV := match resL P s fn.results.toList with
  | none => none
  | some xs => match outL P d s.h fn.resultTypes.toList xs with
    | none => none
    | some [y] => some y
    | some ys => some (.tup ys)
def denBody (d : Nat) (C : FuncId → List PV → Option PV) (hint : Nat → Option (List Nat × Nat)) (lp : Loops) (k : Nat) (fn : Func) (args : List PV) : Option PV := match fn.body with
  | none => none
  | some c => denC P d C hint lp k c (fun _ _ => none) (retV P d fn) (retV P d fn) ⟨args ++ List.replicate (fn.ntmps - args.length) .top, []⟩
/-- What a function answers. -/
def den (d : Nat) (ext : FuncId → Option (List PV → Option PV)) (hint : FuncId → Nat → Option (List Nat × Nat)) : Nat → FuncId → List PV → Option PV
  | 0, _, _ => none
  | k + 1, f, args => match ext f with
    | some g => g args
    | none => match P.funcs[f]? with
      | some fn => denBody P d (den d ext hint k) (hint f) (lpN k) k fn args
      | none => none
end
end Go.Den
