/- The plain reading of the program's code: frames, regions, code, functions. -/
import Derived.Test.YtkhbkbkambflbaaGreatDoorDenA
namespace Go.Den
open Go

/-- The form of a cell of what is handed to a function. -/
inductive CF where
 | sh (s : Sh)
 | selfp (j : Nat)
 | ptr (j : Nat)
 | buf (j : Nat)
/-- .. of an object. -/
inductive OF where
 | cells (t : TypeId) (l : List CF)
 | buf (e : TypeId)
/-- How deep types are told; which functions are handed memory, and in which form (true: they leave nothing of it). -/
structure Cf where
 d : Nat
 form : FuncId → Option (List OF × Bool)
structure St where
 fr : List PV
 h : Heap
 m : Option Nat
def St.ρ (s : St) : Operand → PV
 | .tmp t => s.fr.getD t .top
 | .const v => ofV v
 | .global _ => .top
 | .func f => .sc (.func (.func f) #[] #[])
def St.put (s : St) (d : Option Tmp) (x : PV) : St := match d with
 | some t => { s with fr := s.fr.set t x }
 | none => s
section
variable (P : Program)
/-- A cell of what leaves. -/
def outC (h : Heap) (x : PV) : Option PV := match x with
 | .buf b ver => match h[b]? with
  | some (.buf e0 ver' xs) => if ver = ver' then some (frozen (sizeT P e0) xs) else none
  | _ => none
 | .sc v => some (.sc v)
 | .lst k n f => some (.lst k n f)
 | .nils => some .nils
 | _ => none
def outCs (h : Heap) : List PV → Option (List PV)
 | [] => some []
 | x :: cs => match outC P h x, outCs h cs with
  | some y, some ys => some (y :: ys)
  | _, _ => none
/-- What stands for a value where another function gets it: no memory of this call's own. -/
def outV (d : Nat) (h : Heap) (t : TypeId) (x : PV) : Option PV := match x with
 | .sc v => some (.sc v)
 | .agg cs => match outCs P h cs with
  | some ys => some (.agg ys)
  | none => none
 | .lst k n f => some (.lst k n f)
 | .nils => match shOf P d t with
  | .lst k => some (.lst k 0 fun _ => .top)
  | _ => none
 | .buf b ver => match h[b]?, shOf P d t with
  | some (.buf e0 ver' xs), .lst k => if ver = ver' ∧ sizeT P e0 = k then some (frozen k xs) else none
  | _, _ => none
 | _ => none
def outL (d : Nat) (h : Heap) : List TypeId → List PV → Option (List PV)
 | t :: ts, x :: xs => match outV P d h t x, outL d h ts xs with
  | some y, some ys => some (y :: ys)
  | _, _ => none
 | [], [] => some []
 | _, _ => none
def resSh (d : Nat) : List TypeId → Sh
 | [t] => shOf P d t
 | ts => .tup (ts.map (shOf P d))
def bufOf : PV → List Nat
 | .buf b _ => [b]
 | _ => []
def bufsOf : PV → List Nat
 | .agg cs => cs.flatMap bufOf
 | x => bufOf x
def noBuf (x : PV) : Bool := (bufsOf x).isEmpty
/-- A slice of this call's own is handed over for good: from here on it is only read. -/
def giveC (h : Heap) (bs : List Nat) (x : PV) : PV := match x with
 | .buf b ver => if bs.contains b = true then (match h[b]? with
  | some (.buf e0 ver' xs) => if ver = ver' then frozen (sizeT P e0) xs else .top
  | _ => .top) else .buf b ver
 | x => x
def givePV (h : Heap) (bs : List Nat) (x : PV) : PV := match x with
 | .agg cs => .agg (cs.map (giveC P h bs))
 | x => giveC P h bs x
def giveO (h : Heap) (bs : List Nat) (o : HObj) : HObj := match o with
 | .cells t cs => .cells t (cs.map (giveC P h bs))
 | o => o
def giveH (h : Heap) (bs : List Nat) : Nat → List HObj → List HObj
 | _, [] => []
 | i, o :: l => (if bs.contains i = true then .gone else giveO P h bs o) :: giveH h bs (i + 1) l
def St.give (s : St) (bs : List Nat) : St := ⟨s.fr.map (givePV P s.h bs), giveH P s.h bs 0 s.h, s.m⟩
def giveOp (d : Cf) (s : St) (o : Oper) : Bool := match o.op with
 | .call c => match c.callee with
  | .value f => match s.ρ f with
   | .sc (.func (.func g) _ _) => match P.funcs[g]? with
    | some fn => !(resSh P d.d fn.resultTypes.toList).flat && !(c.args.toList.map s.ρ).all noBuf
    | none => false
   | _ => false
  | _ => false
 | _ => false
def denGive (d : Cf) (C : FuncId → List PV → Option PV) (o : Oper) (s : St) (K : St → Option PV) : Option PV := match o.op with
 | .call c => match c.callee with
  | .value f => match s.ρ f with
   | .sc (.func (.func g) _ _) => match P.funcs[g]? with
    | some fn => if fn.body.isSome = true ∧ (fn.name == "runtime.NumGoroutine") = false then (match outL P d.d s.h fn.params.toList (c.args.toList.map s.ρ) with
     | none => none
     | some as => (C g as).bind fun r => if hasSh (resSh P d.d fn.resultTypes.toList) r = true then K ((s.give P ((c.args.toList.map s.ρ).flatMap bufsOf)).put o.dst (rebuild (resSh P d.d fn.resultTypes.toList) r)) else none) else none
    | none => none
   | _ => none
  | _ => none
 | _ => none
/-- Where b stands in a list. -/
def posOf : List Nat → Nat → Option Nat
 | [], _ => none
 | x :: l, b => if x = b then some 0 else (posOf l b).map (· + 1)
/-- At the head of a loop: what is not kept is forgotten, what no kept slot reaches is dropped; the rest is numbered anew (L: the old numbers). -/
def tidyC (L : List Nat) (h : Heap) (x : PV) : PV := match x with
 | .sc v => .sc v
 | .lst k m f => .lst k m f
 | .nils => .nils
 | .ptr b off => match posOf L b with
  | some j => .ptr j off
  | none => .top
 | .buf b ver => match posOf L b, h[b]? with
  | some j, some (.buf _ ver' _) => if ver = ver' then .buf j 0 else .top
  | _, _ => .top
 | .selfp b => match posOf L b with
  | some j => .selfp j
  | none => .top
 | _ => .top
def tidyPV (L : List Nat) (h : Heap) (x : PV) : PV := match x with
 | .agg cs => .agg (cs.map (tidyC L h))
 | x => tidyC L h x
def tidyObj (L : List Nat) (h : Heap) (o : HObj) : HObj := match o with
 | .cells t cs => .cells t (cs.map (tidyC L h))
 | .buf e _ xs => .buf e 0 xs
 | .gone => .gone
def keepSlots (L : List Nat) (h : Heap) (keep : List Nat) : Nat → List PV → List PV
 | _, [] => []
 | i, x :: xs => (if keep.contains i = true then tidyPV L h x else .top) :: keepSlots L h keep (i + 1) xs
def refsOf (x : PV) : List Nat := match x with
 | .ptr b _ => [b]
 | .buf b _ => [b]
 | .selfp b => [b]
 | _ => []
def refsPV (x : PV) : List Nat := match x with
 | .agg cs => cs.flatMap refsOf
 | x => refsOf x
def refsSlots (keep : List Nat) : Nat → List PV → List Nat
 | _, [] => []
 | i, x :: xs => if keep.contains i = true then refsPV x ++ refsSlots keep (i + 1) xs else refsSlots keep (i + 1) xs
def addNew (n : Nat) (acc : List Nat) (b : Nat) : List Nat := if b < n then (if acc.contains b = true then acc else acc ++ [b]) else acc
def refsObj (o : Option HObj) : List Nat := match o with
 | some (.cells _ cs) => cs.flatMap refsOf
 | _ => []
def moreRefs (h : Heap) (L : List Nat) : List Nat := (L.flatMap fun b => refsObj h[b]?).foldl (addNew h.length) L
def keptObjs (m : Nat) (h : Heap) (keep : List Nat) (fr : List PV) : List Nat := moreRefs h (moreRefs h (moreRefs h ((refsSlots keep 0 fr).foldl (addNew h.length) (List.range (min m h.length)))))
def tidyAt (L : List Nat) (h : Heap) (o : Option HObj) : HObj := match o with
 | some o => tidyObj L h o
 | none => .gone
def tidy (k : Option (List Nat × Nat)) (s : St) : St := match k with
 | none => s
 | some (keep, _) => ⟨keepSlots (keptObjs (s.m.getD 0) s.h keep s.fr) s.h keep 0 s.fr, (keptObjs (s.m.getD 0) s.h keep s.fr).map fun b => tidyAt (keptObjs (s.m.getD 0) s.h keep s.fr) s.h s.h[b]?, s.m⟩
/-- What is handed to a function, and comes back. -/
def encO : HObj → PV
 | .cells t cs => .iptr (.ptr t 0 :: cs)
 | .buf e _ xs => .tup (.ptr e 0 :: xs)
 | .gone => .top
def decO : PV → HObj
 | .iptr (.ptr t _ :: cs) => .cells t cs
 | .tup (.ptr e _ :: xs) => .buf e 0 xs
 | _ => .gone
/-- An object's cells, or elements. -/
def PV.body : PV → List PV
 | .iptr (_ :: cs) => cs
 | .tup (_ :: xs) => xs
 | _ => []
def cellOk : CF → PV → Bool
 | .sh s, x => hasSh s x
 | .selfp j, x => match x with
  | .selfp b => b == j
  | _ => false
 | .ptr j, x => match x with
  | .ptr b off => b == j && off == 0
  | _ => false
 | .buf j, x => match x with
  | .buf b ver => b == j && ver == 0
  | _ => false
def cellF : CF → PV → PV
 | .sh s, x => rebuild s x
 | .selfp j, _ => .selfp j
 | .ptr j, _ => .ptr j 0
 | .buf j, _ => .buf j 0
def cellsOk : List CF → List PV → Bool
 | [], [] => true
 | f :: l, x :: cs => cellOk f x && cellsOk l cs
 | _, _ => false
def cellsF : List CF → List PV → List PV
 | [], _ => []
 | f :: l, cs => cellF f (cs.headD .top) :: cellsF l cs.tail
def objOk : OF → PV → Bool
 | .cells t l, x => match x with
  | .iptr (.ptr t' _ :: cs) => t' == t && cellsOk l cs
  | _ => false
 | .buf e, x => match x with
  | .tup (.ptr e' _ :: _) => e' == e
  | _ => false
def objF : OF → PV → HObj
 | .cells t l, x => .cells t (cellsF l x.body)
 | .buf e, x => .buf e 0 x.body
def objsOk : List OF → List PV → Bool
 | [], [] => true
 | f :: l, x :: xs => objOk f x && objsOk l xs
 | _, _ => false
def objsF : List OF → List PV → List HObj
 | [], _ => []
 | f :: l, xs => objF f (xs.headD .top) :: objsF l xs.tail
/-- A nil slice in a cell becomes an own one, without elements. -/
def ownStep (b j : Nat) (e : TypeId) (s : St) : St := match s.h[b]? with
 | some (.cells t cs) => match cs[j]? with
  | some .nils => if 0 < sizeT P e then { s with h := s.h.set b (.cells t (cs.set j (.buf s.h.length 0))) ++ [.buf e 0 []] } else s
  | _ => s
 | _ => s
def selfStep (b j : Nat) (s : St) : St := match s.h[b]? with
 | some (.cells t cs) => match cs[j]? with
  | some (.sc (.pointer none)) => { s with h := s.h.set b (.cells t (cs.set j (.selfp b))) }
  | _ => s
 | _ => s
def ownCells (F : List OF) (b : Nat) : Nat → List CF → St → St
 | _, [], s => s
 | j, .buf i :: l, s => ownCells F b (j + 1) l (match F[i]? with
  | some (.buf e) => ownStep P b j e s
  | _ => s)
 | j, .selfp _ :: l, s => ownCells F b (j + 1) l (selfStep b j s)
 | j, _ :: l, s => ownCells F b (j + 1) l s
def ownify (F : List OF) (b : Nat) (s : St) : St := match F with
 | .cells _ l :: _ => ownCells P F b 0 l s
 | _ => s
def isPtr : PV → Bool
 | .ptr _ _ => true
 | _ => false
def outP (d : Nat) (h : Heap) (t : TypeId) (x : PV) : Option PV := match x with
 | .ptr b off => some (.ptr b off)
 | .top => some .top
 | x => outV P d h t x
def outPL (d : Nat) (h : Heap) : List TypeId → List PV → Option (List PV)
 | t :: ts, x :: xs => match outP P d h t x, outPL d h ts xs with
  | some y, some ys => some (y :: ys)
  | _, _ => none
 | [], [] => some []
 | _, _ => none
/-- A pointer by its new number. -/
def renA (L : List Nat) (x : PV) : PV := match x with
 | .ptr b off => match posOf L b with
  | some j => .ptr j off
  | none => .top
 | x => x
def verOf (h : Heap) (b : Nat) : Nat := match h[b]? with
 | some (.buf _ v _) => v
 | _ => 0
def bakC (L : List Nat) (h : Heap) (objs : List HObj) (x : PV) : PV := match x with
 | .sc v => .sc v
 | .lst k m f => .lst k m f
 | .nils => .nils
 | .ptr j off => match L[j]? with
  | some b => .ptr b off
  | none => .top
 | .selfp j => match L[j]? with
  | some b => .selfp b
  | none => .top
 | .buf j ver => match L[j]?, objs[j]? with
  | some b, some (.buf _ ver' _) => if ver = ver' then .buf b (verOf h b + 1) else .top
  | _, _ => .top
 | _ => .top
def bakO (L : List Nat) (h : Heap) (objs : List HObj) (b : Nat) (o : HObj) : HObj := match o with
 | .cells t cs => .cells t (cs.map (bakC L h objs))
 | .buf e _ xs => .buf e (verOf h b + 1) xs
 | .gone => .gone
/-- What comes back stands where it stood; what is new behind it. -/
def mergeH (L : List Nat) (objs : List HObj) (cons : Bool) (h : Heap) (n : Nat) : Heap := (List.range n).map fun b => match posOf L b with
 | some j => if cons = true then .gone else bakO L h objs b (objs.getD j .gone)
 | none => h.getD b .gone
/-- The shape of a result; pointers to what is new; what is of no shape is forgotten. -/
def ret1Ok (d : Nat) (t : TypeId) (x : PV) : Bool := if isPtrT P t = true then (match x with | .ptr 0 0 => true | _ => false) else match shOf P d t with
 | .any => true
 | s => hasSh s x
def ret1F (L : List Nat) (d : Nat) (t : TypeId) (x : PV) : PV := if isPtrT P t = true then (match L[0]? with | some b => .ptr b 0 | none => .top) else match shOf P d t with
 | .any => .top
 | s => rebuild s x
def retsOk (d : Nat) : List TypeId → List PV → Bool
 | [], [] => true
 | t :: ts, x :: xs => ret1Ok P d t x && retsOk d ts xs
 | _, _ => false
def retsF (L : List Nat) (d : Nat) : List TypeId → List PV → List PV
 | [], _ => []
 | t :: ts, xs => ret1F P L d t (xs.headD .top) :: retsF L d ts xs.tail
def retOk (d : Nat) (ts : List TypeId) (x : PV) : Bool := match ts with
 | [t] => ret1Ok P d t x
 | ts => match x with
  | .tup cs => retsOk P d ts cs
  | _ => false
def retF (L : List Nat) (d : Nat) (ts : List TypeId) (x : PV) : PV := match ts with
 | [t] => ret1F P L d t x
 | ts => .tup (retsF P L d ts x.parts)
def handObjs (r : PV) : List PV := match r with
 | .tup [.hp objs, _] => objs
 | _ => []
def handRet (r : PV) : PV := match r with
 | .tup [.hp _, ret] => ret
 | _ => .top
def isHand (r : PV) : Bool := match r with
 | .tup [.hp _, _] => true
 | _ => false
/-- What comes back, cell by cell. -/
abbrev hCell (i j : Nat) (r : PV) : PV := cel j (cel i (handObjs r)).body
abbrev hBuf (i : Nat) (r : PV) : List PV := (cel i (handObjs r)).body
def closeL (h : Heap) (l : List Nat) : List Nat := moreRefs h (moreRefs h (moreRefs h l))
def ptrOf : List PV → Option Nat
 | [] => none
 | .ptr b off :: _ => if off = 0 then some b else none
 | _ :: l => ptrOf l
/-- What a handed call sees: which objects, as which values. -/
def handIn (F : List OF) (args : List PV) (s : St) : Option (List Nat × List PV × St) :=
 if args.any isPtr = true then (match ptrOf args with
  | some b => (fun s2 : St => (fun L : List Nat => if (L.length == F.length && objsOk F (L.map fun c => encO (tidyAt L s2.h s2.h[c]?))) = true then
    some (L, (objsF F (L.map fun c => encO (tidyAt L s2.h s2.h[c]?))).map encO, s2) else none) (closeL s2.h [b])) (ownify P F b s)
  | none => none)
 else some ([], [], s)
def denHand (d : Cf) (C : FuncId → List PV → Option PV) (o : Oper) (s : St) (K : St → Option PV) : Option PV := match o.op with
 | .call c => match c.callee with
  | .value f => match s.ρ f with
   | .sc (.func (.func g) _ _) => match P.funcs[g]?, d.form g with
    | some fn, some (F, cons) => if fn.body.isSome = true ∧ (fn.name == "runtime.NumGoroutine") = false then (match outPL P d.d s.h fn.params.toList (c.args.toList.map s.ρ) with
     | none => none
     | some as => match handIn P F (c.args.toList.map s.ρ) (s.give P ((c.args.toList.map s.ρ).flatMap bufsOf)) with
      | none => none
      | some (L, objs, s2) => (C g (.hp objs :: as.map (renA L))).bind fun r =>
       if (isHand r && (cons || objsOk F (handObjs r)) && retOk P d.d fn.resultTypes.toList (handRet r)) = true then
        K (St.put { s2 with h := mergeH (L ++ List.range' s2.h.length (F.length - L.length)) (objsF F (handObjs r)) cons s2.h (s2.h.length + (F.length - L.length)) } o.dst (retF P (L ++ List.range' s2.h.length (F.length - L.length)) d.d fn.resultTypes.toList (handRet r)))
       else none) else none
    | _, _ => none
   | _ => none
  | _ => none
 | _ => none
def handOp (d : Cf) (s : St) (o : Oper) : Bool := match o.op with
 | .call c => match c.callee with
  | .value f => match s.ρ f with
   | .sc (.func (.func g) _ _) => match P.funcs[g]?, d.form g with
    | some fn, some _ => (c.args.toList.map s.ρ).any isPtr || fn.resultTypes.toList.any (isPtrT P)
    | _, _ => false
   | _ => false
  | _ => false
 | _ => false
/-- Is a call one that is handed memory (by the function's number alone)? -/
def handT (d : Cf) (o : Oper) : Bool := match o.op with
 | .call c => match c.callee with
  | .value (.func g) => (d.form g).isSome
  | _ => false
 | _ => false
/-- A call of a function. -/
def denCall (d : Cf) (C : FuncId → List PV → Option PV) (g : FuncId) (s : St) (dst : Option Tmp) (args : List PV) (quiet : Bool) (K : St → Option PV) : Option PV := match P.funcs[g]? with
 | none => none
 | some fn => if fn.body.isSome = true ∧ (fn.name == "runtime.NumGoroutine") = false then
   (match outL P d.d s.h fn.params.toList args with
   | none => none
   | some as => if ((resSh P d.d fn.resultTypes.toList).flat || (!quiet && args.all noBuf)) = true then
     (C g as).bind fun r => if hasSh (resSh P d.d fn.resultTypes.toList) r = true then K (s.put dst (rebuild (resSh P d.d fn.resultTypes.toList) r)) else none
    else none)
  else none
def bytesT (t : TypeId) : Nat := match P.info? t with
 | some i => i.bytes
 | none => 0
def zeroOk (t : TypeId) : Bool := match P.info? t with
 | some i => match i.zero with
  | some z => z.cells.size == i.size
  | none => false
 | none => false
/-- Rows that no append may grow stand under a type that says so. -/
def markT (t : TypeId) : Bool := match P.underlying t with
 | some .bool => true
 | _ => false
def markOf : TypeId := ((List.range 40).find? fun t => markT P t && sizeT P t == 1).getD 0
/-- A text's bytes, as elements. -/
def strB (s : ByteArray) : List PV := s.data.toList.map fun b => .sc (.int .u8 b.toNat)
def appendTo (e : TypeId) (ys : List PV) (a : PV) (s : St) (dst : Option Tmp) (K : St → Option PV) : Option PV := match a with
 | .nils => if ys.length * bytesT P e ≤ 140737488355328 ∧ ys.length ≤ 140737488355328 then K (St.put { s with h := s.h ++ [HObj.buf e 0 ys] } dst (PV.buf s.h.length 0)) else none
 | .buf b ver => match s.h[b]? with
  | some (.buf e0 ver' xs) => if ver = ver' ∧ e0 = e ∧ markT P e = false then (if (xs.length + ys.length) * bytesT P e ≤ 140737488355328 ∧ xs.length + ys.length ≤ 140737488355328 then K (St.put { s with h := s.h.put b (.buf e (ver + 1) (xs ++ ys)) } dst (PV.buf b (ver + 1))) else none) else none
  | _ => none
 | _ => none
/-- uint8, and nothing else. -/
def isByteT (e : TypeId) : Bool := match P.underlying e, P.info? e with
 | some (.int .u8), some i => (match i.zero with | some (.int .u8 0) => i.size == 1 && i.bytes == 1 | _ => false)
 | _, _ => false
def denAppend (ts : Array TypeId) (s : St) (dst : Option Tmp) (args : List PV) (K : St → Option PV) : Option PV := match ts[0]?, ts[1]?, (ts[0]?).bind P.underlying, args with
 | some t, some t', some (.slice e), [a, x] => if t = t' then (if 0 < sizeT P e ∧ zeroOk P e = true then (match elems P s.h (sizeT P e) x with
  | none => none
  | some ys => appendTo P e ys a s dst K) else none)
  else (match P.underlying t', x with
   | some .string, .sc (.string str) => if isByteT P e = true then appendTo P e (strB str) a s dst K else none
   | _, _ => none)
 | _, _, _, _ => none
/-- An own slice has another count from here on. -/
def upC (b n : Nat) (x : PV) : PV := match x with
 | .buf c ver => if c = b ∧ ver = n then .buf b (n + 1) else .buf c ver
 | x => x
def upPV (b n : Nat) (x : PV) : PV := match x with
 | .agg cs => .agg (cs.map (upC b n))
 | x => upC b n x
def upO (b n : Nat) (o : HObj) : HObj := match o with
 | .cells t cs => .cells t (cs.map (upC b n))
 | o => o
/-- An element with other cells from a place on. -/
def putE (y : PV) (k o : Nat) (x : PV) : PV := if x.cells.length = k then x else .agg (replace y.cells o x.cells)
/-- An element of an own slice is written; a text's bytes become an own slice. -/
def denElt (t : TypeId) (b ver j k q : Nat) (x : PV) (s : St) (dst : Option Tmp) (K : St → Option PV) : Option PV := match s.h[b]? with
 | some (.buf e0 ver' xs) => if ver = ver' ∧ k = sizeT P e0 ∧ 0 < sizeT P t ∧ x.plainE = true ∧ x.cells.length = sizeT P t ∧ q + sizeT P t ≤ k then (if j < xs.length then
   K (St.put ⟨s.fr.map (upPV b ver), (s.h.map (upO b ver)).set b (.buf e0 (ver + 1) (xs.set j (putE (xs.getD j .top) k q x))), s.m⟩ dst .top) else none) else none
 | _ => none
def denConv (x : PV) (s : St) (dst : Option Tmp) (K : St → Option PV) : Option PV := match x with
 | .sc (.string str) => if markT P (markOf P) = true ∧ sizeT P (markOf P) = 1 then K (St.put { s with h := s.h ++ [HObj.buf (markOf P) 0 (strB str)] } dst (.buf s.h.length 0)) else none
 | _ => none
def memOp (s : St) (o : Oper) : Bool := match o.op with
 | .store _ a _ => (match s.ρ a with
  | .eptr _ _ _ _ _ _ => true
  | _ => false)
 | .convert s d _ => (match P.underlying s, P.underlying d with
  | some .string, some (.slice e) => isByteT P e
  | _, _ => false)
 | _ => false
def denMem (o : Oper) (s : St) (K : St → Option PV) : Option PV := match o.op with
 | .store t a x => (match s.ρ a with
  | .eptr b ver j k q _ => denElt P t b ver j k q (s.ρ x) s o.dst K
  | _ => none)
 | .convert _ _ x => denConv P (s.ρ x) s o.dst K
 | _ => none
/-- A slice that is written out. -/
def denLit (t : TypeId) (len : Nat) (ps : List (Nat × PV)) (s : St) (dst : Option Tmp) (K : St → Option PV) : Option PV := match P.underlying t with
 | some (.slice e) => if ps.length = len ∧ 0 < sizeT P e ∧ len ≤ 100 ∧ len * sizeT P e ≤ 16777216 ∧ zeroOk P e = true ∧ (ps.map (·.1)) = List.range len ∧ (ps.all fun p => p.2.plainE && p.2.cells.length == sizeT P e) = true then
   K (St.put { s with h := s.h ++ [HObj.buf e 0 (ps.map (·.2))] } dst (PV.buf s.h.length 0)) else none
 | _ => none
/-- What of the own objects an operation may change: (none: whatever). -/
def wrX (s : St) (o : Oper) : Option (List Nat) := match o.op with
 | .call c => match c.callee with
  | .value _ => some []
  | .builtin .append => (match (c.args.toList.map s.ρ).head? with
   | some (.buf b _) => some [b]
   | _ => some [])
  | .builtin _ => some []
  | .invoke _ _ => none
 | .buildSlice _ _ ps => some ((ps.toList.map fun p => s.ρ p.2).flatMap bufsOf)
 | _ => none
def denExec (d : Cf) (C : FuncId → List PV → Option PV) (quiet : Bool) (o : Oper) (s : St) (K : St → Option PV) : Option PV := match o.op with
 | .call c => match c.callee with
  | .value f => match s.ρ f with
   | .sc (.func (.func g) _ _) => denCall P d C g s o.dst (c.args.toList.map s.ρ) quiet K
   | _ => none
  | .builtin .append => if quiet = true then none else denAppend P c.argTypes s o.dst (c.args.toList.map s.ρ) K
  | .builtin b => match denBuiltinH P s.h b c.argTypes (c.args.toList.map s.ρ) with
   | some x => K (s.put o.dst x)
   | none => none
  | .invoke _ _ => none
 | .buildSlice t len ps => if quiet = true then none else if ((ps.toList.map fun p => s.ρ p.2).flatMap bufsOf).isEmpty = true then denLit P t len (ps.toList.map fun p => (p.1, s.ρ p.2)) s o.dst K
  else denLit P t len (ps.toList.map fun p => (p.1, givePV P s.h ((ps.toList.map fun p => s.ρ p.2).flatMap bufsOf) (s.ρ p.2))) (s.give P ((ps.toList.map fun p => s.ρ p.2).flatMap bufsOf)) o.dst K
 | op => denOp P s.ρ s.h op fun x h => K (St.put { s with h := h } o.dst x)
def denOper (d : Cf) (C : FuncId → List PV → Option PV) (quiet : Bool) (ops : Array Oper) (o : Oper) (s : St) (K : St → Option PV) : Option PV := match o.guard with
 | none => denExec P d C quiet o s K
 | some (j, want) => match (ops[j]?).bind (·.dst) with
  | none => none
  | some g => match s.fr.getD g .top with
   | .sc (.bool b) => if b = true then
     (if want = true then denExec P d C quiet o { s with fr := s.fr.set g (.sc (.bool true)) } K else K (St.put { s with fr := s.fr.set g (.sc (.bool true)) } o.dst (.tup [])))
    else (if want = true then K (St.put { s with fr := s.fr.set g (.sc (.bool false)) } o.dst (.tup [])) else denExec P d C quiet o { s with fr := s.fr.set g (.sc (.bool false)) } K)
   | .tup [] => K (s.put o.dst (.tup []))
   | _ => none
/-- Operations that leave memory alone. -/
def quietOp (o : Oper) : Bool := match o.op with
 | .move _ | .assign _ | .pick _ _ _ | .build _ _ | .load _ _ | .nilCheck _ | .binOp _ _ _ _ _ | .unOp _ _ _ | .convert _ _ _ | .makeFunc _ _ _ | .fieldAddr _ _ _ | .field _ _ _ | .indexAddr _ _ _ | .index _ _ _ | .slice _ _ _ _ _ | .extract _ _ => true
 | .call c => match c.callee with
  | .value _ => true
  | .builtin .len | .builtin .max | .builtin .min => true
  | _ => false
 | _ => false
/-- The operations up to the pick by slot g, if all ahead of it have a guard and leave memory alone: (with the pick; its slot; what follows). -/
def cutPick (g : Tmp) : List Oper → Option (List Oper × Tmp × List Oper)
 | [] => none
 | o :: l => if quietOp o = true then (match o.op, o.dst with
  | .pick (.tmp c) _ _, some pd => if c = g then some ([o], pd, l) else (match cutPick g l, o.guard with
   | some (xs, pd', l'), some _ => some (o :: xs, pd', l')
   | _, _ => none)
  | _, _ => match cutPick g l, o.guard with
   | some (xs, pd', l'), some _ => some (o :: xs, pd', l')
   | _, _ => none) else none
def groupOf (d : Cf) (ops : Array Oper) (s : St) (o : Oper) (rest : List Oper) : Option (List Oper × Tmp × List Oper) := match o.guard with
 | some (j, _) => match (ops[j]?).bind (·.dst) with
  | some g => if (quietOp o && (s.fr.getD g .top).isBool) = true then (match cutPick g rest with
   | some (xs, pd, l') => if ((o :: xs).any (handT d)) = true then none else some (xs, pd, l')
   | none => none) else none
  | none => none
 | none => none
def boolOf (x : PV) : Option PV := match x with
 | .sc (.bool b) => some (.sc (.bool b))
 | _ => none
/-- A guard ahead of what is done (X), or not (K). -/
def guarded (ops : Array Oper) (o : Oper) (s : St) (X K : St → Option PV) : Option PV := match o.guard with
 | none => X s
 | some (j, want) => match (ops[j]?).bind (·.dst) with
  | none => none
  | some g => match s.fr.getD g .top with
   | .sc (.bool b) => if b = true then
     (if want = true then X { s with fr := s.fr.set g (.sc (.bool true)) } else K (St.put { s with fr := s.fr.set g (.sc (.bool true)) } o.dst (.tup [])))
    else (if want = true then K (St.put { s with fr := s.fr.set g (.sc (.bool false)) } o.dst (.tup [])) else X { s with fr := s.fr.set g (.sc (.bool false)) })
   | .tup [] => K (s.put o.dst (.tup []))
   | _ => none
def dstsOf (l : List Oper) : List Tmp := l.filterMap (·.dst)
def dropSlots (ds : List Tmp) : Nat → List PV → List PV
 | _, [] => []
 | i, x :: xs => (if ds.contains i = true then .top else x) :: dropSlots ds (i + 1) xs
def St.forget (s : St) (ds : List Tmp) : St := { s with fr := dropSlots ds 0 s.fr }
/-- Operations in their order. What an 'and' or an 'or' guards is brought to one truth. -/
def denOpsF (d : Cf) (C : FuncId → List PV → Option PV) (quiet : Bool) (ops : Array Oper) : Nat → List Oper → (St → Option PV) → St → Option PV
 | _, [], K, s => K s
 | 0, _, _, _ => none
 | f + 1, o :: rest, K, s => match groupOf d ops s o rest with
  | some (xs, pd, rest') => (denOper P d C quiet ops o s fun s2 => denOpsF d C quiet ops f xs (fun s3 => boolOf (s3.fr.getD pd .top)) s2).bind fun r => denOpsF d C quiet ops f rest' K ((s.forget (dstsOf (o :: xs))).put (some pd) (.sc (.bool r.toBool)))
  | none => if (!quiet && o.guard.isNone && handOp P d s o) = true then denHand P d C o s (fun s' => denOpsF d C quiet ops f rest K s') else if (!quiet && o.guard.isNone && giveOp P d s o) = true then denGive P d C o s (fun s' => denOpsF d C quiet ops f rest K s') else if (!quiet && o.guard.isNone && memOp P s o) = true then denMem P o s (fun s' => denOpsF d C quiet ops f rest K s') else denOper P d C quiet ops o s fun s' => denOpsF d C quiet ops f rest K s'
/-- Operations with a handed call behind a guard, in their order. -/
def denOpsH (d : Cf) (C : FuncId → List PV → Option PV) (ops : Array Oper) : List Oper → (St → Option PV) → St → Option PV
 | [], K, s => K s
 | o :: rest, K, s => if (o.guard.isNone && handOp P d s o) = true then denHand P d C o s (fun s' => denOpsH d C ops rest K s')
  else if (o.guard.isSome && handT d o) = true then guarded ops o s (fun s1 => denHand P d C o s1 (fun s' => denOpsH d C ops rest K s')) (fun s' => denOpsH d C ops rest K s')
  else denOper P d C false ops o s fun s' => denOpsH d C ops rest K s'
def hardOps (d : Cf) (l : List Oper) : Bool := l.any fun o => o.guard.isSome && handT d o
def denOps (d : Cf) (C : FuncId → List PV → Option PV) (quiet : Bool) (ops : Array Oper) (l : List Oper) (K : St → Option PV) (s : St) : Option PV := match (!quiet && hardOps d l) with
 | true => denOpsH P d C ops l K s
 | false => denOpsF P d C quiet ops (l.length + 1) l K s
/-- In a region that draws its order: what is taken first (it leaves memory alone and is no call). -/
def tamesOp (o : Oper) : Bool := match o.op with
 | .call c => match c.callee with
  | .builtin .len | .builtin .max | .builtin .min => true
  | _ => false
 | _ => quietOp o
def callsOp (o : Oper) : Bool := match o.op with
 | .call c => match c.callee with
  | .value _ => true
  | _ => false
 | _ => false
def calmOp (d : Cf) (o : Oper) : Bool := quietOp o && !handT d o && (!callsOp o || (match P.underlying o.type with
 | some (.tuple ts) => ts.toList.all fun t => (shOf P d.d t).flat
 | _ => (shOf P d.d o.type).flat))
def headLen (d : Cf) : List Oper → Nat
 | [] => 0
 | o :: l => if (quietOp o && !handT d o) = true then headLen d l + 1 else 0
def planFrom (ops : Array Oper) (n : Nat) : Nat → Array Bool → Option (List Nat)
 | 0, listed => if Region.seqB .any ops (ops.size - n) n listed = true then some [] else none
 | f + 1, listed => match (Region.ready .any ops listed).find? (fun i => decide (i < n) && (((ops[i]?).map tamesOp).getD false && Region.free .any ops listed i)) with
  | some i => (planFrom ops n f (listed.setIfInBounds i true)).map (i :: ·)
  | none => match Region.ready .any ops listed with
   | [i] => if (decide (i < n) && ((ops[i]?).map callsOp).getD false) = true then (planFrom ops n f (listed.setIfInBounds i true)).map (i :: ·) else none
   | _ => none
def planOf (ops : Array Oper) (n : Nat) : Option (List Nat) := if (Region.noSelect ops && (decide (n = ops.size) || (decide (n < ops.size) && (Region.sinkB .any ops n && Region.chainB .any ops n)))) = true then planFrom ops n n (Array.replicate ops.size false) else none
def denPlan (d : Cf) (C : FuncId → List PV → Option PV) (ops : Array Oper) : List Nat → (St → Option PV) → St → Option PV
 | [], K, s => K s
 | i :: l, K, s => match ops[i]? with
  | some o => denOper P d C false ops o s fun s' => denPlan d C ops l K s'
  | none => none
/-- Variables that are made between calls: made in whatever order. -/
def allocOp (o : Oper) : Bool := match o.op with
 | .alloc t => o.guard.isNone && o.dst.isSome && (zeroT P t).known
 | _ => false
def isAlloc (ops : Array Oper) (i : Nat) : Bool := ((ops[i]?).map (allocOp P)).getD false
def allocIx (ops : Array Oper) : List Nat := (List.range ops.size).filter fun i => isAlloc P ops i
def markL (l : List Nat) (listed : Array Bool) : Array Bool := l.foldl (fun a i => a.setIfInBounds i true) listed
/-- First what does not need them: (reads first, calls one by one). -/
def planP (ops : Array Oper) (al : List Nat) : Nat → Array Bool → List Nat
 | 0, _ => []
 | f + 1, listed => match (Region.ready .any ops listed).find? (fun i => ((ops[i]?).map tamesOp).getD false && Region.free .any ops listed i) with
  | some i => i :: planP ops al f (listed.setIfInBounds i true)
  | none => match Region.ready .any ops (markL al listed) with
   | [i] => if (((ops[i]?).map callsOp).getD false && Region.free .any ops listed i && (Region.ready .any ops listed).contains i) = true then i :: planP ops al f (listed.setIfInBounds i true) else []
   | _ => []
def waitsB (ops : Array Oper) (al : List Nat) (listed : Array Bool) : Bool := (List.range ops.size).all fun j => listed.getD j true || isAlloc P ops j || (match ops[j]? with
 | some o => (al.all fun i => o.after.any fun e => Region.binds .any e && e.on == i) || (o.after.any fun e => Region.binds .any e && !listed.getD e.on false && !isAlloc P ops e.on)
 | none => true)
/-- Then the rest. -/
def planS (ops : Array Oper) : Nat → Array Bool → Option (List Nat)
 | 0, listed => if (Region.ready .any ops listed).isEmpty = true then some [] else none
 | f + 1, listed => match (Region.ready .any ops listed).find? (fun i => ((ops[i]?).map tamesOp).getD false && Region.free .any ops listed i) with
  | some i => (planS ops f (listed.setIfInBounds i true)).map (i :: ·)
  | none => match Region.ready .any ops listed with
   | [] => some []
   | [i] => (planS ops f (listed.setIfInBounds i true)).map (i :: ·)
   | _ => none
def planB (ops : Array Oper) : Option (List Nat × List Nat) :=
 let al := allocIx P ops
 let l1 := if al.isEmpty = true then [] else planP ops al ops.size (Array.replicate ops.size false)
 if (Region.noSelect ops && waitsB P ops al (markL l1 (Array.replicate ops.size false)) && (al.all fun i => (match ops[i]? with
  | some o => o.after.all fun e => !Region.binds .any e
  | none => false)) && (ops.toList.all fun o => o.guard.isNone) && decide (l1.length + al.length ≤ ops.size)) = true then
  (planS ops (ops.size - l1.length - al.length) (markL al (markL l1 (Array.replicate ops.size false)))).map fun l2 => (l1, l2)
 else none
/-- A region in which something is made, or handed on: what reads no own memory at any time, the rest when nothing else can come. -/
def planR (ops : Array Oper) : Nat → Array Bool → Option (List (Nat × Bool))
 | 0, listed => if (Region.ready .any ops listed).isEmpty = true then some [] else none
 | f + 1, listed => match Region.ready .any ops listed with
  | [] => some []
  | [i] => (planR ops f (listed.setIfInBounds i true)).map ((i, false) :: ·)
  | l => match l.find? (fun i => ((ops[i]?).map tamesOp).getD false && Region.free .any ops listed i) with
   | some i => (planR ops f (listed.setIfInBounds i true)).map ((i, true) :: ·)
   | none => none
def hardR (d : Cf) (ops : Array Oper) : Bool := Region.noSelect ops && (ops.toList.all fun o => o.guard.isNone) && ops.toList.any fun o => handT d o || (match o.op with
 | .buildSlice _ _ _ => true
 | .call c => (match c.callee with
  | .builtin .append => true
  | _ => false)
 | _ => false)
def waitsFor (o : Oper) (i : Nat) : Bool := o.after.any fun e => Region.binds .any e && e.on == i
def readB (ρ : Operand → PV) : Op → List Nat
 | .load _ a => (match ρ a with
  | .ptr b _ => [b]
  | .eptr b _ _ _ _ _ => [b]
  | .buf b _ => [b]
  | _ => [])
 | .convert _ _ a => (match ρ a with
  | .ptr b _ => [b]
  | .eptr b _ _ _ _ _ => [b]
  | .buf b _ => [b]
  | _ => [])
 | _ => []
def handWr (d : Cf) (o : Oper) (s : St) : List Nat := match o.op with
 | .call c => match c.callee with
  | .value f => match s.ρ f with
   | .sc (.func (.func g) _ _) => match d.form g with
    | some (F, _) => match handIn P F (c.args.toList.map s.ρ) (s.give P ((c.args.toList.map s.ρ).flatMap bufsOf)) with
     | some (L, _, _) => L ++ (c.args.toList.map s.ρ).flatMap bufsOf
     | none => []
    | none => []
   | _ => []
  | _ => []
 | _ => []
/-- Is nothing changed that was read too early? -/
def okD (D : List (Nat × List Nat)) : Option (List Nat) → Bool
 | none => D.isEmpty
 | some wr => D.all fun x => x.2.all fun b => !wr.contains b
def leftD (D : List (Nat × List Nat)) (o : Oper) : List (Nat × List Nat) := D.filter fun x => !waitsFor o x.1
def denPlanR (d : Cf) (C : FuncId → List PV → Option PV) (ops : Array Oper) : List (Nat × Bool) → List (Nat × List Nat) → (St → Option PV) → St → Option PV
 | [], _, K, s => K s
 | (i, early) :: l, D, K, s => match ops[i]? with
  | some o => if early = true then denExec P d C false o s (fun s' => denPlanR d C ops l ((i, readB s.ρ o.op) :: D) K s')
   else if tamesOp o = true then denExec P d C false o s (fun s' => denPlanR d C ops l (leftD D o) K s')
   else if handOp P d s o = true then (if okD (leftD D o) (some (handWr P d o s)) = true then denHand P d C o s (fun s' => denPlanR d C ops l (leftD D o) K s') else none)
   else if okD (leftD D o) (wrX s o) = true then denExec P d C false o s (fun s' => denPlanR d C ops l (leftD D o) K s') else none
  | none => none
def placeOf : List Nat → Nat → Option Nat
 | [], _ => none
 | x :: l, b => if x = b then some 0 else (placeOf l b).map (· + 1)
/-- What a region writes. -/
def baseOf (ops : Array Oper) (al : List Nat) (s : St) : Nat → Operand → List Nat
 | 0, _ => []
 | f + 1, x => match x with
  | .tmp t => match (List.range ops.size).find? (fun i => ((ops[i]?).bind (·.dst)) == some t) with
   | some i => match (ops[i]?).map (fun o : Oper => o.op) with
    | some (.fieldAddr _ x _) => baseOf ops al s f x
    | some (.indexAddr _ x _) => baseOf ops al s f x
    | some (.nilCheck x) => baseOf ops al s f x
    | some (.move x) => baseOf ops al s f x
    | some (.assign x) => baseOf ops al s f x
    | some (.alloc _) => match placeOf al i with
     | some k => [s.h.length + k]
     | none => []
    | _ => []
   | none => match s.fr.getD t .top with
    | .ptr b _ => [b]
    | _ => []
  | _ => []
def writesOf (ops : Array Oper) (al : List Nat) (s : St) : List Nat := ops.toList.flatMap fun o => match o.op with
 | .store _ a _ => baseOf ops al s 6 a
 | _ => []
def okW (W : List Nat) (s : St) (o : Oper) : Bool := match o.op with
 | .store _ a _ => (match s.ρ a with
  | .ptr b _ => W.contains b
  | _ => true)
 | _ => callsOp o || (tamesOp o && readsOk W s.ρ o.op)
def denPlanW (d : Cf) (C : FuncId → List PV → Option PV) (ops : Array Oper) (W : List Nat) : List Nat → (St → Option PV) → St → Option PV
 | [], K, s => K s
 | i :: l, K, s => match ops[i]? with
  | some o => if okW W s o = true then denExec P d C false o s (fun s' => denPlanW d C ops W l K s') else none
  | none => none
def denAllocs (ops : Array Oper) : List Nat → (St → Option PV) → St → Option PV
 | [], K, s => K s
 | i :: l, K, s => match ops[i]? with
  | some o => denOp P s.ρ s.h o.op fun x h => denAllocs ops l K (St.put { s with h := h } o.dst x)
  | none => none
def dstAt (ops : Array Oper) (i : Nat) : Option Tmp := (ops[i]?).bind fun o => o.dst
def allocApart (ops : Array Oper) (s : St) : Bool := (allocIx P ops).all fun i => (match dstAt ops i with
 | some d => decide (d < s.fr.length)
 | none => false) && (allocIx P ops).all fun j => i == j || dstAt ops i != dstAt ops j
def denRegion (d : Cf) (C : FuncId → List PV → Option PV) (ops : Array Oper) (draw : Bool) (K : St → Option PV) (s : St) : Option PV :=
 if draw = true then (if (Region.lexB .any ops && ops.toList.all (calmOp P d)) = true then denOps P d C true ops ops.toList K s else
  match planOf ops (headLen d ops.toList) with
  | some l => denPlan P d C ops l (fun s' => denOps P d C false ops (ops.toList.drop (headLen d ops.toList)) K s') s
  | none => match planOf ops 0 with
  | some l => denPlan P d C ops l (fun s' => denOps P d C false ops (ops.toList.drop 0) K s') s
  | none => if hardR d ops = true then (match planR ops ops.size (Array.replicate ops.size false) with
   | some l => denPlanR P d C ops l [] K s
   | none => none) else match planB P ops with
   | some (l1, l2) => if allocApart P ops s = true then denPlanW P d C ops (writesOf ops (allocIx P ops) s) l1 (fun s' => denAllocs P ops (allocIx P ops) (fun s2 => denPlanW P d C ops (writesOf ops (allocIx P ops) s) l2 K s2) s') (s.forget ((allocIx P ops).filterMap (dstAt ops))) else none
   | none => none)
 else denOps P d C false ops ops.toList K s

def loopN (T : St → St) (F : (St → Option PV) → St → Option PV) : Nat → St → Option PV
 | 0, _ => none
 | n + 1, s => F (fun s2 => loopN T F n (T s2)) s
def firstId : Code → Nat
 | .region id _ _ => id
 | .seq a _ => firstId a
 | .block _ c => firstId c
 | .loop c => firstId c
 | _ => 0
/-- Where ways meet: what is not kept is forgotten. (It does nothing else; but whoever unfolds stops at the letter k.) -/
def gateK (k : Nat) : (St → Option PV) → St → Option PV := match k with
 | 0 => fun F s => F s
 | _ + 1 => fun F s => F s
def gate (h : Option (List Nat × Nat)) (k : Nat) (F : St → Option PV) (s : St) : Option PV := match h with
 | none => F s
 | some x => gateK k F (tidy (some x) s)
abbrev Loops := (St → St) → ((St → Option PV) → St → Option PV) → St → Option PV
def lpN (k : Nat) : Loops := fun T F s => loopN T F k (T s)
def denC (d : Cf) (C : FuncId → List PV → Option PV) (hint : Nat → Option (List Nat × Nat)) (lp : Loops) (k : Nat) : Code → (Nat → St → Option PV) → (St → Option PV) → (St → Option PV) → St → Option PV
 | .skip, _, _, K, s => K s
 | .label _, _, _, K, s => K s
 | .region _ ops draw, _, _, K, s => denRegion P d C ops draw K s
 | .seq a b, X, R, K, s => denC d C hint lp k a X R (gate (hint (1000000 + firstId b)) k (fun s' => denC d C hint lp k b X R K s')) s
 | .cond c t e, X, R, K, s => match c with
  | .tmp x => match s.fr.getD x .top with
   | .sc (.bool b) => if b = true then denC d C hint lp k t X R K { s with fr := s.fr.set x (.sc (.bool true)) } else denC d C hint lp k e X R K { s with fr := s.fr.set x (.sc (.bool false)) }
   | _ => none
  | .const (.bool b) => if b = true then denC d C hint lp k t X R K s else denC d C hint lp k e X R K s
  | _ => none
 | .block id c, X, R, K, s => denC d C hint lp k c (fun j s' => if j = id then K s' else X j s') R K s
 | .exit id, X, _, _, s => X id s
 | .loop c, X, R, _, s => lp (tidy (hint (firstId c))) (fun L s2 => denC d C hint lp k c X R L s2) s
 | .ret, _, R, _, s => R s
 | _, _, _, _, _ => none
def resV (s : St) : ResultVar → Option PV
 | .tmp t => some (s.fr.getD t .top)
 | .cell a t => match behind s.h (s.fr.getD a .top) with
  | some cs => readVar P t cs
  | none => none
def resL (s : St) : List ResultVar → Option (List PV)
 | [] => some []
 | r :: rs => match resV P s r, resL s rs with
  | some x, some xs => some (x :: xs)
  | _, _ => none
def retH (d : Cf) (m : Nat) (fn : Func) (s : St) : Option PV := match resL P s fn.results.toList with
 | none => none
 | some xs => match outPL P d.d s.h fn.resultTypes.toList xs with
  | none => none
  | some ys => (fun s1 : St => (fun L : List Nat => some (.tup [.hp (L.map fun c => encO (tidyAt L s1.h s1.h[c]?)), (match ys with | [y] => renA L y | ys => .tup (ys.map (renA L)))]))
    (closeL s1.h ((xs.flatMap fun x => if isPtr x = true then refsOf x else []).foldl (addNew s1.h.length) (List.range (min m s1.h.length))))) (s.give P (xs.flatMap bufsOf))
def retV (d : Cf) (fn : Func) (s : St) : Option PV := match s.m with
 | some m => retH P d m fn s
 | none => match resL P s fn.results.toList with
  | none => none
  | some xs => match outL P d.d s.h fn.resultTypes.toList xs with
   | none => none
   | some [y] => some y
   | some ys => some (.tup ys)
def denBody (d : Cf) (C : FuncId → List PV → Option PV) (hint : Nat → Option (List Nat × Nat)) (lp : Loops) (k : Nat) (fn : Func) (args : List PV) : Option PV := match fn.body with
 | none => none
 | some c => match args with
  | .hp objs :: as => denC P d C hint lp k c (fun _ _ => none) (retV P d fn) (retV P d fn) ⟨as ++ List.replicate (fn.ntmps - as.length) .top, objs.map decO, some objs.length⟩
  | args => denC P d C hint lp k c (fun _ _ => none) (retV P d fn) (retV P d fn) ⟨args ++ List.replicate (fn.ntmps - args.length) .top, [], none⟩
/-- What a function answers. -/
def den (d : Cf) (ext : FuncId → Option (List PV → Option PV)) (hint : FuncId → Nat → Option (List Nat × Nat)) : Nat → FuncId → List PV → Option PV
 | 0, _, _ => none
 | k + 1, f, args => match ext f with
  | some g => g args
  | none => match P.funcs[f]? with
   | some fn => denBody P d (den d ext hint k) (hint f) (lpN k) k fn args
   | none => none
end
end Go.Den
