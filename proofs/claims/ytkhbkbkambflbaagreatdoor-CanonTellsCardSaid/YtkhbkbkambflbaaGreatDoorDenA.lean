/- A plain reading of the program's code: values without memory (but for what a call itself makes), one function 'den' over the code's own text. Proved sound in the texts behind this one. -/
import Derived.Below
import Derived.Tactics
import Derived.Deep.LoopGhost
import Derived.Deep.Quiet
import Derived.StillTail
namespace Go.Den
open Go

/-- A value as it is read. -/
inductive PV where
 | sc (v : Value)
 | agg (cs : List PV)
 | tup (cs : List PV)
 | lst (k n : Nat) (f : Nat → PV)
 | nils
 | ptr (b off : Nat)
 | buf (b ver : Nat)
 | iptr (cs : List PV)
 | eptr (b ver j k o : Nat) (cs : List PV)
 | selfp (b : Nat)
 | hp (cs : List PV)
 | top

/-- What a call itself has made. -/
inductive HObj where
 | cells (t : TypeId) (cs : List PV)
 | buf (e : TypeId) (ver : Nat) (xs : List PV)
 | gone

/-- A text's byte. -/
def bt (s : ByteArray) (i : Int) : Int := if h : i.toNat < s.size then (s[i.toNat]'h).toNat else 0
def PV.cells : PV → List PV
 | .agg cs => cs
 | x => [x]
/-- A value of one cell. -/
def PV.one : PV → Bool
 | .agg _ | .tup _ | .top => false
 | _ => true
def PV.known : PV → Bool
 | .top | .tup _ => false
 | _ => true
def PV.isTop : PV → Bool
 | .top => true
 | _ => false
def PV.toInt : PV → Int
 | .sc (.int _ n) => n
 | _ => 0
def PV.toBool : PV → Bool
 | .sc (.bool b) => b
 | _ => false
def PV.toStr : PV → ByteArray
 | .sc (.string s) => s
 | _ => ⟨#[]⟩
def PV.isInt (k : IntKind) : PV → Bool
 | .sc (.int k' _) => k' == k
 | _ => false
def PV.isBool : PV → Bool
 | .sc (.bool _) => true
 | _ => false
def PV.isStr : PV → Bool
 | .sc (.string _) => true
 | _ => false
def PV.len : PV → Nat
 | .lst _ n _ => n
 | _ => 0
def PV.at (x : PV) (i : Nat) : PV := match x with
 | .lst _ _ f => f i
 | _ => .top
def PV.isLst (k : Nat) : PV → Bool
 | .lst k' n _ => k' == k || n == 0
 | .nils => true
 | _ => false
def PV.parts : PV → List PV
 | .tup cs => cs
 | _ => []
def scOk : Value → Bool
 | .int _ _ => true
 | .bool _ => true
 | .string _ => true
 | .nilFunc => true
 | .pointer none => true
 | .func (.func _) a b => a.isEmpty && b.isEmpty
 | _ => false
def ofC (v : Value) : PV := if scOk v = true then .sc v else match v with
 | .slice none 0 0 => .nils
 | _ => .top
def ofV : Value → PV
 | .agg cs => .agg (cs.toList.map ofC)
 | v => ofC v

/-- The shape of what a call hands back. -/
inductive Sh where
 | int (k : IntKind)
 | bool
 | str
 | agg (l : List Sh)
 | tup (l : List Sh)
 | lst (k : Nat)
 | any

mutual
def hasSh : Sh → PV → Bool
 | .int k, x => x.isInt k
 | .bool, x => x.isBool
 | .str, x => x.isStr
 | .agg l, .agg cs => hasShL l cs
 | .agg _, _ => false
 | .tup l, .tup cs => hasShL l cs
 | .tup _, _ => false
 | .lst k, x => x.isLst k
 | .any, x => !x.isTop
def hasShL : List Sh → List PV → Bool
 | [], [] => true
 | s :: l, x :: cs => hasSh s x && hasShL l cs
 | _, _ => false
end
mutual
def rebuild : Sh → PV → PV
 | .int k, x => .sc (.int k x.toInt)
 | .bool, x => .sc (.bool x.toBool)
 | .str, x => .sc (.string x.toStr)
 | .agg l, x => .agg (rebuildL l x.cells)
 | .tup l, x => .tup (rebuildL l x.parts)
 | .lst k, x => .lst k x.len x.at
 | .any, x => x
def rebuildL : List Sh → List PV → List PV
 | [], _ => []
 | s :: l, cs => rebuild s (cs.headD .top) :: rebuildL l cs.tail
end
mutual
/-- Nothing but plain values: no memory. -/
def Sh.flat : Sh → Bool
 | .int _ | .bool | .str => true
 | .agg l | .tup l => Sh.flatL l
 | _ => false
def Sh.flatL : List Sh → Bool
 | [] => true
 | s :: l => s.flat && Sh.flatL l
end

/-- A cell's place. -/
def cel : Nat → List PV → PV
 | 0, cs => cs.headD .top
 | j + 1, cs => cel j cs.tail
section
variable (P : Program)
/-- The shape of a type; nested deeper than d: any. -/
def shOf : Nat → TypeId → Sh
 | 0, _ => .any
 | d + 1, t => match P.underlying t with
  | some (.int k) => .int k
  | some .bool => .bool
  | some .string => .str
  | some (.struct fs) => .agg (fs.toList.flatMap fun f => match shOf d f.type with | .agg l => l | s => [s])
  | some (.array n e) => .agg ((List.range n).flatMap fun _ => match shOf d e with | .agg l => l | s => [s])
  | some (.slice e) => match P.info? e with
   | some i => .lst i.size
   | none => .any
  | _ => .any
def isAggD (d : TypeDesc) : Bool := match d with
 | .struct _ | .array _ _ => true
 | _ => false

abbrev Heap := List HObj
def Heap.put (h : Heap) (b : Nat) (o : HObj) : Heap := h.set b o

/-- The cells behind a pointer. -/
def behind (h : Heap) : PV → Option (List PV)
 | .ptr b off => match h[b]? with
  | some (.cells _ cs) => some (cs.drop off)
  | _ => none
 | .iptr cs => some cs
 | .eptr b ver _ _ _ cs => match h[b]? with
  | some (.buf _ ver' _) => if ver = ver' then some cs else none
  | _ => none
 | _ => none
/-- Is nothing read that stands in W? -/
def freeOf (W : List Nat) (p : PV) : Bool := match p with
 | .ptr b _ => !W.contains b
 | .eptr b _ _ _ _ _ => !W.contains b
 | .buf b _ => !W.contains b
 | _ => true
def readsOk (W : List Nat) (ρ : Operand → PV) : Op → Bool
 | .load _ a => freeOf W (ρ a)
 | .convert _ _ x => freeOf W (ρ x)
 | _ => true
/-- A variable of a type out of its cells. -/
def readVar (t : TypeId) (cs : List PV) : Option PV := match P.info? t, P.underlying t with
 | some i, some d => if isAggD d = true then (if i.size ≤ cs.length then some (.agg (cs.take i.size)) else none) else cs[0]?
 | _, _ => none
abbrev replace (cs : List PV) (off : Nat) (vs : List PV) : List PV := cs.take off ++ vs ++ cs.drop (off + vs.length)
def sizeT (t : TypeId) : Nat := match P.info? t with
 | some i => i.size
 | none => 0
def zeroT (t : TypeId) : PV := match P.info? t with
 | some i => match i.zero with
  | some v => ofV v
  | none => .top
 | none => .top

/-- How long an own slice is. -/
def lenOf (h : Heap) (b : Builtin) (ts : Array TypeId) (args : List PV) : Option Nat := match b, args with
 | .len, [.buf c ver] => match ts[0]?.bind P.underlying, h[c]? with
  | some (.slice _), some (.buf _ ver' xs) => if ver = ver' then some xs.length else none
  | _, _ => none
 | _, _ => none
/-- The elements of a slice. -/
def elems (h : Heap) (k : Nat) (x : PV) : Option (List PV) := match x with
 | .nils => some []
 | .lst k' n f => if k' = k then some ((List.range n).map f) else none
 | .buf b ver => match h[b]? with
  | some (.buf e0 ver' xs) => if ver = ver' ∧ sizeT P e0 = k then some xs else none
  | _ => none
 | _ => none
/-- Bytes as a text. -/
def bytesOf (l : List PV) : ByteArray := ⟨(l.map fun x => UInt8.ofNat x.toInt.toNat).toArray⟩
def intBin (op : BinOp) (k : IntKind) (a b : Int) : Option Value := match op with
 | .add => some (.int k (k.wrap (a + b)))
 | .sub => some (.int k (k.wrap (a - b)))
 | .mul => some (.int k (k.wrap (a * b)))
 | .and => some (.int k (bits .and k a b))
 | .or => some (.int k (bits .or k a b))
 | .xor => some (.int k (bits .xor k a b))
 | .andNot => some (.int k (bits .andNot k a b))
 | .eql => some (.bool (a == b))
 | .neq => some (.bool (a != b))
 | .lss => some (.bool (decide (a < b)))
 | .leq => some (.bool (decide (a ≤ b)))
 | .gtr => some (.bool (decide (a > b)))
 | .geq => some (.bool (decide (a ≥ b)))
 | _ => none

/-- Parts put into the cells of a struct or an array. -/
def fillP (place : Nat → Option (Nat × Nat)) (cells : List PV) : List (Nat × PV) → Option (List PV)
 | [] => some cells
 | (i, v) :: rest => match place i with
  | none => none
  | some (off, size) => if v.cells.length = size ∧ off + size ≤ cells.length ∧ v.known = true then fillP place (replace cells off v.cells) rest else none
def buildP (t : TypeId) (parts : List (Nat × PV)) : Option (List PV) := match P.info? t, P.underlying t with
 | some it, some (.array _ e) => match it.zero, P.info? e with
  | some z, some ie => fillP (fun i => some (i * ie.size, ie.size)) (ofV z).cells parts
  | _, _ => none
 | some it, some (.struct fields) => match it.zero, fields.toList.mapM (fun f => (P.info? f.type).map fun i => (f.offset, i.size)) with
  | some z, some places => fillP (places.toArray[·]?) (ofV z).cells parts
  | _, _ => none
 | _, _ => none
/-- No memory that a call has made. -/
def PV.plain : PV → Bool
 | .sc _ | .lst _ _ _ | .nils => true
 | _ => false
def PV.plainE (x : PV) : Bool := x.known && x.cells.all PV.plain
/-- What a slice that is being built holds, as plain elements. -/
def frozen (k : Nat) (xs : List PV) : PV := .lst k xs.length fun i => xs.getD i .top

/-- Are two values the same? -/
def eqFs (E : TypeId → PV → PV → Option Bool) (xs ys : List PV) : List Field → Option Bool
 | [] => some true
 | f :: fs => if (f.name == "_") = true then none else match readVar P f.type (xs.drop f.offset), readVar P f.type (ys.drop f.offset) with
  | some a, some b => match E f.type a b, eqFs E xs ys fs with
   | some r, some s => some (r && s)
   | _, _ => none
  | _, _ => none
def eqP : Nat → TypeId → PV → PV → Option Bool
 | 0, _, _, _ => none
 | d + 1, t, x, y => match P.underlying t, x, y with
  | some .bool, .sc (.bool a), .sc (.bool b) => some (a == b)
  | some (.int _), .sc (.int k a), .sc (.int k' b) => if k = k' then some (a == b) else none
  | some .string, .sc (.string a), .sc (.string b) => some (a.toList == b.toList)
  | some (.struct fs), .agg xs, .agg ys => if P.stoodInHeld t = false then eqFs P (eqP d) xs ys fs.toList else none
  | _, _, _ => none
def isPtrT (t : TypeId) : Bool := match P.underlying t with
 | some (.pointer _) => true
 | _ => false
def denBin (op : BinOp) (t : TypeId) (x y : PV) (K : PV → Option PV) : Option PV := match op, x, y with
 | .shl, .sc (.int k a), .sc (.int _ b) => if 0 ≤ b then K (.sc (.int k (k.wrap (a * 2 ^ (min b.toNat k.bits))))) else none
 | .shr, .sc (.int k a), .sc (.int _ b) => if 0 ≤ b then K (.sc (.int k (a.fdiv (2 ^ (min b.toNat k.bits))))) else none
 | .quo, .sc (.int k a), .sc (.int k' b) => if k = k' ∧ b ≠ 0 then K (.sc (.int k (k.wrap (a.tdiv b)))) else none
 | .rem, .sc (.int k a), .sc (.int k' b) => if k = k' ∧ b ≠ 0 then K (.sc (.int k (a.tmod b))) else none
 | op, .sc (.int k a), .sc (.int k' b) => if k = k' then (match intBin op k a b with | some v => K (.sc v) | none => none) else none
 | .add, .sc (.string a), .sc (.string b) => if a.size + b.size ≤ 9223372036854775807 then K (.sc (.string (a ++ b))) else none
 | .eql, .sc (.string a), .sc (.string b) => K (.sc (.bool (a.toList == b.toList)))
 | .neq, .sc (.string a), .sc (.string b) => K (.sc (.bool (!(a.toList == b.toList))))
 | .eql, .sc (.pointer none), .sc (.pointer none) => if isPtrT P t = true then K (.sc (.bool true)) else none
 | .neq, .sc (.pointer none), .sc (.pointer none) => if isPtrT P t = true then K (.sc (.bool false)) else none
 | .eql, .ptr _ _, .sc (.pointer none) => if isPtrT P t = true then K (.sc (.bool false)) else none
 | .neq, .ptr _ _, .sc (.pointer none) => if isPtrT P t = true then K (.sc (.bool true)) else none
 | .eql, x, y => if P.eqGuardType P.depth t = false then (match eqP P 6 t x y with
  | some b => K (.sc (.bool b))
  | none => none) else none
 | .neq, x, y => if P.eqGuardType P.depth t = false then (match eqP P 6 t x y with
  | some b => K (.sc (.bool (!b)))
  | none => none) else none
 | _, _, _ => none
def denUn (op : UnOp) (x : PV) : Option PV := match op, x with
 | .neg, .sc (.int k n) => some (.sc (.int k (k.wrap (0 - n))))
 | .not, .sc (.bool b) => some (.sc (.bool !b))
 | _, _ => none
/-- One operation that is no call of a function. -/
def denOp (ρ : Operand → PV) (h : Heap) (o : Op) (K : PV → Heap → Option PV) : Option PV := match o with
 | .move x => K (ρ x) h
 | .assign x => K (ρ x) h
 | .pick c a b => match ρ c with
  | .sc (.bool t) => if t = true then K (ρ a) h else K (ρ b) h
  | _ => none
 | .alloc t => if (zeroT P t).known = true then K (.ptr h.length 0) (h ++ [.cells t (zeroT P t).cells]) else none
 | .box t x => if (ρ x).known = true then K (.ptr h.length 0) (h ++ [.cells t (ρ x).cells]) else none
 | .build t ps => match buildP P t (ps.toList.map fun p => (p.1, ρ p.2)) with
  | some cs => K (.agg cs) h
  | none => none
 | .load t a => match behind h (ρ a) with
  | some cs => match readVar P t cs with
   | some x => K x h
   | none => none
  | none => none
 | .store t a x => match ρ a with
  | .ptr b off => match h[b]? with
   | some (.cells t0 cs) => if (ρ x).known = true ∧ (ρ x).cells.all PV.one = true ∧ 0 < sizeT P t ∧ (ρ x).cells.length = sizeT P t ∧ off + sizeT P t ≤ cs.length then K .top (h.put b (.cells t0 (replace cs off (ρ x).cells))) else none
   | _ => none
  | _ => none
 | .nilCheck x => match ρ x with
  | .ptr b off => K (.ptr b off) h
  | .iptr cs => K (.iptr cs) h
  | .eptr b ver j k o cs => (match h[b]? with
   | some (.buf _ ver' _) => if ver = ver' then K (.eptr b ver j k o cs) h else none
   | _ => none)
  | _ => none
 | .binOp op t x y _ => denBin P op t (ρ x) (ρ y) fun v => K v h
 | .unOp op _ x => match denUn op (ρ x) with
  | some v => K v h
  | none => none
 | .convert s d x => match P.underlying s, P.underlying d, ρ x with
  | some _, some (.int k), .sc (.int _ n) => K (.sc (.int k (k.wrap n))) h
  | some .string, some .string, .sc (.string s) => K (.sc (.string s)) h
  | some (.slice e), some .string, y => (match P.underlying e with
   | some (.int .u8) => (match elems P h 1 y with
    | some ys => if ys.all (hasSh (.int .u8)) = true then K (.sc (.string (bytesOf ys))) h else none
    | none => none)
   | _ => none)
  | _, _, _ => none
 | .makeFunc (.func f) a b => if a.size = 0 ∧ b.size = 0 then K (.sc (.func (.func f) #[] #[])) h else none
 | .fieldAddr s x f => match P.underlying s with
  | some (.struct fs) => match fs[f]? with
   | some g => if sizeT P g.type = 0 then none else match ρ x with
    | .ptr b off => K (.ptr b (off + g.offset)) h
    | .iptr cs => K (.iptr (cs.drop g.offset)) h
    | .eptr b ver j k o cs => (match h[b]? with
     | some (.buf _ ver' _) => if ver = ver' then K (.eptr b ver j k (o + g.offset) (cs.drop g.offset)) h else none
     | _ => none)
    | _ => none
   | none => none
  | _ => none
 | .field s x f => match P.underlying s with
  | some (.struct fs) => match fs[f]?, ρ x with
   | some g, .agg cs => match readVar P g.type (cs.drop g.offset) with
    | some y => K y h
    | none => none
   | _, _ => none
  | _ => none
 | .indexAddr t x i => match P.underlying t, ρ i with
  | some (.slice e), .sc (.int _ n) => match ρ x with
   | .buf b ver => (match h[b]? with
    | some (.buf e0 ver' xs) => if ver = ver' ∧ 0 < sizeT P e ∧ sizeT P e0 = sizeT P e then (if 0 ≤ n then (if n < (xs.length : Int) then (if hasSh (shOf P 6 e) (xs.getD n.toNat .top) = true then K (.eptr b ver n.toNat (sizeT P e) 0 (rebuild (shOf P 6 e) (xs.getD n.toNat .top)).cells) h else none) else none) else none) else none
    | _ => none)
   | _ => if 0 < sizeT P e ∧ (ρ x).isLst (sizeT P e) = true then (if 0 ≤ n then (if n < ((ρ x).len : Int) then (if hasSh (shOf P 6 e) ((ρ x).at n.toNat) = true then K (.iptr (rebuild (shOf P 6 e) ((ρ x).at n.toNat)).cells) h else none) else none) else none) else none
  | some (.array m e), .sc (.int _ n) => match ρ x with
   | .ptr b off => if 0 < sizeT P e ∧ 0 ≤ n then (if n < (m : Int) then K (.ptr b (off + n.toNat * sizeT P e)) h else none) else none
   | _ => none
  | _, _ => none
 | .index t x i => match P.underlying t, ρ x, ρ i with
  | some .string, .sc (.string s), .sc (.int _ n) => if 0 ≤ n then (if n < (s.size : Int) then K (.sc (.int .u8 (bt s n))) h else none) else none
  | some (.array m e), .agg cs, .sc (.int _ n) => if 0 < sizeT P e ∧ 0 ≤ n then (if n < (m : Int) then (match readVar P e (cs.drop (n.toNat * sizeT P e)) with | some y => K y h | none => none) else none) else none
  | _, _, _ => none
 | .slice t x lo hi mx => match P.underlying t, ρ x, mx with
  | some .string, .sc (.string s), none =>
   let l := (match lo with | some z => ρ z | none => .sc (.int .i64 0)); let r := (match hi with | some z => ρ z | none => .sc (.int .i64 s.size))
   match l, r with
   | .sc (.int _ a), .sc (.int _ b) => if 0 ≤ b then (if b ≤ (s.size : Int) then (if 0 ≤ a then (if a ≤ b then K (.sc (.string (s.extract a.toNat b.toNat))) h else none) else none) else none) else none
   | _, _ => none
  | some (.slice e), .lst k n f, none =>
   let l := (match lo with | some z => ρ z | none => .sc (.int .i64 0)); let r := (match hi with | some z => ρ z | none => .sc (.int .i64 n))
   match l, r with
   | .sc (.int _ a), .sc (.int _ b) => if sizeT P e = k ∧ 0 < k then (if 0 ≤ b then (if b ≤ (n : Int) then (if 0 ≤ a then (if a ≤ b then K (.lst k (b - a).toNat (fun i => f (a.toNat + i))) h else none) else none) else none) else none) else none
   | _, _ => none
  | _, _, _ => none
 | .extract t i => match (ρ t).parts[i]? with
  | some x => K x h
  | none => none
 | _ => none
/-- The builtins that change nothing. -/
def denBuiltin (b : Builtin) (ts : Array TypeId) (args : List PV) : Option PV := match b, args with
 | .len, [x] => match ts[0]?.bind P.underlying, x with
  | some .string, .sc (.string s) => some (.sc (.int .i64 s.size))
  | some (.array n _), _ => some (.sc (.int .i64 n))
  | some (.slice _), .lst _ n _ => some (.sc (.int .i64 n))
  | some (.slice _), .nils => some (.sc (.int .i64 0))
  | _, _ => none
 | .max, [.sc (.int k x), .sc (.int _ y)] => some (.sc (.int k (if y > x then y else x)))
 | .min, [.sc (.int k x), .sc (.int _ y)] => some (.sc (.int k (if y < x then y else x)))
 | _, _ => none
def denBuiltinH (h : Heap) (b : Builtin) (ts : Array TypeId) (args : List PV) : Option PV := match lenOf P h b ts args with
 | some n => some (.sc (.int .i64 n))
 | none => denBuiltin P b ts args
end
end Go.Den
