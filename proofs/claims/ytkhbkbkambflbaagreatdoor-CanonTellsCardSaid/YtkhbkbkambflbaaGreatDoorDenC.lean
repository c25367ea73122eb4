/- What it means that a value in memory is as the plain reading has it; it stays so while nothing of it is written. -/
import Derived.Test.YtkhbkbkambflbaaGreatDoorDenB
import Derived.Laws.AppendOwn
namespace Go.Den
open Go

structure Env where
 w : World
 n : Nat
 own : Nat → Option Nat
 blk : Nat → Nat
 hdr : Nat → Value
 ver : Nat → Nat
 V : Nat → Prop
/-- A block that the call, or one that waits for it, may still write. -/
def Env.U (E : Env) (c : Nat) : Prop := E.V c ∨ ∃ b, b < E.n ∧ E.own b = some c

inductive Enc (E : Env) : PV → Value → Prop
 | sc {v : Value} (h : scOk v = true) : Enc E (.sc v) v
 | agg {cs : List PV} {vs : Array Value} (hl : cs.length = vs.size) (h : ∀ (i : Nat) (h1 : i < cs.length) (h2 : i < vs.size), Enc E cs[i] vs[i]) : Enc E (.agg cs) (.agg vs)
 | tup {cs : List PV} {vs : Array Value} (hl : cs.length = vs.size) (h : ∀ (i : Nat) (h1 : i < cs.length) (h2 : i < vs.size), Enc E cs[i] vs[i]) : Enc E (.tup cs) (.tuple vs)
 | nils : Enc E .nils (.slice none 0 0)
 | lst0 {k : Nat} {f : Nat → PV} {A : Option Addr} {cap : Nat} : Enc E (.lst k 0 f) (.slice A 0 cap)
 | lst {k n : Nat} {f : Nat → PV} {b off cap : Nat} {g : Nat → Nat → Value} (hn : n ≤ cap) (hb : b < E.w.heap.size) (hu : ¬ E.U b) (hk : ∀ i, i < n → (f i).cells.length = k) (hp : ∀ i, i < n → (f i).plainE = true)
   (hc : ∀ i, i < n → ∀ j, j < k → E.w.cell? ⟨b, off + i * k + j, none⟩ = some (g i j)) (h : ∀ i, i < n → ∀ j (hj : j < (f i).cells.length), Enc E (f i).cells[j] (g i j)) : Enc E (.lst k n f) (.slice (some ⟨b, off, none⟩) n cap)
 | iptr {cs : List PV} {b off : Nat} {g : Nat → Value} (hb : b < E.w.heap.size) (hu : ¬ E.U b)
   (hc : ∀ j, j < cs.length → E.w.cell? ⟨b, off + j, none⟩ = some (g j)) (h : ∀ j (hj : j < cs.length), Enc E cs[j] (g j)) : Enc E (.iptr cs) (.pointer (some ⟨b, off, none⟩))
 | ptr {b off : Nat} (hb : b < E.n) : Enc E (.ptr b off) (.pointer (some ⟨E.blk b, off, none⟩))
 | buf {b ver : Nat} {v : Value} (hb : b < E.n) (hv : ver ≤ E.ver b) (h1 : v.oneCell' = true) (h : ver = E.ver b → v = E.hdr b) : Enc E (.buf b ver) v
 | eold {b ver j k o : Nat} {cs : List PV} {v : Value} (hb : b < E.n) (hv : ver < E.ver b) (h1 : v.oneCell' = true) : Enc E (.eptr b ver j k o cs) v
 | eptr {b ver blk j k o : Nat} {cs : List PV} {g : Nat → Value} (hb : b < E.n) (hv : ver = E.ver b) (ho : E.own b = some blk) (hs : blk < E.w.heap.size) (hc : ∀ i, i < cs.length → E.w.cell? ⟨blk, j * k + o + i, none⟩ = some (g i)) (h : ∀ i (hj : i < cs.length), Enc E cs[i] (g i)) : Enc E (.eptr b ver j k o cs) (.pointer (some ⟨blk, j * k + o, none⟩))
 | selfp {b : Nat} {v : Value} (hb : b < E.n) (h : v = .pointer none ∨ v = .pointer (some ⟨E.blk b, 0, none⟩)) : Enc E (.selfp b) v
 | top {v : Value} : Enc E .top v

/-- A block that the call may write. -/
def Env.O (E : Env) (c : Nat) : Prop := ∃ b, b < E.n ∧ E.own b = some c
/-- What was made stays; what the call may not write stays as it is. -/
structure Ext (E E' : Env) : Prop where
 n : E.n ≤ E'.n
 blk : ∀ b, b < E.n → E'.blk b = E.blk b
 size : E.w.heap.size ≤ E'.w.heap.size
 own : ∀ c, E'.O c → E.O c ∨ E.w.heap.size ≤ c
 same : ∀ c, c < E.w.heap.size → ¬ E.O c → E'.w.heap[c]? = E.w.heap[c]?
 ver : ∀ b, b < E.n → E.ver b ≤ E'.ver b ∧ (E.ver b = E'.ver b → E'.hdr b = E.hdr b)
 V : E'.V = E.V
 keep : ∀ b c, b < E.n → E.own b = some c → c < E.w.heap.size → E.ver b = E'.ver b → E'.own b = some c ∧ E'.w.heap[c]? = E.w.heap[c]?
theorem Ext.stay {E E' : Env} (h : Ext E E') (c : Nat) (hc : c < E.w.heap.size) (hu : ¬ E.U c) : ¬ E'.U c ∧ E'.w.heap[c]? = E.w.heap[c]? := by
 refine ⟨?_, h.same c hc fun ho => hu (.inr ho)⟩
 rintro (hv | ho)
 ·exact hu (.inl (by rw [← h.V]; exact hv))
 ·rcases h.own c ho with ho | hs
  ·exact hu (.inr ho)
  ·omega
theorem Ext.refl (E : Env) : Ext E E := ⟨Nat.le_refl _, fun _ _ => rfl, Nat.le_refl _, fun _ h => .inl h, fun _ _ _ => rfl, fun _ _ => ⟨Nat.le_refl _, fun _ => rfl⟩, rfl, fun _ _ _ h _ _ => ⟨h, rfl⟩⟩
theorem Ext.trans {A B C : Env} (h : Ext A B) (k : Ext B C) : Ext A C :=
 ⟨Nat.le_trans h.n k.n, fun b hb => (k.blk b (Nat.lt_of_lt_of_le hb h.n)).trans (h.blk b hb), Nat.le_trans h.size k.size,
  fun c hc => (k.own c hc).elim (fun o => h.own c o) (fun s => .inr (Nat.le_trans h.size s)),
  fun c hc ho => (k.same c (Nat.lt_of_lt_of_le hc h.size) (fun o => (h.own c o).elim ho (fun s => by omega))).trans (h.same c hc ho),
  fun b hb => ⟨Nat.le_trans (h.ver b hb).1 (k.ver b (Nat.lt_of_lt_of_le hb h.n)).1, fun e => by
   have h1 := (h.ver b hb).1
   have h2 := (k.ver b (Nat.lt_of_lt_of_le hb h.n)).1
   have e1 : A.ver b = B.ver b := by omega
   exact ((k.ver b (Nat.lt_of_lt_of_le hb h.n)).2 (by omega)).trans ((h.ver b hb).2 e1)⟩, k.V.trans h.V, fun b c hb ho hs e => by
   have h1 := (h.ver b hb).1
   have h2 := (k.ver b (Nat.lt_of_lt_of_le hb h.n)).1
   obtain ⟨a1, a2⟩ := h.keep b c hb ho hs (by omega)
   obtain ⟨b1, b2⟩ := k.keep b c (Nat.lt_of_lt_of_le hb h.n) a1 (Nat.lt_of_lt_of_le hs h.size) (by omega)
   exact ⟨b1, b2.trans a2⟩⟩
/-- Likewise, whoever may write what is new. -/
structure Ext0 (E E' : Env) : Prop where
 n : E.n ≤ E'.n
 blk : ∀ b, b < E.n → E'.blk b = E.blk b
 size : E.w.heap.size ≤ E'.w.heap.size
 stay : ∀ c, c < E.w.heap.size → ¬ E.U c → ¬ E'.U c ∧ E'.w.heap[c]? = E.w.heap[c]?
 ver : ∀ b, b < E.n → E.ver b ≤ E'.ver b ∧ (E.ver b = E'.ver b → E'.hdr b = E.hdr b)
 keep : ∀ b c, b < E.n → E.own b = some c → c < E.w.heap.size → E.ver b = E'.ver b → E'.own b = some c ∧ E'.w.heap[c]? = E.w.heap[c]?
/-- What holds at whatever comes later: what is neither lent nor owned stays. -/
def Step (E E' : Env) : Prop := E.w.heap.size ≤ E'.w.heap.size ∧ ∀ c, c < E.w.heap.size → ¬ E.U c → ¬ E'.U c ∧ E'.w.heap[c]? = E.w.heap[c]?
theorem Step.trans {A B C : Env} (h : Step A B) (k : Step B C) : Step A C := ⟨Nat.le_trans h.1 k.1, fun c hc hu => ⟨(k.2 c (Nat.lt_of_lt_of_le hc h.1) (h.2 c hc hu).1).1, (k.2 c (Nat.lt_of_lt_of_le hc h.1) (h.2 c hc hu).1).2.trans (h.2 c hc hu).2⟩⟩
def VerS (wr : List Nat) (E E' : Env) : Prop := ∀ b, b < E.n → b ∉ wr → E'.ver b = E.ver b
theorem Ext0.step {E E' : Env} (x : Ext0 E E') : Step E E' := ⟨x.size, x.stay⟩
theorem Ext0.trans {A B C : Env} (h : Ext0 A B) (k : Ext0 B C) : Ext0 A C := by
 refine ⟨Nat.le_trans h.n k.n, fun b hb => (k.blk b (Nat.lt_of_lt_of_le hb h.n)).trans (h.blk b hb), Nat.le_trans h.size k.size, fun c hc hu => ?_, fun b hb => ?_, fun b c hb ho hs e => ?_⟩
 ·have h1 := h.stay c hc hu
  have h2 := k.stay c (Nat.lt_of_lt_of_le hc h.size) h1.1
  exact ⟨h2.1, h2.2.trans h1.2⟩
 ·have h1 := h.ver b hb
  have h2 := k.ver b (Nat.lt_of_lt_of_le hb h.n)
  exact ⟨Nat.le_trans h1.1 h2.1, fun e => (h2.2 (by omega)).trans (h1.2 (by omega))⟩
 ·have h1 := h.ver b hb
  have h2 := k.ver b (Nat.lt_of_lt_of_le hb h.n)
  have h3 := h.keep b c hb ho hs (by omega)
  have h4 := k.keep b c (Nat.lt_of_lt_of_le hb h.n) h3.1 (Nat.lt_of_lt_of_le hs h.size) (by omega)
  exact ⟨h4.1, h4.2.trans h3.2⟩
theorem Ext.e0 {E E' : Env} (x : Ext E E') : Ext0 E E' := ⟨x.n, x.blk, x.size, x.stay, x.ver, x.keep⟩
theorem Ext0.cell {E E' : Env} (x : Ext0 E E') {b o : Nat} {v : Value} (hb : b < E.w.heap.size) (hu : ¬ E.U b) (h : E.w.cell? ⟨b, o, none⟩ = some v) : E'.w.cell? ⟨b, o, none⟩ = some v :=
 (World.cell?_of_block (x.stay b hb hu).2).trans h
theorem Enc.ext0 {E E' : Env} (x : Ext0 E E') {p : PV} {v : Value} (h : Enc E p v) : Enc E' p v := by
 induction h with
 | sc h => exact .sc h
 | agg hl _ ih => exact .agg hl ih
 | tup hl _ ih => exact .tup hl ih
 | nils => exact .nils
 | lst0 => exact .lst0
 | lst hn hb hu hk hp hc _ ih => exact .lst hn (Nat.lt_of_lt_of_le hb x.size) (x.stay _ hb hu).1 hk hp (fun i hi j hj => x.cell hb hu (hc i hi j hj)) ih
 | iptr hb hu hc _ ih => exact .iptr (Nat.lt_of_lt_of_le hb x.size) (x.stay _ hb hu).1 (fun j hj => x.cell hb hu (hc j hj)) ih
 | ptr hb => rw [← x.blk _ hb]; exact .ptr (Nat.lt_of_lt_of_le hb x.n)
 | buf hb hv ho h =>
  refine .buf (Nat.lt_of_lt_of_le hb x.n) (Nat.le_trans hv (x.ver _ hb).1) ho fun e => ?_
  have h1 := (x.ver _ hb).1
  rw [h (by omega)]
  exact ((x.ver _ hb).2 (by omega)).symm
 | eold hb hv h1 => exact .eold (Nat.lt_of_lt_of_le hb x.n) (Nat.lt_of_lt_of_le hv (x.ver _ hb).1) h1
 | eptr hb hv ho hs hc _ ih =>
  rename_i b ver blk j k o cs g hh0
  have h1 := (x.ver _ hb).1
  by_cases e : E.ver b = E'.ver b
  ·obtain ⟨a1, a2⟩ := x.keep _ _ hb ho hs e
   exact .eptr (Nat.lt_of_lt_of_le hb x.n) (hv.trans e) a1 (Nat.lt_of_lt_of_le hs x.size) (fun j hj => (World.cell?_of_block a2).trans (hc j hj)) ih
  ·exact .eold (Nat.lt_of_lt_of_le hb x.n) (by omega) rfl
 | selfp hb h => exact .selfp (Nat.lt_of_lt_of_le hb x.n) (by rw [x.blk _ hb]; exact h)
 | top => exact .top
theorem Ext.cell {E E' : Env} (x : Ext E E') {b o : Nat} {v : Value} (hb : b < E.w.heap.size) (hu : ¬ E.U b) (h : E.w.cell? ⟨b, o, none⟩ = some v) : E'.w.cell? ⟨b, o, none⟩ = some v := x.e0.cell hb hu h
theorem Enc.ext {E E' : Env} (x : Ext E E') {p : PV} {v : Value} (h : Enc E p v) : Enc E' p v := h.ext0 x.e0
theorem Enc.sc_iff {E : Env} {u v : Value} (h : Enc E (.sc u) v) : v = u := by cases h; rfl
theorem oneCell_cells {u : Value} (h : u.oneCell' = true) : u.cells = #[u] := by cases u <;> first | rfl | cases h
theorem Enc.oneCell {E : Env} {p : PV} {v : Value} (h : Enc E p v) (h1 : p.one = true) : v.oneCell' = true := by
 cases h with
 | sc h => cases v <;> first | rfl | simp [scOk] at h
 | agg _ _ => cases h1
 | tup _ _ => cases h1
 | buf _ _ ho _ => exact ho
 | eold _ _ h1 => exact h1
 | selfp _ h => rcases h with rfl | rfl <;> rfl
 | top => cases h1
 | _ => rfl
theorem PV.one_cells {p : PV} (h : p.one = true) : p.cells = [p] := by cases p <;> first | rfl | cases h
theorem Enc.known_cells {E : Env} {p : PV} {v : Value} (h : Enc E p v) (hk : p.known = true) : p.cells.length = v.cells.size ∧ ∀ (i : Nat) (h1 : i < p.cells.length) (h2 : i < v.cells.size), Enc E p.cells[i] v.cells[i] := by
 by_cases h1 : p.one = true
 ·have e1 := PV.one_cells h1
  have e2 := oneCell_cells (h.oneCell h1)
  refine ⟨by rw [e1, e2]; rfl, fun i hi1 hi2 => ?_⟩
  have hi : i = 0 := by rw [e1] at hi1; simpa using hi1
  subst hi
  simp only [e1, e2]
  exact h
 ·cases h with
  | agg hl h => exact ⟨hl, h⟩
  | tup hl h => cases hk
  | top => cases hk
  | _ => exact absurd rfl h1
/-- A row that the call has, and that no append grows. -/
def fixRow (w : World) (base k : Nat) (v : Value) (n : Nat) (xs : List Value) : Prop :=
 xs.length = n * k ∧ ∃ g cap cur t fz, v = .slice (some ⟨g, 0, none⟩) n cap ∧ base ≤ g ∧ w.heap[g]? = some (.cells cur t fz) ∧ cur.size ≤ fz.1 ∧ n ≤ cap ∧ n * k ≤ cur.size ∧ cur.toList.take (n * k) = xs
def rowIn (P : Program) (w : World) (base : Nat) (e : TypeId) (k : Nat) (v : Value) (n : Nat) (xs : List Value) : Prop :=
 w.ownsRow base e k v n xs ∨ (markT P e = true ∧ fixRow w base k v n xs)
section
variable {P : Program} {w : World} {base k n : Nat} {e : TypeId} {v : Value} {xs : List Value}
theorem rowIn.own (h : rowIn P w base e k v n xs) (hm : markT P e = false) : w.ownsRow base e k v n xs := by
 rcases h with h | ⟨h, _⟩
 ·exact h
 ·rw [hm] at h; cases h
theorem rowIn.lt (h : rowIn P w base e k v n xs) : ∀ c, v.ownBlock = some c → base ≤ c ∧ c < w.heap.size := by
 rcases h with h | ⟨_, _, g, cap, cur, t, fz, rfl, hb, hg, _⟩
 ·exact h.lt
 ·intro c hc
  have : g = c := Option.some.inj hc
  subst this
  exact ⟨hb, (Array.getElem?_eq_some_iff.1 hg).1⟩
theorem rowIn.kept {w' : World} (h : rowIn P w base e k v n xs) (hg : ∀ c, v.ownBlock = some c → w'.heap[c]? = w.heap[c]?) : rowIn P w' base e k v n xs := by
 rcases h with ⟨h0, h | ⟨g, cap, cur, rfl, hb, hh, h⟩⟩ | ⟨hm, h0, g, cap, cur, t, fz, rfl, hb, hh, h⟩
 ·exact .inl ⟨h0, .inl h⟩
 ·exact .inl ⟨h0, .inr ⟨g, cap, cur, rfl, hb, (hg g rfl).trans hh, h⟩⟩
 ·exact .inr ⟨hm, h0, g, cap, cur, t, fz, rfl, hb, (hg g rfl).trans hh, h⟩
/-- Where it lies, and what stands there. -/
theorem rowIn.form (h : rowIn P w base e k v n xs) : xs.length = n * k ∧ ((v = .slice none 0 0 ∧ n = 0) ∨ ∃ g cap, v = .slice (some ⟨g, 0, none⟩) n cap ∧ n ≤ cap ∧ g < w.heap.size ∧ ∀ j u, xs[j]? = some u → w.cell? ⟨g, j, none⟩ = some u) := by
 have key : ∀ (g : Nat) (cur : Array Value) (t : TypeId) (fz : Nat × Nat), w.heap[g]? = some (.cells cur t fz) → cur.toList.take (n * k) = xs → ∀ j u, xs[j]? = some u → w.cell? ⟨g, j, none⟩ = some u := by
  intro g cur t fz hh ht j u hu
  rw [← ht, List.getElem?_take] at hu
  split at hu
  ·simp only [World.cell?, hh]
   simpa using hu
  ·cases hu
 rcases h with ⟨h0, h | ⟨g, cap, cur, rfl, hb, hh, h1, h2, h3, h4⟩⟩ | ⟨hm, h0, g, cap, cur, t, fz, rfl, hb, hh, _, h1, h2, h3⟩
 ·exact ⟨h0, .inl h⟩
 ·exact ⟨h0, .inr ⟨g, cap, rfl, h1, (Array.getElem?_eq_some_iff.1 hh).1, key g cur _ _ hh h4⟩⟩
 ·exact ⟨h0, .inr ⟨g, cap, rfl, h1, (Array.getElem?_eq_some_iff.1 hh).1, key g cur _ _ hh h3⟩⟩
end
/-- What was made is as the plain reading has it. base: the first block that is the call's own. -/
inductive ObjOk (P : Program) (E : Env) (base : Nat) (b : Nat) : HObj → Prop
 | cells {cs : List PV} {arr : Array Value} {t : TypeId} (ho : E.own b = some (E.blk b)) (hb : base ≤ E.blk b) (hh : E.w.heap[E.blk b]? = some (.cells arr t (0, 0))) (hl : cs.length = arr.size)
   (h : ∀ (i : Nat) (h1 : i < cs.length) (h2 : i < arr.size), Enc E cs[i] arr[i]) : ObjOk P E base b (.cells t cs)
 | buf {k : Nat} {xs : List PV} {vs : List Value} {e : TypeId} (ho : E.own b = (E.hdr b).ownBlock) (hw : rowIn P E.w base e k (E.hdr b) xs.length vs) (hk : sizeT P e = k) (h0 : 0 < k)
   (hx : ∀ i (h1 : i < xs.length), xs[i].plainE = true ∧ xs[i].cells.length = k) (h : ∀ i (h1 : i < xs.length), ∀ j (hj : j < xs[i].cells.length), ∃ u, vs[i * k + j]? = some u ∧ Enc E xs[i].cells[j] u) : ObjOk P E base b (.buf e (E.ver b) xs)
 | gone (ho : E.own b = none) : ObjOk P E base b .gone
end Go.Den
