/- Operations that make memory, or write what the call has made. -/
import Derived.Test.YtkhbkbkambflbaaGreatDoorDenF
import Derived.Laws.CopyOwn
namespace Go.Den
open Go Go.RowKit
set_option linter.unusedVariables false
section
variable {P : Program}

theorem ObjOk.lt {E : Env} {base b : Nat} {o : HObj} (h : ObjOk P E base b o) {c : Nat} (hc : E.own b = some c) : base ≤ c ∧ c < E.w.heap.size := by
 cases h with
 | cells ho hb hh hl hx =>
  rw [ho] at hc
  obtain rfl := Option.some.inj hc
  exact ⟨hb, (Array.getElem?_eq_some_iff.1 hh).1⟩
 | buf ho hw hk h0 hx h =>
  rw [ho] at hc
  exact hw.lt c hc
 | gone ho => rw [ho] at hc; cases hc
theorem ObjOk.keep0 {E E' : Env} (x : Ext0 E E') {base b : Nat} {o : HObj} (h1 : E'.own b = E.own b) (h2 : E'.blk b = E.blk b) (h3 : E'.hdr b = E.hdr b) (h4 : E'.ver b = E.ver b) (h5 : ∀ c, E.own b = some c → E'.w.heap[c]? = E.w.heap[c]?)
  (h : ObjOk P E base b o) : ObjOk P E' base b o := by
 cases h with
 | cells ho hb hh hl hx =>
  exact .cells (by rw [h1, h2]; exact ho) (by rw [h2]; exact hb) (by rw [h2, h5 _ ho]; exact hh) hl (fun i a b => (hx i a b).ext0 x)
 | buf ho hw hk h0 hx h =>
  rename_i k xs vs e
  rw [← h4]
  refine .buf (vs := vs) (by rw [h1, h3]; exact ho) ?_ hk h0 hx (fun i a j hj => ?_)
  ·rw [h3]
   exact hw.kept fun c hc => h5 c (by rw [ho]; exact hc)
  ·obtain ⟨u, hu, eu⟩ := h i a j hj
   exact ⟨u, hu, eu.ext0 x⟩
 | gone ho => exact .gone (by rw [h1]; exact ho)
theorem ObjOk.keep {E E' : Env} (x : Ext E E') {base b : Nat} {o : HObj} (h1 : E'.own b = E.own b) (h2 : E'.blk b = E.blk b) (h3 : E'.hdr b = E.hdr b) (h4 : E'.ver b = E.ver b) (h5 : ∀ c, E.own b = some c → E'.w.heap[c]? = E.w.heap[c]?)
  (h : ObjOk P E base b o) : ObjOk P E' base b o := h.keep0 x.e0 h1 h2 h3 h4 h5
/-- What is shown of one operation. -/
def MemOk (P : Program) (E : Env) (base : Nat) (ρv : Operand → Value) (o : Oper) (K : PV → Heap → Option PV) (r : PV) : Prop :=
 ∃ E' x v h', ((execOp ρv o).run P E.w = .ok (.value v) E'.w ∨ ((execOp ρv o).run P E.w = .ok .skip E'.w ∧ v = undef)) ∧ Ext E E' ∧ HeapOk P E' base h' ∧ Enc E' x v ∧ Below base E.w E'.w ∧ K x h' = some r
theorem readsOk_nil (ρ : Operand → PV) (o : Op) : readsOk [] ρ o = true := by
 have e : ∀ p : PV, freeOf [] p = true := fun p => by cases p <;> rfl
 unfold readsOk
 split
 ·exact e _
 ·exact e _
 ·rfl
theorem ReadOk.mem {E : Env} {base : Nat} {ρ : Operand → PV} {ρv : Operand → Value} {o : Oper} {h : Heap} {K : PV → Heap → Option PV} {r : PV} (hs : HeapOk P E base h) (hr : ReadOk P E ρ ρv o h K r) : MemOk P E base ρv o K r := by
 obtain ⟨x, v, h1, h2, h3⟩ := hr
 exact ⟨E, x, v, h, .inl (h1 [] (readsOk_nil _ _) _ (Keep.refl E [])), Ext.refl E, hs, h2, Below.refl _ _, h3⟩
/-- The environment with one more object, a variable. -/
def Env.newCells (E : Env) (o : Obj) : Env := { w := E.w.alloc o, n := E.n + 1, own := fun b => if b = E.n then some E.w.heap.size else E.own b, blk := fun b => if b = E.n then E.w.heap.size else E.blk b, hdr := E.hdr, ver := E.ver, V := E.V }
theorem alloc_old (w : World) (o : Obj) {c : Nat} (h : c < w.heap.size) : (w.alloc o).heap[c]? = w.heap[c]? := Below.heap_alloc w o c h
theorem ext_newCells {E : Env} (o : Obj) : Ext E (E.newCells o) := by
 refine ⟨Nat.le_succ _, fun b hb => ?_, by show E.w.heap.size ≤ (E.w.heap.push o).size; simp, ?_, fun c hc _ => alloc_old _ _ hc, fun b hb => ⟨Nat.le_refl _, fun _ => rfl⟩, rfl, fun b c hb ho hs _ => ⟨(if_neg (by omega : ¬ b = E.n)).trans ho, alloc_old _ _ hs⟩⟩
 ·show (if b = E.n then _ else _) = _
  rw [if_neg (by omega)]
 ·rintro c ⟨b, hb, e⟩
  have e' : (if b = E.n then some E.w.heap.size else E.own b) = some c := e
  by_cases hbn : b = E.n
  ·rw [if_pos hbn] at e'
   have := Option.some.inj e'
   exact .inr (by omega)
  ·rw [if_neg hbn] at e'
   exact .inl ⟨b, by have : b < E.n + 1 := hb; omega, e'⟩
theorem heap_newCells {E : Env} {base : Nat} {h : Heap} (hs : HeapOk P E base h) {cs : List PV} {arr : Array Value} {t : TypeId} (hl : cs.length = arr.size) (he : ∀ (i : Nat) (h1 : i < cs.length) (h2 : i < arr.size), Enc E cs[i] arr[i]) :
  HeapOk P (E.newCells (.cells arr t)) base (h ++ [.cells t cs]) := by
 have hx := ext_newCells (E := E) (.cells arr t)
 refine ⟨by show E.n + 1 = _; rw [hs.n]; simp, fun b o ho => ?_, fun b b' c hb hb' e e' => ?_, Nat.le_trans hs.low hx.size, fun c hc => ⟨Nat.lt_of_lt_of_le (hs.below c hc).1 hx.size, fun b hb e => ?_⟩⟩
 ·by_cases hbn : b = E.n
  ·subst hbn
   rw [hs.n] at ho
   simp at ho
   subst ho
   refine .cells (t := t) (arr := arr) ?_ ?_ ?_ hl (fun i a b => (he i a b).ext hx)
   ·show (if E.n = E.n then _ else _) = some (if E.n = E.n then _ else _)
    rw [if_pos rfl, if_pos rfl]
   ·show base ≤ (if E.n = E.n then _ else _)
    rw [if_pos rfl]
    exact hs.low
   ·show (E.w.alloc _).heap[(if E.n = E.n then _ else _)]? = _
    rw [if_pos rfl]
    exact heap_alloc_new E.w _
  ·have hb : b < h.length := by
    have := (List.getElem?_eq_some_iff.1 ho).1
    rw [List.length_append] at this
    have hn := hs.n
    simp at this
    omega
   rw [List.getElem?_append_left hb] at ho
   have hob := hs.obj b o ho
   refine hob.keep hx ?_ ?_ rfl rfl fun c hc => alloc_old _ _ (hob.lt hc).2
   ·show (if b = E.n then _ else _) = _
    rw [if_neg hbn]
   ·show (if b = E.n then _ else _) = _
    rw [if_neg hbn]
 ·have old : ∀ {b : Nat} {c : Nat}, b < E.n + 1 → ¬ b = E.n → E.own b = some c → c < E.w.heap.size := fun {b} {c} hb hbn e => by
   have hb' : b < h.length := by have := hs.n; omega
   exact ((hs.obj b h[b] (List.getElem?_eq_getElem hb')).lt e).2
  have e1 : (if b = E.n then some E.w.heap.size else E.own b) = some c := e
  have e2 : (if b' = E.n then some E.w.heap.size else E.own b') = some c := e'
  by_cases h1 : b = E.n
  ·rw [if_pos h1] at e1
   by_cases h2 : b' = E.n
   ·omega
   ·rw [if_neg h2] at e2
    have := old hb' h2 e2
    have := Option.some.inj e1
    omega
  ·rw [if_neg h1] at e1
   by_cases h2 : b' = E.n
   ·rw [if_pos h2] at e2
    have := old hb h1 e1
    have := Option.some.inj e2
    omega
   ·rw [if_neg h2] at e2
    exact hs.apart b b' c (by have : b < E.n + 1 := hb; omega) (by have : b' < E.n + 1 := hb'; omega) e1 e2
 ·have e1 : (if b = E.n then some E.w.heap.size else E.own b) = some c := e
  have hc' := hs.below c hc
  split at e1
  ·have := Option.some.inj e1
   have := hc'.1
   omega
  ·exact hc'.2 b (by have : b < E.n + 1 := hb; omega) e1
theorem newVar_ok {E : Env} {base : Nat} {h : Heap} (hs : HeapOk P E base h) {t : TypeId} {x : PV} {v : Value} (hv : x.cells.length = v.cells.size ∧ ∀ (i : Nat) (h1 : i < x.cells.length) (h2 : i < v.cells.size), Enc E x.cells[i] v.cells[i]) :
  ∃ E' u, (do pure (.pointer (some (← newVar t v))) : Sem Value).run P E.w = .ok u E'.w ∧ Ext E E' ∧ HeapOk P E' base (h ++ [.cells t x.cells]) ∧ Enc E' (.ptr h.length 0) u ∧ Below base E.w E'.w := by
 refine ⟨E.newCells (.cells v.cells t), .pointer (some ⟨E.w.heap.size, 0, none⟩), rfl, ext_newCells _, heap_newCells hs hv.1 hv.2, ?_, (Below.refl _ _).alloc hs.low _⟩
 have hn := hs.n
 have := Enc.ptr (E := E.newCells (.cells v.cells t)) (b := h.length) (off := 0) (by show h.length < E.n + 1; omega)
 have e : (E.newCells (.cells v.cells t)).blk h.length = E.w.heap.size := by
  show (if h.length = E.n then _ else _) = _
  rw [if_pos hn.symm]
 rw [e] at this
 exact this
/-- The environment with other cells in a block. -/
def Env.withW (E : Env) (w : World) : Env := { E with w := w }
def Env.bump (E : Env) (b : Nat) (w : World) : Env := { E with w := w, ver := fun c => if c = b then E.ver b + 1 else E.ver c }
theorem store_ok {E : Env} {base : Nat} {h : Heap} (hs : HeapOk P E base h) {b off : Nat} {cs : List PV} {t0 : TypeId} (hb : h[b]? = some (.cells t0 cs)) {t : TypeId} {x : PV} {v : Value} (hx : Enc E x v) (hk : x.known = true) (h1 : x.cells.all PV.one = true) (h0 : 0 < sizeT P t)
  (hsz : x.cells.length = sizeT P t) (hle : off + sizeT P t ≤ cs.length) :
  ∃ E', (storeVar t ⟨E.blk b, off, none⟩ v).run P E.w = .ok () E'.w ∧ Ext E E' ∧ HeapOk P E' base (h.put b (.cells t0 (replace cs off x.cells))) ∧ Below base E.w E'.w ∧ E'.V = E.V ∧ E'.n = E.n ∧ E'.own = E.own ∧ ∀ c, E.own b ≠ some c → E'.w.heap[c]? = E.w.heap[c]? := by
 obtain ⟨ie, hie⟩ : ∃ ie, P.info? t = some ie := by
  unfold sizeT at h0
  split at h0
  ·exact ⟨_, by assumption⟩
  ·omega
 have hs0 : sizeT P t = ie.size := by unfold sizeT; rw [hie]
 obtain ⟨k1, k2⟩ := hx.known_cells hk
 have hob := hs.obj b _ hb
 cases hob with
 | cells ho hba hh hl hcs =>
  rename_i arr
  have hone : ∀ u ∈ v.cells.toList, u.oneCell' = true := by
   intro u hu
   obtain ⟨i, hi, rfl⟩ := List.getElem_of_mem hu
   have hi2 : i < v.cells.size := by simpa using hi
   have hi3 : i < x.cells.length := by omega
   have := (k2 i hi3 hi2).oneCell (List.all_eq_true.1 h1 _ (List.getElem_mem hi3))
   simpa using this
  have hrun := run_storeCells_at (P := P) (E.blk b) off t0 v.cells.toList 0 arr E.w hh (by simp; omega) hone
  rw [Nat.add_zero] at hrun
  generalize hnew : (arr.toList.take off ++ v.cells.toList ++ arr.toList.drop (off + v.cells.toList.length)).toArray = new at hrun
  have hx' : Ext E (E.bump b (E.w.setRow (E.blk b) new)) := by
   refine ⟨Nat.le_refl _, fun _ _ => rfl, by simp [Env.bump], fun c hc => .inl hc, fun c hc hu => ?_, fun c _ => ?_, rfl, fun b' c hb' ho' hs' e => ?_⟩
   ·have hne : c ≠ E.blk b := by
     rintro rfl
     exact hu ⟨b, by have := (List.getElem?_eq_some_iff.1 hb).1; have := hs.n; omega, ho⟩
    exact setRow_other E.w (E.blk b) c new hne
   ·show E.ver c ≤ (if c = b then E.ver b + 1 else E.ver c) ∧ (E.ver c = (if c = b then E.ver b + 1 else E.ver c) → E.hdr c = E.hdr c)
    split
    ·rename_i e; subst e; exact ⟨Nat.le_succ _, fun _ => rfl⟩
    ·exact ⟨Nat.le_refl _, fun _ => rfl⟩
   ·have e' : E.ver b' = (if b' = b then E.ver b + 1 else E.ver b') := e
    have hbb : b' ≠ b := by
     rintro rfl
     rw [if_pos rfl] at e'
     omega
    refine ⟨ho', setRow_other E.w (E.blk b) c new ?_⟩
    rintro rfl
    exact hbb (hs.apart b' b _ hb' (by have := (List.getElem?_eq_some_iff.1 hb).1; have := hs.n; omega) ho' ho)
  have hbl : b < h.length := (List.getElem?_eq_some_iff.1 hb).1
  refine ⟨E.bump b (E.w.setRow (E.blk b) new), ?_, hx', ⟨by show E.n = _; rw [hs.n]; simp [Heap.put], fun b' o' ho' => ?_, hs.apart, Nat.le_trans hs.low hx'.size, fun c hc => ⟨Nat.lt_of_lt_of_le (hs.below c hc).1 hx'.size, (hs.below c hc).2⟩⟩, below_setRow (Below.refl _ _) hba new, rfl, rfl, rfl, fun c hc => setRow_other E.w (E.blk b) c new (fun e => hc (by rw [e]; exact ho))⟩
  ·unfold storeVar
   have hne : ¬ (v.cells.size ≠ ie.size) := by omega
   rw [Sem.run_bind, run_size hie, Result.andThen_ok]
   simp only [if_neg hne]
   exact hrun
  ·have ho2 : (h.set b (.cells t0 (replace cs off x.cells)))[b']? = some o' := ho'
   by_cases hbb : b' = b
   ·subst hbb
    rw [List.getElem?_set_self hbl] at ho2
    obtain rfl := Option.some.inj ho2
    have hlen : (replace cs off x.cells).length = cs.length := replace_len (by omega)
    have hns : new.size = arr.size := by rw [← hnew]; simp; omega
    refine .cells (arr := new) (t := t0) ho hba (setRow_heap E.w (E.blk b') arr new t0 (0, 0) hh) (by rw [hlen, hns]; exact hl) fun i a1 a2 => ?_
    have hi : i < cs.length := by rw [hlen] at a1; exact a1
    rw [replace_get (by omega) i a1 hi]
    have e : new[i]? = (arr.toList.take off ++ v.cells.toList ++ arr.toList.drop (off + v.cells.toList.length))[i]? := by rw [← hnew]; simp
    rw [Array.getElem?_eq_getElem a2] at e
    by_cases hc : off ≤ i ∧ i < off + x.cells.length
    ·rw [dif_pos hc]
     have h5 : i - off < v.cells.size := by omega
     rw [List.getElem?_append_left (by simp; omega), List.getElem?_append_right (by simp; omega)] at e
     have e3 : i - (arr.toList.take off).length = i - off := by simp; omega
     rw [e3, Array.getElem?_toList, Array.getElem?_eq_getElem h5] at e
     rw [Option.some.inj e]
     exact (k2 (i - off) (by omega) h5).ext hx'
    ·rw [dif_neg hc]
     have h6 : i < arr.size := by omega
     have e4 : (arr.toList.take off ++ v.cells.toList ++ arr.toList.drop (off + v.cells.toList.length))[i]? = some arr[i] := by
      by_cases hlt : i < off
      ·rw [List.getElem?_append_left (by simp; omega), List.getElem?_append_left (by simp; omega), List.getElem?_take, if_pos hlt]
       simp [h6]
      ·rw [List.getElem?_append_right (by simp; omega), List.getElem?_drop]
       have e5 : off + v.cells.toList.length + (i - (arr.toList.take off ++ v.cells.toList).length) = i := by simp; omega
       rw [e5]
       simp [h6]
     rw [e4] at e
     rw [Option.some.inj e]
     exact (hcs i hi h6).ext hx'
   ·rw [List.getElem?_set_ne (by omega)] at ho2
    have hob' := hs.obj b' o' ho2
    refine hob'.keep hx' rfl rfl rfl (if_neg hbb) fun c hc => ?_
    have hne : c ≠ E.blk b := by
     rintro rfl
     exact hbb (hs.apart b' b _ (by have := (List.getElem?_eq_some_iff.1 ho2).1; have := hs.n; omega) (by have := hs.n; omega) hc ho)
    exact setRow_other E.w (E.blk b) c new hne
/-- All operations but calls and slices that are written out. -/
theorem denOp_ok {E : Env} {base : Nat} {h : Heap} (hs : HeapOk P E base h) {ρ : Operand → PV} {ρv : Operand → Value} (hρ : ∀ x, Enc E (ρ x) (ρv x)) {o : Oper} {K : PV → Heap → Option PV} {r : PV}
  (hd : denOp P ρ h o.op K = some r) : MemOk P E base ρv o K r := by
 by_cases hq : readOp o.op = true
 ·exact (denOp_read hs hρ hq hd).mem hs
 ·obtain ⟨dst, op, type, pos, after, guard⟩ := o
  dsimp only at hq hd
  cases op <;> first | exact absurd rfl hq | (cases hd; done) | skip
  case alloc t =>
   simp only [denOp] at hd
   split at hd
   ·rename_i hk
    unfold zeroT at hd hk
    split at hd
    ·rename_i i hi
     split at hd
     ·rename_i z hz
      obtain ⟨E', u, h1, h2, h3, h4, h5⟩ := newVar_ok hs (t := t) (x := ofV z) (v := z) (ofV_cells E z)
      refine ⟨E', _, u, _, .inl (exec_v (s := Instr.alloc t true (.tuple #[])) ?_), h2, h3, h4, h5, hd⟩
      unfold Instr.alloc
      have hzv : (zeroValue t).run P E.w = .ok z E.w := by
       unfold zeroValue typeInfo
       simp [hi, hz]
      rw [Sem.run_bind, hzv, Result.andThen_ok]
      exact h1
     ·rename_i hz
      simp [hi, hz, PV.known] at hk
    ·rename_i hi
     simp [hi, PV.known] at hk
   ·cases hd
  case box t x =>
   simp only [denOp] at hd
   split at hd
   ·rename_i hk
    obtain ⟨E', u, h1, h2, h3, h4, h5⟩ := newVar_ok hs (t := t) (hρ x |>.known_cells hk)
    exact ⟨E', _, u, _, .inl (exec_v (s := Instr.box t (ρv x)) h1), h2, h3, h4, h5, hd⟩
   ·cases hd
  case store t a x =>
   simp only [denOp] at hd
   split at hd
   ·rename_i b off ha
    split at hd
    ·rename_i cs hb
     split at hd
     ·rename_i hc
      obtain ⟨c1, c2, c3, c4, c5⟩ := hc
      obtain ⟨E', h1, h2, h3, h5, _⟩ := store_ok hs hb (hρ x) c1 c2 c3 c4 c5
      have hh := hρ a
      rw [ha] at hh
      generalize hv : ρv a = v at hh
      cases hh with
      | ptr hbn =>
       refine ⟨E', .top, undef, _, .inr ⟨?_, rfl⟩, h2, h3, .top, h5, hd⟩
       show (do Instr.storeAt t (ρv a) (ρv x); pure Next.skip : Sem Next).run P E.w = _
       rw [hv, Sem.run_bind]
       have : (Instr.storeAt t (.pointer (some ⟨E.blk b, off, none⟩)) (ρv x)).run P E.w = .ok () E'.w := h1
       rw [this]
       rfl
     ·cases hd
    ·cases hd
   ·cases hd
end
end Go.Den
