/- Regions that draw their order and make variables between their calls. -/
import Derived.Test.YtkhbkbkambflbaaGreatDoorDenQ
namespace Go.Den
open Go Go.RowKit
set_option linter.unusedVariables false
section
variable {P : Program} {T : World → Prop} {w0 : Bs} {V V1 : Nat → Prop} {E : Env} {s : St} {a : Act}
theorem put_top {E : Env} {l : List PV} {m : Array Value} {d : Tmp} {v : Value} (hd : l.getD d .top = .top) (h : ∀ i (h1 : i < l.length) (h2 : i < m.size), Enc E l[i] m[i]) (i : Nat) (h1 : i < l.length) (h2 : i < (m.setIfInBounds d v).size) : Enc E l[i] (m.setIfInBounds d v)[i] := by
 rw [Array.getElem_setIfInBounds]
 split
 ·rename_i e
  subst e
  have : l[d] = .top := by simpa [h1] using hd
  rw [this]
  exact .top
 ·exact h i h1 (by simpa using h2)
theorem put_name {E : Env} {l : List PV} {m : Array Value} {d : Tmp} {x : PV} (hx : ∀ (h2 : d < m.size), Enc E x m[d]) (h : ∀ i (h1 : i < l.length) (h2 : i < m.size), Enc E l[i] m[i]) (i : Nat) (h1 : i < (l.set d x).length) (h2 : i < m.size) : Enc E (l.set d x)[i] m[i] := by
 rw [List.getElem_set]
 split
 ·rename_i e
  subst e
  exact hx h2
 ·exact h i (by simpa using h1) h2
/-- A block that was made, and has no name yet. -/
def Env.pend (E : Env) (w : World) (c : Nat) : Env := { E with w := w, V := fun x => E.V x ∨ x = c }
theorem Rel.pend (h : Rel P T w0 V E s a) {z : Value} {t : TypeId} {d : Tmp} (hd : s.fr.getD d .top = .top) (v : Value) :
  Rel P T w0 (fun x => V x ∨ x = E.w.heap.size) (E.pend (E.w.alloc (.cells z.cells t)) E.w.heap.size) s (a.put (some d) v) := by
 have hsz : (E.w.alloc (.cells z.cells t)).heap.size = E.w.heap.size + 1 := by show (E.w.heap.push _).size = _; simp
 have x : Ext0 E (E.pend (E.w.alloc (.cells z.cells t)) E.w.heap.size) := by
  refine ⟨Nat.le_refl _, fun _ _ => rfl, by show _ ≤ (E.w.alloc (.cells z.cells t)).heap.size; omega, fun c hc hu => ⟨?_, alloc_old _ _ hc⟩, fun _ _ => ⟨Nat.le_refl _, fun _ => rfl⟩, fun b c hb ho hs _ => ⟨ho, alloc_old _ _ hs⟩⟩
  rintro ((hv | e) | ho)
  ·exact hu (.inl hv)
  ·omega
  ·exact hu (.inr ho)
 refine ⟨⟨h.heap.n, fun b o ho => (h.heap.obj b o ho).keep0 x rfl rfl rfl rfl fun c hc => alloc_old _ _ ((h.heap.obj b o ho).lt hc).2, h.heap.apart, Nat.le_trans h.heap.low x.size, fun c hc => ⟨?_, fun b hb e => ?_⟩⟩, by simp [Act.put, h.len], fun i h1 h2 => ?_, h.below.trans ((Below.refl _ _).alloc h.heap.low _), h.defers, ?_, h.T, h.hand.of (Nat.le_refl _) (fun _ _ => rfl) (fun c hc => .inl hc) (fun c hc _ => alloc_old _ _ hc) x.size⟩
 ·show c < (E.w.alloc (.cells z.cells t)).heap.size
  rcases hc with hc | hc
  ·have := (h.heap.below c hc).1; omega
  ·omega
 ·rcases hc with hc | hc
  ·exact (h.heap.below c hc).2 b hb e
  ·have hbl : b < s.h.length := by have : b < E.n := hb; have := h.heap.n; omega
   have := ((h.heap.obj b _ (List.getElem?_eq_getElem hbl)).lt e).2
   omega
 ·have h3 : i < a.tmps.size := by simpa [Act.put] using h2
  exact put_top hd (fun i h1 h2 => (h.fr i h1 h2).ext0 x) i h1 h2
 ·show (fun x => E.V x ∨ x = E.w.heap.size) = _
  rw [h.V]
/-- It gets its name. -/
def Env.adopt (E : Env) (V : Nat → Prop) (c : Nat) : Env := { w := E.w, n := E.n + 1, own := fun b => if b = E.n then some c else E.own b, blk := fun b => if b = E.n then c else E.blk b, hdr := E.hdr, ver := E.ver, V := V }
theorem Rel.adopt (h : Rel P T w0 V1 E s a) {c : Nat} (hV : ∀ x, V1 x ↔ V x ∨ x = c) (hVc : ¬ V c) {arr : Array Value} {t : TypeId} {cs : List PV} (hl : cs.length = arr.size) (he : ∀ (i : Nat) (h1 : i < cs.length) (h2 : i < arr.size), Enc E cs[i] arr[i])
  (hb : w0.heap.size ≤ c) (hb2 : w0.ew.heap.size ≤ c) (hh : E.w.heap[c]? = some (.cells arr t (0, 0))) (hown : ∀ b, b < E.n → E.own b ≠ some c) {d : Tmp} (hd : a.tmps[d]? = some (.pointer (some ⟨c, 0, none⟩))) :
  Rel P T w0 V (E.adopt V c) (St.put { s with h := s.h ++ [.cells t cs] } (some d) (.ptr s.h.length 0)) a := by
 have hn := h.heap.n
 have hEV := h.V
 have x : Ext0 E (E.adopt V c) := by
  refine ⟨Nat.le_succ _, fun b hb => if_neg (by omega), Nat.le_refl _, fun c' hc hu => ⟨?_, rfl⟩, fun _ _ => ⟨Nat.le_refl _, fun _ => rfl⟩, fun b c' hb ho hs _ => ⟨(if_neg (by omega : ¬ b = E.n)).trans ho, rfl⟩⟩
  rintro (hv | ⟨b, hbn, e⟩)
  ·exact hu (.inl (by rw [hEV]; exact (hV c').2 (.inl hv)))
  ·have e' : (if b = E.n then some c else E.own b) = some c' := e
   split at e'
   ·obtain rfl := Option.some.inj e'
    exact hu (.inl (by rw [hEV]; exact (hV c).2 (.inr rfl)))
   ·exact hu (.inr ⟨b, by have : b < E.n + 1 := hbn; omega, e'⟩)
 have eb : ∀ b, ¬ b = E.n → (E.adopt V c).blk b = E.blk b := fun b hb => if_neg hb
 have eo : ∀ b, ¬ b = E.n → (E.adopt V c).own b = E.own b := fun b hb => if_neg hb
 have eb0 : (E.adopt V c).blk E.n = c := if_pos rfl
 have eo0 : (E.adopt V c).own E.n = some c := if_pos rfl
 refine ⟨⟨by show E.n + 1 = (s.h ++ [HObj.cells t cs]).length; rw [hn]; simp, fun b o ho => ?_, fun b b' c' hb hb' e e' => ?_, h.heap.low, fun c' hc => ⟨(h.heap.below c' (by rw [hEV]; exact (hV c').2 (.inl hc))).1, fun b hb e => ?_⟩⟩, by simp [St.put, h.len], fun i h1 h2 => ?_, h.below, h.defers, rfl, h.T, ⟨h.hand.m, fun j hj => ⟨Nat.lt_succ_of_lt (h.hand.blk j hj).1, (eb j (by have := (h.hand.blk j hj).1; omega)).trans (h.hand.blk j hj).2⟩, fun c' hc => by
   obtain ⟨b, hbn, e⟩ := hc
   have hbn' : b < E.n + 1 := hbn
   by_cases h1 : b = E.n
   ·subst h1
    rw [eo0] at e
    obtain rfl := Option.some.inj e
    exact .inr hb2
   ·rw [eo b h1] at e
    exact h.hand.own c' ⟨b, by omega, e⟩, h.hand.same, h.hand.size⟩⟩
 ·have ho' : (s.h ++ [HObj.cells t cs])[b]? = some o := ho
  by_cases hbn : b = E.n
  ·subst hbn
   rw [hn] at ho'
   simp at ho'
   subst ho'
   exact .cells (t := t) (arr := arr) (by rw [eo0, eb0]) (by rw [eb0]; exact hb) (by rw [eb0]; exact hh) hl (fun i a b => (he i a b).ext0 x)
  ·have hb2 : b < s.h.length := by
    have := (List.getElem?_eq_some_iff.1 ho').1
    rw [List.length_append] at this
    simp at this
    omega
   rw [List.getElem?_append_left hb2] at ho'
   exact (h.heap.obj b o ho').keep0 x (eo b hbn) (eb b hbn) rfl rfl fun _ _ => rfl
 ·have hb1 : b < E.n + 1 := hb
  have hb2 : b' < E.n + 1 := hb'
  by_cases h1 : b = E.n
  ·subst h1
   by_cases h2 : b' = E.n
   ·exact h2.symm
   ·rw [eo0] at e
    rw [eo b' h2] at e'
    obtain rfl := Option.some.inj e
    exact absurd e' (hown b' (by omega))
  ·rw [eo b h1] at e
   by_cases h2 : b' = E.n
   ·subst h2
    rw [eo0] at e'
    obtain rfl := Option.some.inj e'
    exact absurd e (hown b (by omega))
   ·rw [eo b' h2] at e'
    exact h.heap.apart b b' c' (by omega) (by omega) e e'
 ·have e' : (if b = E.n then some c else E.own b) = some c' := e
  split at e'
  ·obtain rfl := Option.some.inj e'
   exact hVc hc
  ·exact (h.heap.below c' (by rw [hEV]; exact (hV c').2 (.inl hc))).2 b (by have : b < E.n + 1 := hb; omega) e'
 ·have h3 : i < s.fr.length := by simpa [St.put] using h1
  refine put_name (fun h2 => ?_) (fun i h1 h2 => (h.fr i h1 h2).ext0 x) i h1 h2
  ·have e1 : a.tmps[d] = .pointer (some ⟨c, 0, none⟩) := by
    rw [Array.getElem?_eq_getElem h2] at hd
    exact Option.some.inj hd
   rw [e1]
   have := Enc.ptr (E := E.adopt V c) (b := s.h.length) (off := 0) (by show s.h.length < E.n + 1; omega)
   rw [← hn, eb0] at this
   rw [← hn]
   exact this
/-- A variable that was made. -/
structure Made (P : Program) (w0 : Bs) (V : Nat → Prop) (ops : Array Oper) (E : Env) (a : Act) (i c : Nat) : Prop where
 of : ∃ o t d inf z, ops[i]? = some o ∧ o.op = .alloc t ∧ o.dst = some d ∧ P.info? t = some inf ∧ inf.zero = some z ∧ a.tmps[d]? = some (.pointer (some ⟨c, 0, none⟩)) ∧ E.w.heap[c]? = some (.cells z.cells t (0, 0))
 low : w0.heap.size ≤ c
 low2 : w0.ew.heap.size ≤ c
 own : ∀ b, b < E.n → E.own b ≠ some c
 new : ¬ V c
theorem keep_adopt {W : List Nat} {c : Nat} {w : World} (hV : ∀ x, E.V x ↔ V x ∨ x = c) (k : Keep (E.adopt V c) W w) : Keep E W w := by
 intro c' hc hv hw
 refine k c' hc (fun h => hv ((hV c').2 (.inl h))) fun b hb hbn e => ?_
 have e' : (if b = E.n then some c else E.own b) = some c' := e
 split at e'
 ·exact hv ((hV c').2 (.inr (Option.some.inj e').symm))
 ·exact hw b hb (by have : b < E.n + 1 := hbn; omega) e'
theorem allocs_ok {ops : Array Oper} {K : St → Option PV} {r : PV} {G : Prop} {W : List Nat} {bk : Nat → Nat} : ∀ (is : List Nat) {V1 : Nat → Prop} {E : Env} {s : St}, Rel P T w0 V1 E s a → (∀ x, V1 x ↔ V x ∨ ∃ i, i ∈ is ∧ x = bk i) → (∀ i, i ∈ is → Made P w0 V ops E a i (bk i)) → is.Nodup → (∀ i j, i ∈ is → j ∈ is → bk i = bk j → i = j) →
  denAllocs P ops is K s = some r → (∀ E' s', Rel P T w0 V E' s' a → E'.w = E.w → (∀ w, Keep E' W w → Keep E W w) → K s' = some r → G) → G
 | [], V1, E, s, h, hV, hm, hnd, hinj, hd, hn => by
  have e : V1 = V := funext fun x => propext ((hV x).trans ⟨fun h => h.elim id fun ⟨_, h, _⟩ => (by cases h), Or.inl⟩)
  subst e
  exact hn E s h rfl (fun _ h => h) hd
 | i :: l, V1, E, s, h, hV, hm, hnd, hinj, hd, hn => by
  obtain ⟨o, t, d, inf, z, ho, hop, hdst, hi, hz, ha, hh⟩ := (hm i List.mem_cons_self).of
  unfold denAllocs at hd
  rw [ho] at hd
  dsimp only at hd
  rw [hop, hdst] at hd
  simp only [denOp] at hd
  split at hd
  ·have ez : zeroT P t = ofV z := by unfold zeroT; rw [hi]; dsimp only; rw [hz]
   rw [ez] at hd
   obtain ⟨z1, z2⟩ := ofV_cells E z
   have hnot : ∀ j, j ∈ l → bk j ≠ bk i := fun j hj e => by
    have := hinj j i (List.mem_cons_of_mem _ hj) List.mem_cons_self e
    subst this
    exact (List.nodup_cons.1 hnd).1 hj
   have hVa : ∀ x, V1 x ↔ (V x ∨ ∃ j, j ∈ l ∧ x = bk j) ∨ x = bk i := fun x => by
    rw [hV x]
    constructor
    ·rintro (h | ⟨j, hj, e⟩)
     ·exact .inl (.inl h)
     ·rcases List.mem_cons.1 hj with e2 | hj
      ·exact .inr (by rw [e, e2])
      ·exact .inl (.inr ⟨j, hj, e⟩)
    ·rintro ((h | ⟨j, hj, e⟩) | e)
     ·exact .inl h
     ·exact .inr ⟨j, List.mem_cons_of_mem _ hj, e⟩
     ·exact .inr ⟨i, List.mem_cons_self, e⟩
   have h2 := h.adopt (V := fun x => V x ∨ ∃ j, j ∈ l ∧ x = bk j) hVa (by
    rintro (hv | ⟨j, hj, e⟩)
    ·exact (hm i List.mem_cons_self).new hv
    ·exact hnot j hj e.symm) z1 z2 (hm i List.mem_cons_self).low (hm i List.mem_cons_self).low2 hh (hm i List.mem_cons_self).own ha
   have hEV := h.V
   refine allocs_ok l h2 (fun x => Iff.rfl) (fun j hj => ?_) (List.nodup_cons.1 hnd).2 (fun i j hi hj => hinj i j (List.mem_cons_of_mem _ hi) (List.mem_cons_of_mem _ hj)) hd fun E' s' h' e' hk' hk => hn E' s' h' e' (fun w hw => keep_adopt (fun x => by rw [hEV]; exact hVa x) (hk' w hw)) hk
   have hmj := hm j (List.mem_cons_of_mem _ hj)
   refine ⟨hmj.of, hmj.low, hmj.low2, fun b hb e => ?_, hmj.new⟩
   have e' : (if b = E.n then some (bk i) else E.own b) = some (bk j) := e
   split at e'
   ·exact hnot j hj (Option.some.inj e').symm
   ·exact hmj.own b (by have : b < E.n + 1 := hb; omega) e'
  ·cases hd
theorem allocOp_spec {o : Oper} (h : allocOp P o = true) : ∃ t d inf z, o.op = .alloc t ∧ o.guard = none ∧ o.dst = some d ∧ P.info? t = some inf ∧ inf.zero = some z := by
 unfold allocOp at h
 split at h
 ·rename_i t ht
  simp only [Bool.and_eq_true, Option.isNone_iff_eq_none, Option.isSome_iff_exists] at h
  obtain ⟨⟨hg, d, hd⟩, hk⟩ := h
  unfold zeroT at hk
  split at hk
  ·rename_i inf hi
   split at hk
   ·rename_i z hz
    exact ⟨t, d, inf, z, ht, hg, hd, hi, hz⟩
   ·cases hk
  ·cases hk
 ·cases h
theorem alloc_run {o : Oper} {t : TypeId} {inf : TypeInfo} {z : Value} (hop : o.op = .alloc t) (hi : P.info? t = some inf) (hz : inf.zero = some z) (w : World) :
  (execOp a.eval o).run P w = .ok (.value (.pointer (some ⟨w.heap.size, 0, none⟩))) (w.alloc (.cells z.cells t)) := by
 obtain ⟨dst, op, type, pos, after, guard⟩ := o
 dsimp only at hop
 subst hop
 refine exec_v (s := Instr.alloc t true (.tuple #[])) ?_
 unfold Instr.alloc
 have hzv : (zeroValue t).run P w = .ok z w := by
  unfold zeroValue typeInfo
  simp [hi, hz]
 rw [Sem.run_bind, hzv, Result.andThen_ok]
 rfl
theorem isAlloc_spec {ops : Array Oper} {i : Nat} {o : Oper} (ho : ops[i]? = some o) : isAlloc P ops i = allocOp P o := by
 unfold isAlloc
 rw [ho]
 rfl
theorem alloc_not_tame {o : Oper} (h : allocOp P o = true) : quietOp o = false := by
 obtain ⟨t, d, inf, z, hop, _⟩ := allocOp_spec h
 unfold quietOp
 rw [hop]
theorem getD_set_true {l : Array Bool} {i j : Nat} : (l.setIfInBounds i true).getD j false = true ↔ (j = i ∧ i < l.size) ∨ l.getD j false = true := by
 by_cases h : i = j
 ·subst h
  rcases Nat.lt_or_ge i l.size with h | h
  ·simp [h]
  ·simp [h]
 ·rw [getD_set_ne _ h]
  constructor
  ·exact .inr
  ·rintro (⟨e, _⟩ | h2)
   ·exact absurd e.symm h
   ·exact h2
theorem bool_iff {x y : Bool} (h : x = true ↔ y = true) : x = y := by cases x <;> cases y <;> simp_all
theorem mem_markL : ∀ {l : List Nat} {a : Array Bool} {j : Nat}, (markL l a).getD j false = true ↔ (j ∈ l ∧ j < a.size) ∨ a.getD j false = true
 | [], a, j => by simp [markL]
 | i :: l, a, j => by
  show (markL l (a.setIfInBounds i true)).getD j false = true ↔ _
  rw [mem_markL, getD_set_true]
  simp only [Array.size_setIfInBounds, List.mem_cons]
  constructor
  ·rintro (⟨h, h2⟩ | ⟨h, h2⟩ | h)
   ·exact .inl ⟨.inr h, h2⟩
   ·exact .inl ⟨.inl h, by omega⟩
   ·exact .inr h
  ·rintro (⟨h | h, h2⟩ | h)
   ·exact .inr (.inl ⟨h, by omega⟩)
   ·exact .inl ⟨h, h2⟩
   ·exact .inr (.inr h)
theorem size_markL : ∀ (l : List Nat) (a : Array Bool), (markL l a).size = a.size
 | [], a => rfl
 | i :: l, a => by
  show (markL l (a.setIfInBounds i true)).size = _
  rw [size_markL]; simp
/-- The worlds in which what is read first is as it is. -/
def SW (w0 : Bs) (E : Env) (W : List Nat) (w : World) : Prop := Below w0.heap.size w0 w ∧ E.w.heap.size ≤ w.heap.size ∧ Keep E W w
theorem SW.here (h : Rel P T w0 V E s a) (W : List Nat) : SW w0 E W E.w := ⟨h.below, Nat.le_refl _, Keep.refl E W⟩
theorem SW.of {E E' : Env} {W : List Nat} (h1 : SW w0 E W E'.w) (hV : E'.V = E.V) (hn : E'.n = E.n) (ho : E'.own = E.own) (w : World) (h : SW w0 E' W w) : SW w0 E W w := by
 obtain ⟨a1, a2, a3⟩ := h1
 obtain ⟨b1, b2, b3⟩ := h
 exact ⟨b1, Nat.le_trans a2 b2, fun c hc hv hw => (b3 c (by omega) (by rw [hV]; exact hv) (fun b hb hbn => by rw [ho]; exact hw b hb (by omega))).trans (a3 c hc hv hw)⟩
theorem wpAnyH_mono {md : Region.Mode} {ops : Array Oper} {Q : Exit → Act → World → Prop} {S S' : World → Prop} (h : ∀ w, S' w → S w) : ∀ (f : Nat) (listed : Array Bool) (a : Act) (w : World), wpAnyH P md ops Q S' f listed a w → wpAnyH P md ops Q S f listed a w
 | 0, _, _, _, hh => hh
 | f + 1, _, _, _, hh => ⟨hh.1, fun i hi => wpOp_mono (fun a' w' h' => ⟨h _ h'.1, wpAnyH_mono h f _ a' w' h'.2⟩) (hh.2 i hi)⟩
/-- One operation whose turn it is. -/
theorem stepW {d : Cf} {C : FuncId → List PV → Option PV} (hC : ∀ g args r, C g args = some r → FunOk P T g args r) (hTb : ∀ w w', T w → Below w.heap.size w w' → T w') (h : Rel P T w0 V E s a) {o : Oper} {W : List Nat} {K : St → Option PV} {r : PV}
  (hk : denExec P d C false o s K = some r) (hw : okW W s o = true)
  {next : Act → World → Prop} {Q : Exit → Act → World → Prop} (hn : ∀ E' x h' v, Rel P T w0 V E' (St.put { s with h := h' } o.dst x) (a.put o.dst v) → K (St.put { s with h := h' } o.dst x) = some r → SW w0 E W E'.w → E'.V = E.V → E'.n = E.n → E'.own = E.own → next (a.put o.dst v) E'.w) : o.wp P a E.w next Q := by
 have quiet : (callsOp o || (tamesOp o && readsOk W s.ρ o.op)) = true → o.wp P a E.w next Q := fun hq => by
  rw [Bool.or_eq_true, Bool.and_eq_true] at hq
  rcases hq with hc | ⟨ht, hr⟩
  ·refine call_ok hC hTb h hc hk fun w' x v h' hk' hb => hn _ x s.h v h' hk' ⟨h'.below, hb.size, fun c hc _ _ => hb.block c hc⟩ rfl rfl rfl
  ·obtain ⟨x, v, h3, h4, h5⟩ := tame_ok h ht hk
   exact upon_mem (.inl (h3 [] (readsOk_nil _ _) E.w (Keep.refl _ _))) (hn E x s.h v (h.same h4 o.dst) h5 (SW.here h W) rfl rfl rfl)
 unfold okW at hw
 split at hw
 ·rename_i t p x hop
  have hd : denOp P s.ρ s.h o.op (fun x h => K (St.put { s with h := h } o.dst x)) = some r := by
   unfold denExec at hk
   rw [hop] at hk ⊢
   exact hk
  rw [hop] at hd
  simp only [denOp] at hd
  split at hd
  ·rename_i b off hp
   split at hd
   ·rename_i cs hb
    split at hd
    ·rename_i hc
     obtain ⟨c1, c2, c3, c4, c5⟩ := hc
     obtain ⟨E', h1, h2, h3, h5, e1, e2, e3, e4⟩ := store_ok h.heap hb (h.ρ x) c1 c2 c3 c4 c5
     rw [hp] at hw
     have hbW : b ∈ W := by simpa using hw
     have hh := h.ρ p
     rw [hp] at hh
     generalize hv : a.eval p = v at hh
     cases hh with
     | ptr hbn =>
      have hrun : (execOp a.eval o).run P E.w = .ok .skip E'.w := by
       obtain ⟨dst, op, type, pos, after, guard⟩ := o
       dsimp only at hop
       subst hop
       show (do Instr.storeAt t (a.eval p) (a.eval x); pure Next.skip : Sem Next).run P E.w = _
       rw [hv, Sem.run_bind]
       have : (Instr.storeAt t (.pointer (some ⟨E.blk b, off, none⟩)) (a.eval x)).run P E.w = .ok () E'.w := h1
       rw [this]
       rfl
      refine upon_mem (v := undef) (.inr ⟨hrun, rfl⟩) (hn E' .top _ undef (h.step h2 h3 h5 .top o.dst) hd ⟨h.below.trans h5, h2.size, fun c hc _ hown => e4 c (hown b hbW hbn)⟩ e1 e2 e3)
    ·cases hd
   ·cases hd
  ·cases hd
 ·exact quiet hw
theorem okW_tame {W : List Nat} {o : Oper} (h : okW W s o = true) (ht : tamesOp o = true) : readsOk W s.ρ o.op = true := by
 unfold okW at h
 split at h
 ·rename_i t p x hop
  unfold tamesOp quietOp at ht
  rw [hop] at ht
  cases ht
 ·rw [Bool.or_eq_true, Bool.and_eq_true] at h
  rcases h with h | h
  ·unfold callsOp at h
   split at h
   ·rename_i c hc
    unfold readsOk
    rw [hc]
   ·cases h
  ·exact h.2
theorem tames_quiet {o : Oper} (h : tamesOp o = true) : quietOp o = true := by
 obtain ⟨dst, op, type, pos, after, guard⟩ := o
 cases op with
 | call c =>
  obtain ⟨callee, as, ts⟩ := c
  cases callee with
  | value f => cases h
  | builtin b => cases b <;> first | rfl | cases h
  | invoke _ _ => cases h
 | _ => exact h
theorem calls_quiet {o : Oper} (h : callsOp o = true) : quietOp o = true := by
 obtain ⟨dst, op, type, pos, after, guard⟩ := o
 cases op with
 | call c =>
  obtain ⟨callee, as, ts⟩ := c
  cases callee with
  | value f => rfl
  | builtin b => cases h
  | invoke _ _ => cases h
 | _ => cases h
/-- The rest of a region. -/
theorem planS_ok {d : Cf} {C : FuncId → List PV → Option PV} (hC : ∀ g args r, C g args = some r → FunOk P T g args r) (hTb : ∀ w w', T w → Below w.heap.size w w' → T w') {ops : Array Oper} {Q : Exit → Act → World → Prop} {W : List Nat} {K : St → Option PV} {r : PV}
  (hsel : Region.noSelect ops = true) (hgd : ∀ (i : Nat) (o : Oper), ops[i]? = some o → o.guard = none) (hn : ∀ E' s' a', Rel P T w0 V E' s' a' → K s' = some r → Q .normal a' E'.w) : ∀ (f : Nat) (l : List Nat) {E : Env} {s : St} {a : Act} {listed : Array Bool},
  planS ops f listed = some l → Rel P T w0 V E s a → denPlanW P d C ops W l K s = some r → wpAnyH P .any ops (NoP Q) (SW w0 E W) f listed a E.w
 | 0, l, E, s, a, listed, hp, h, hd => by
  unfold planS at hp
  split at hp
  ·rename_i he
   cases hp
   exact ⟨List.isEmpty_iff.1 he, hn _ _ _ h hd⟩
  ·cases hp
 | f + 1, l, E, s, a, listed, hp, h, hd => by
  have hg : ∀ {i o}, ops[i]? = some o → Region.wanted o (yielded ops a.tmps) = true := fun ho => wanted_none (hgd _ _ ho)
  unfold planS at hp
  split at hp
  ·rename_i i hfi
   obtain ⟨l', hl', rfl⟩ := Option.map_eq_some_iff.1 hp
   have hmem := List.mem_of_find?_eq_some hfi
   have hcond := List.find?_some hfi
   rw [Bool.and_eq_true] at hcond
   obtain ⟨htm, hfr⟩ := hcond
   obtain ⟨_, oi, hoi, _⟩ := mem_ready.1 hmem
   rw [hoi] at htm
   have htm' : tamesOp oi = true := htm
   unfold denPlanW at hd
   rw [hoi] at hd
   dsimp only at hd
   split at hd
   ·rename_i hw
    have hr := okW_tame hw htm'
    obtain ⟨x, v, h3, h4, h5⟩ := tame_ok h htm' hd
    exact wpAnyH_first hoi (Region.noSelect_spec hsel) (fun _ _ _ hf => hf) f listed a E.w (Region.free_spec hoi hfr) hmem (.inl ⟨hg hoi, fun w hw' => h3 W hr w hw'.2.2⟩) (SW.here h W)
     (planS_ok hC hTb hsel hgd hn f l' hl' (h.same h4 oi.dst) h5)
   ·cases hd
  ·split at hp
   ·rename_i hr
    cases hp
    exact wpAnyH_done (Q := NoP Q) hr (hn _ _ _ h hd) _
   ·rename_i i hr
    obtain ⟨l', hl', rfl⟩ := Option.map_eq_some_iff.1 hp
    have hmem : i ∈ Region.ready .any ops listed := by rw [hr]; exact List.mem_singleton.2 rfl
    obtain ⟨_, oi, hoi, _⟩ := mem_ready.1 hmem
    unfold denPlanW at hd
    rw [hoi] at hd
    dsimp only at hd
    split at hd
    ·rename_i hw
     refine wpAnyH_all hr (by simp) fun j hj => ?_
     obtain rfl : j = i := by simpa using hj
     unfold wpOp
     rw [hoi]
     dsimp only
     rw [if_pos (hg hoi)]
     refine .inl (stepW hC hTb h hd hw fun E' x h' v hrel hk hsw e1 e2 e3 => ?_)
     exact ⟨hsw, wpAnyH_mono (fun w hw' => SW.of hsw e1 e2 e3 w hw') f _ _ _ (planS_ok hC hTb hsel hgd hn f l' hl' hrel hk)⟩
    ·cases hd
   ·cases hp
/-- Before it: variables are made at any time. -/
theorem planP_ok {d : Cf} {C : FuncId → List PV → Option PV} (hC : ∀ g args r, C g args = some r → FunOk P T g args r) (hTb : ∀ w w', T w → Below w.heap.size w w' → T w') {ops : Array Oper} {Q : Exit → Act → World → Prop} {W : List Nat} {K : St → Option PV} {r : PV} {f2 : Nat} {l2 : List Nat}
  (hsel : Region.noSelect ops = true) (hgd : ∀ (i : Nat) (o : Oper), ops[i]? = some o → o.guard = none) (haf : ∀ (i : Nat) (o : Oper), isAlloc P ops i = true → ops[i]? = some o → ∀ e, e ∈ o.after → Region.binds .any e = false) (hap : ∀ (i j : Nat) (oi oj : Oper) (e : Tmp), isAlloc P ops i = true → ops[i]? = some oi → oi.dst = some e → isAlloc P ops j = true → ops[j]? = some oj → oj.dst = some e → i = j) (hn : ∀ E' s' a', Rel P T w0 V E' s' a' → K s' = some r → Q .normal a' E'.w) :
  ∀ (f fp : Nat) (us : List Nat) (l : List Nat) {V1 : Nat → Prop} {E : Env} {s : St} {a : Act} {listed listed' : Array Bool} {bk : Nat → Nat}, f = l.length + us.length → planP ops (allocIx P ops) fp listed = l ∨ l = [] → waitsB P ops (allocIx P ops) (markL l listed) = true → planS ops f2 (markL (allocIx P ops) (markL l listed)) = some l2 →
  listed.size = ops.size → listed'.size = ops.size → (∀ j, isAlloc P ops j = false → listed'.getD j false = listed.getD j false) → (∀ j, isAlloc P ops j = true → listed.getD j false = false) → us.Nodup → (∀ j, j ∈ us ↔ isAlloc P ops j = true ∧ listed'.getD j false = false) →
  Rel P T w0 V1 E s a → (∀ x, V1 x ↔ V x ∨ ∃ i, (isAlloc P ops i = true ∧ listed'.getD i false = true) ∧ x = bk i) → (∀ i, isAlloc P ops i = true → listed'.getD i false = true → Made P w0 V ops E a i (bk i)) →
  (∀ i j, isAlloc P ops i = true → listed'.getD i false = true → isAlloc P ops j = true → listed'.getD j false = true → bk i = bk j → i = j) →
  (∀ i o e, isAlloc P ops i = true → ops[i]? = some o → o.dst = some e → s.fr.getD e .top = .top ∧ e < s.fr.length) →
  denPlanW P d C ops W l (fun s' => denAllocs P ops (allocIx P ops) (fun s2 => denPlanW P d C ops W l2 K s2) s') s = some r →
  wpAnyH P .any ops (NoP Q) (SW w0 E W) (f + f2) listed' a E.w := by
 have hix : ∀ j, j ∈ allocIx P ops ↔ isAlloc P ops j = true := fun j => by
  unfold allocIx
  rw [List.mem_filter, List.mem_range]
  refine ⟨fun h => h.2, fun h => ⟨?_, h⟩⟩
  unfold isAlloc at h
  cases e : ops[j]? with
  | none => rw [e] at h; cases h
  | some o => exact (Array.getElem?_eq_some_iff.1 e).1
 intro f
 induction f with
 | zero =>
  intro fp us l V1 E s a listed listed' bk hf hp hwait hS2 hsz hsz' hag hal hnd hus h hV hm hinj htop hd
  obtain rfl : us = [] := by cases us with | nil => rfl | cons x y => simp at hf
  obtain rfl : l = [] := by cases l with | nil => rfl | cons x y => simp at hf
  rw [Nat.zero_add]
  have hall : ∀ j, isAlloc P ops j = true → listed'.getD j false = true := fun j ha => by
   cases e : listed'.getD j false with
   | true => rfl
   | false => exact absurd ((hus j).2 ⟨ha, e⟩) (by simp)
  have e : markL (allocIx P ops) (markL [] listed) = listed' := by
   refine Array.ext (by rw [size_markL, size_markL, hsz, hsz']) fun j h1 h2 => ?_
   have e2 : (markL (allocIx P ops) (markL [] listed)).getD j false = listed'.getD j false := by
    refine bool_iff (mem_markL.trans ?_)
    rw [hix, size_markL]
    cases hja : isAlloc P ops j with
    | true =>
     have : j < listed.size := by rw [size_markL, size_markL] at h1; exact h1
     simp [hall j hja, this]
    | false =>
     rw [hag j hja]
     simp [markL]
   simpa [h1, h2] using e2
  rw [e] at hS2
  have hd' : denAllocs P ops (allocIx P ops) (fun s2 => denPlanW P d C ops W l2 K s2) s = some r := hd
  refine allocs_ok (V := V) (W := W) (bk := bk) (allocIx P ops) h (fun x => (hV x).trans ?_) (fun i hi => hm i ((hix i).1 hi) (hall i ((hix i).1 hi))) (List.Pairwise.filter _ List.nodup_range) (fun i j hi hj => hinj i j ((hix i).1 hi) (hall i ((hix i).1 hi)) ((hix j).1 hj) (hall j ((hix j).1 hj))) hd' fun E' s' h' ew hkeep hk => ?_
  ·constructor
   ·rintro (h | ⟨i, ⟨h1, _⟩, e⟩)
    ·exact .inl h
    ·exact .inr ⟨i, (hix i).2 h1, e⟩
   ·rintro (h | ⟨i, hi, e⟩)
    ·exact .inl h
    ·exact .inr ⟨i, ⟨(hix i).1 hi, hall i ((hix i).1 hi)⟩, e⟩
  ·have := planS_ok (V := V) hC hTb hsel hgd hn f2 l2 hS2 h' hk
   rw [ew] at this
   exact wpAnyH_mono (fun w hw => ⟨hw.1, by have := hw.2.1; rw [ew] at this; exact this, hkeep w hw.2.2⟩) f2 _ _ _ this
 | succ f ih =>
  intro fp us l V1 E s a listed listed' bk hf hp hwait hS2 hsz hsz' hag hal hnd hus h hV hm hinj htop hd
  have hlt : ∀ {j o}, ops[j]? = some o → j < ops.size := fun h => (Array.getElem?_eq_some_iff.1 h).1
  have hS := SW.here h W
  have hg : ∀ {i o}, ops[i]? = some o → Region.wanted o (yielded ops a.tmps) = true := fun ho => wanted_none (hgd _ _ ho)
  -- a variable is made
  have make : ∀ j, isAlloc P ops j = true → j ∈ Region.ready .any ops listed' → wpOp P ops (NoP Q) j (fun a' w' => SW w0 E W w' ∧ wpAnyH P .any ops (NoP Q) (SW w0 E W) (f + f2) (listed'.setIfInBounds j true) a' w') a E.w := fun j ha hr => by
   obtain ⟨hun, o, ho, _⟩ := mem_ready.1 hr
   have hun' := getD_both hun
   have hao : allocOp P o = true := by rw [← isAlloc_spec ho]; exact ha
   obtain ⟨t, e, inf, z, hop, hgn, hde, hinf, hz⟩ := allocOp_spec hao
   have hju : j ∈ us := (hus j).2 ⟨ha, hun'⟩
   have hjs : j < listed'.size := by rw [hsz']; exact hlt ho
   have hb : Below E.w.heap.size E.w (E.w.alloc (.cells z.cells t)) := (Below.refl _ _).alloc (Nat.le_refl _) _
   unfold wpOp
   rw [ho]
   dsimp only
   rw [if_pos (hg ho)]
   refine .inl (upon_mem (.inl (alloc_run hop hinf hz E.w)) ?_)
   have hrel := h.pend (z := z) (t := t) (htop j o e ha ho hde).1 (.pointer (some ⟨E.w.heap.size, 0, none⟩))
   rw [← hde] at hrel
   have hlen := List.length_erase_of_mem hju
   have hpos := List.length_pos_of_mem hju
   have hset : ∀ i, (listed'.setIfInBounds j true).getD i false = true ↔ i = j ∨ listed'.getD i false = true := fun i => by rw [getD_set_true]; simp [hjs]
   have hsw : SW w0 E W (E.w.alloc (.cells z.cells t)) := ⟨hrel.below, hb.size, fun c hc _ _ => hb.block c hc⟩
   have hsz2 : (E.w.alloc (.cells z.cells t)).heap.size = E.w.heap.size + 1 := by show (E.w.heap.push _).size = _; simp
   refine ⟨hsw, wpAnyH_mono (S' := SW w0 (E.pend (E.w.alloc (.cells z.cells t)) E.w.heap.size) W) (fun w hw => ⟨hw.1, Nat.le_trans hb.size hw.2.1, fun c hc hv hw2 => (hw.2.2 c (Nat.lt_of_lt_of_le hc hb.size) (fun hv2 => hv2.elim hv fun e => by omega) hw2).trans (hb.block c hc)⟩) (f + f2) _ _ _ ?_⟩
   refine ih fp (us.erase j) l (bk := fun k => if k = j then E.w.heap.size else bk k) (by omega) hp hwait hS2 hsz (by simpa using hsz') (fun i hi => ?_) hal (hnd.erase _) (fun i => ?_) hrel (fun x => ?_) (fun i hi hl => ?_) (fun i k hi hli hk hlk => ?_) htop hd
   ·rw [getD_set_ne _ (by rintro rfl; rw [ha] at hi; cases hi)]
    exact hag i hi
   ·rw [hnd.mem_erase_iff, hus]
    constructor
    ·rintro ⟨h1, h2, h3⟩
     exact ⟨h2, by rw [getD_set_ne _ (Ne.symm h1)]; exact h3⟩
    ·rintro ⟨h1, h2⟩
     have hne : i ≠ j := by
      rintro rfl
      rw [(hset i).2 (.inl rfl)] at h2
      cases h2
     rw [getD_set_ne _ (Ne.symm hne)] at h2
     exact ⟨hne, h1, h2⟩
   ·rw [hV x]
    constructor
    ·rintro ((hx | ⟨i, ⟨h1, h2⟩, e⟩) | e)
     ·exact .inl hx
     ·refine .inr ⟨i, ⟨h1, (hset i).2 (.inr h2)⟩, ?_⟩
      rw [if_neg (by rintro rfl; rw [hun'] at h2; cases h2)]
      exact e
     ·exact .inr ⟨j, ⟨ha, (hset j).2 (.inl rfl)⟩, by rw [if_pos rfl]; exact e⟩
    ·rintro (hx | ⟨i, ⟨h1, h2⟩, e⟩)
     ·exact .inl (.inl hx)
     ·by_cases hij : i = j
      ·rw [if_pos hij] at e
       exact .inr e
      ·rw [if_neg hij] at e
       exact .inl (.inr ⟨i, ⟨h1, ((hset i).1 h2).resolve_left hij⟩, e⟩)
   ·by_cases hij : i = j
    ·subst hij
     rw [if_pos rfl]
     refine ⟨⟨o, t, e, inf, z, ho, hop, hde, hinf, hz, ?_, ?_⟩, h.heap.low, h.hand.size, fun b hbn eo => ?_, fun hv => ?_⟩
     ·rw [hde]
      have hel : e < a.tmps.size := by
       rw [← h.len]
       exact (htop i o e ha ho hde).2
      simp [Act.put, hel]
     ·exact heap_alloc_new E.w _
     ·have hbl : b < s.h.length := by have : b < E.n := hbn; have := h.heap.n; omega
      have := ((h.heap.obj b _ (List.getElem?_eq_getElem hbl)).lt eo).2
      omega
     ·have := (h.heap.below E.w.heap.size (by rw [h.V]; exact (hV _).2 (.inl hv))).1
      omega
    ·rw [if_neg hij]
     have hm' := hm i hi (((hset i).1 hl).resolve_left hij)
     obtain ⟨o', t', e', inf', z', ho', hop', hde', hi', hz', ha', hh'⟩ := hm'.of
     refine ⟨⟨o', t', e', inf', z', ho', hop', hde', hi', hz', ?_, ?_⟩, hm'.low, hm'.low2, hm'.own, hm'.new⟩
     ·have hne : e ≠ e' := fun he => hij (hap i j o' o e' hi ho' hde' ha ho (by rw [hde, he]))
      rw [hde]
      show (a.tmps.setIfInBounds e _)[e']? = _
      rw [Array.getElem?_setIfInBounds_ne hne]
      exact ha'
     ·exact (alloc_old _ _ (Array.getElem?_eq_some_iff.1 hh').1).trans hh'
   ·have low : ∀ {i}, isAlloc P ops i = true → listed'.getD i false = true → bk i ≠ E.w.heap.size := fun hi hli e => by
     obtain ⟨_, _, _, _, _, _, _, _, _, _, _, hh⟩ := (hm _ hi hli).of
     have := (Array.getElem?_eq_some_iff.1 hh).1
     omega
    by_cases h1 : i = j
    ·by_cases h2 : k = j
     ·intro _; rw [h1, h2]
     ·intro e
      rw [if_pos h1, if_neg h2] at e
      exact absurd e.symm (low hk (((hset k).1 hlk).resolve_left h2))
    ·by_cases h2 : k = j
     ·intro e
      rw [if_neg h1, if_pos h2] at e
      exact absurd e (low hi (((hset i).1 hli).resolve_left h1))
     ·intro e
      rw [if_neg h1, if_neg h2] at e
      exact hinj i k hi (((hset i).1 hli).resolve_left h1) hk (((hset k).1 hlk).resolve_left h2) e
  -- what is no variable's making
  have back : ∀ j, isAlloc P ops j = false → j ∈ Region.ready .any ops listed' → j ∈ Region.ready .any ops (markL (allocIx P ops) listed) := fun j ha hr => by
   obtain ⟨h1, o, ho, h2⟩ := mem_ready.1 hr
   have hjs : j < ops.size := hlt ho
   refine mem_ready.2 ⟨getD_in (by rw [size_markL, hsz]; exact hjs) ?_, o, ho, fun e he hb => ?_⟩
   ·cases hc : (markL (allocIx P ops) listed).getD j false with
    | false => rfl
    | true =>
     rcases mem_markL.1 hc with ⟨hm, _⟩ | hc
     ·rw [hix, ha] at hm; cases hm
     ·rw [← hag j ha, getD_both h1] at hc; cases hc
   ·have h3 := h2 e he hb
    refine mem_markL.2 ?_
    cases hea : isAlloc P ops e.on with
    | true => exact .inl ⟨(hix _).2 hea, by
      cases e2 : ops[e.on]? with
      | none => unfold isAlloc at hea; rw [e2] at hea; cases hea
      | some b => rw [hsz]; exact hlt e2⟩
    | false => rw [hag _ hea] at h3; exact .inr h3
  have forth : ∀ j, isAlloc P ops j = false → j ∈ Region.ready .any ops listed → j ∈ Region.ready .any ops listed' := fun j ha hr => by
   obtain ⟨h1, o, ho, h2⟩ := mem_ready.1 hr
   have hjs : j < ops.size := hlt ho
   refine mem_ready.2 ⟨getD_in (by rw [hsz']; exact hjs) (by rw [hag j ha]; exact getD_both h1), o, ho, fun e he hb => ?_⟩
   have h3 := h2 e he hb
   cases hea : isAlloc P ops e.on with
   | true => rw [hal _ hea] at h3; cases h3
   | false => rw [hag _ hea]; exact h3
  cases l with
  | nil =>
   cases us with
   | nil => simp at hf
   | cons u us =>
    have hu := (hus u).1 List.mem_cons_self
    have hur : u ∈ Region.ready .any ops listed' := by
     cases e : ops[u]? with
     | none => have := hu.1; unfold isAlloc at this; rw [e] at this; cases this
     | some o => exact mem_ready.2 ⟨getD_in (by rw [hsz']; exact hlt e) hu.2, o, e, fun x hx hb => by rw [haf u o hu.1 e x hx] at hb; cases hb⟩
    rw [show f + 1 + f2 = (f + f2) + 1 by omega]
    refine ⟨fun h0 => (by rw [h0] at hur; cases hur), fun j hj => ?_⟩
    cases hja : isAlloc P ops j with
    | true => exact make j hja hj
    | false =>
     exfalso
     obtain ⟨h1, o, ho, h2⟩ := mem_ready.1 hj
     unfold waitsB at hwait
     rw [List.all_eq_true] at hwait
     have hw := hwait j (List.mem_range.2 (hlt ho))
     rw [ho, hja] at hw
     have e1 : listed.getD j true = false := getD_in (by rw [hsz]; exact hlt ho) (by rw [← hag j hja]; exact getD_both h1)
     have e2 : (markL [] listed).getD j true = false := e1
     rw [e2] at hw
     simp only [Bool.false_or, Bool.or_eq_true] at hw
     rcases hw with hw | hw
     ·have := List.all_eq_true.1 hw u ((hix u).2 hu.1)
      obtain ⟨x, hx, hx2⟩ := Array.any_eq_true'.1 this
      simp only [Bool.and_eq_true, beq_iff_eq] at hx2
      have := h2 x hx hx2.1
      rw [hx2.2, hu.2] at this
      cases this
     ·obtain ⟨x, hx, hx2⟩ := Array.any_eq_true'.1 hw
      simp only [Bool.and_eq_true, Bool.not_eq_true'] at hx2
      have := h2 x hx hx2.1.1
      rw [hag _ hx2.2] at this
      have h4 : listed.getD x.on false = false := hx2.1.2
      rw [h4] at this
      cases this
  | cons i l =>
   have hp1 : planP ops (allocIx P ops) fp listed = i :: l := hp.resolve_right (by simp)
   cases fp with
   | zero => cases hp1
   | succ fp =>
    unfold planP at hp1
    have hwait' : waitsB P ops (allocIx P ops) (markL l (listed.setIfInBounds i true)) = true := hwait
    have hS2' : planS ops f2 (markL (allocIx P ops) (markL l (listed.setIfInBounds i true))) = some l2 := hS2
    have hf' : f = l.length + us.length := by simp at hf; omega
    have next : isAlloc P ops i = false → i ∈ Region.ready .any ops listed → (planP ops (allocIx P ops) fp (listed.setIfInBounds i true) = l ∨ l = []) → Region.free .any ops listed i = true → ∀ oi, ops[i]? = some oi → ∀ {E' : Env} {x : PV} {h' : Heap} {v : Value}, Rel P T w0 V1 E' (St.put { s with h := h' } oi.dst x) (a.put oi.dst v) → Below E.w.heap.size E.w E'.w → E'.V = E.V → E'.n = E.n → E'.own = E.own → denPlanW P d C ops W l (fun s' => denAllocs P ops (allocIx P ops) (fun s2 => denPlanW P d C ops W l2 K s2) s') (St.put { s with h := h' } oi.dst x) = some r →
      wpAnyH P .any ops (NoP Q) (SW w0 E' W) (f + f2) (listed'.setIfInBounds i true) (a.put oi.dst v) E'.w := fun hia hir hpl hfr oi hoi {E' x h' v} hrel hb eV en eo hk => by
     have hap2 : ∀ j oj e, isAlloc P ops j = true → ops[j]? = some oj → oj.dst = some e → oi.dst ≠ some e := fun j oj e hj hoj hde hd => by
      have hap' := Region.free_spec hoi hfr j oj hoj (by rintro rfl; rw [hj] at hia; cases hia) (getD_in (by rw [hsz]; exact hlt hoj) (hal j hj)) (fun x hx hb => by rw [haf j oj hj hoj x hx] at hb; cases hb)
      unfold Oper.apart at hap'
      rw [hd, hde] at hap'
      simp at hap'
     have hset : ∀ j, isAlloc P ops j = true → (listed'.setIfInBounds i true).getD j false = listed'.getD j false := fun j hj => getD_set_ne _ (by rintro rfl; rw [hj] at hia; cases hia)
     refine ih fp us l (bk := bk) hf' hpl hwait' hS2' (by simpa using hsz) (by simpa using hsz') (fun j hj => ?_) (fun j hj => ?_) hnd (fun j => ?_) hrel (fun x => ?_) (fun j hj hl => ?_) (fun j k hj hlj hk hlk => ?_) (fun j oj e hj hoj hde => ?_) hk
     ·refine bool_iff ?_
      rw [getD_set_true, getD_set_true, hag j hj, hsz, hsz']
     ·rw [getD_set_ne _ (by rintro rfl; rw [hj] at hia; cases hia)]
      exact hal j hj
     ·rw [hus j]
      constructor
      ·rintro ⟨h1, h2⟩; exact ⟨h1, by rw [hset j h1]; exact h2⟩
      ·rintro ⟨h1, h2⟩; exact ⟨h1, by rw [hset j h1] at h2; exact h2⟩
     ·rw [hV x]
      constructor
      ·rintro (hx | ⟨j, ⟨h1, h2⟩, e⟩)
       ·exact .inl hx
       ·exact .inr ⟨j, ⟨h1, by rw [hset j h1]; exact h2⟩, e⟩
      ·rintro (hx | ⟨j, ⟨h1, h2⟩, e⟩)
       ·exact .inl hx
       ·exact .inr ⟨j, ⟨h1, by rw [hset j h1] at h2; exact h2⟩, e⟩
     ·rw [hset j hj] at hl
      have hm' := hm j hj hl
      obtain ⟨o', t', e', inf', z', ho', hop', hde', hi', hz', ha', hh'⟩ := hm'.of
      refine ⟨⟨o', t', e', inf', z', ho', hop', hde', hi', hz', ?_, ?_⟩, hm'.low, hm'.low2, fun b hb => by rw [eo]; exact hm'.own b (by rw [← en]; exact hb), hm'.new⟩
      ·have hne := hap2 j o' e' hj ho' hde'
       cases hd2 : oi.dst with
       | none => exact ha'
       | some e2 =>
        show (a.tmps.setIfInBounds e2 _)[e']? = _
        rw [Array.getElem?_setIfInBounds_ne (by rintro rfl; exact hne hd2)]
        exact ha'
      ·exact (hb.block _ (Array.getElem?_eq_some_iff.1 hh').1).trans hh'
     ·exact hinj j k hj (by rw [← hset j hj]; exact hlj) hk (by rw [← hset k hk]; exact hlk)
     ·have hne := hap2 j oj e hj hoj hde
      obtain ⟨t1, t2⟩ := htop j oj e hj hoj hde
      cases hd2 : oi.dst with
      | none => exact ⟨t1, t2⟩
      | some e2 =>
       have h3 : e2 ≠ e := by rintro rfl; exact hne hd2
       show (s.fr.set e2 x).getD e .top = .top ∧ e < (s.fr.set e2 x).length
       rw [List.getD_eq_getElem?_getD, List.getElem?_set_ne h3, ← List.getD_eq_getElem?_getD, List.length_set]
       exact ⟨t1, t2⟩
    have notAlloc : ∀ oi, ops[i]? = some oi → quietOp oi = true → isAlloc P ops i = false := fun oi hoi hq => by
     cases e : isAlloc P ops i with
     | false => rfl
     | true =>
      have := alloc_not_tame (P := P) (o := oi) (by rw [← isAlloc_spec hoi]; exact e)
      rw [this] at hq
      cases hq
    split at hp1
    ·rename_i i' hfi
     obtain ⟨rfl, hpl⟩ := List.cons.inj hp1
     have hmem := List.mem_of_find?_eq_some hfi
     have hcond := List.find?_some hfi
     rw [Bool.and_eq_true] at hcond
     obtain ⟨htm, hfr⟩ := hcond
     obtain ⟨_, oi, hoi, _⟩ := mem_ready.1 hmem
     rw [hoi] at htm
     have htm' : tamesOp oi = true := htm
     have hq : quietOp oi = true := tames_quiet htm'
     have hia := notAlloc oi hoi hq
     unfold denPlanW at hd
     rw [hoi] at hd
     dsimp only at hd
     split at hd
     ·rename_i hw
      have hr := okW_tame hw htm'
      obtain ⟨x, v, h3, h4, h5⟩ := tame_ok h htm' hd
      rw [show f + 1 + f2 = (f + f2) + 1 by omega]
      refine wpAnyH_first hoi (Region.noSelect_spec hsel) (fun _ _ _ hf => hf) (f + f2) listed' a E.w (fun j oj hoj hji hun hno => ?_) (forth _ hia hmem) (.inl ⟨hg hoi, fun w hw' => h3 W hr w hw'.2.2⟩) hS
       (next hia hmem (.inl hpl) hfr oi hoi (h' := s.h) (h.same h4 oi.dst) (Below.refl _ _) rfl rfl rfl h5)
      refine Region.free_spec hoi hfr j oj hoj hji ?_ hno
      cases hja : isAlloc P ops j with
      | true => exact getD_in (by rw [hsz]; exact hlt hoj) (hal j hja)
      | false => exact getD_in (by rw [hsz]; exact hlt hoj) (by rw [← hag j hja]; exact getD_both hun)
     ·cases hd
    ·split at hp1
     ·rename_i i' hr
      split at hp1
      ·rename_i hc
       obtain ⟨rfl, hpl⟩ := List.cons.inj hp1
       simp only [Bool.and_eq_true] at hc
       obtain ⟨⟨hcl, hfr⟩, hct⟩ := hc
       have hmem : i' ∈ Region.ready .any ops listed := by simpa using hct
       obtain ⟨_, oi, hoi, _⟩ := mem_ready.1 hmem
       rw [hoi] at hcl
       have hcl' : callsOp oi = true := hcl
       have hq : quietOp oi = true := calls_quiet hcl'
       have hia := notAlloc oi hoi hq
       unfold denPlanW at hd
       rw [hoi] at hd
       dsimp only at hd
       split at hd
       ·rename_i hw
        rw [show f + 1 + f2 = (f + f2) + 1 by omega]
        have hir := forth _ hia hmem
        refine ⟨fun h0 => (by rw [h0] at hir; cases hir), fun j hj => ?_⟩
        cases hja : isAlloc P ops j with
        | true => exact make j hja hj
        | false =>
         have hj2 := back j hja hj
         rw [hr] at hj2
         obtain rfl : j = i' := by simpa using hj2
         unfold wpOp
         rw [hoi]
         dsimp only
         rw [if_pos (hg hoi)]
         refine .inl (call_ok hC hTb h hcl' hd fun w' x v h' hk' hb => ?_)
         refine ⟨⟨h'.below, hb.size, fun c hc _ _ => hb.block c hc⟩, wpAnyH_mono (fun w hw' => SW.of (E' := E.withW w') ⟨h'.below, hb.size, fun c hc _ _ => hb.block c hc⟩ rfl rfl rfl w hw') (f + f2) _ _ _ ?_⟩
         exact next hia hmem (.inl hpl) hfr oi hoi (E' := E.withW w') (h' := s.h) h' hb rfl rfl rfl hk'
       ·cases hd
      ·cases hp1
     ·cases hp1
/-- The whole region. -/
theorem planB_ok {d : Cf} {C : FuncId → List PV → Option PV} (hm : P.follows .mixedOrders = true) (hC : ∀ g args r, C g args = some r → FunOk P T g args r) (hTb : ∀ w w', T w → Below w.heap.size w w' → T w') {id : Nat} {ops : Array Oper} {Q : Exit → Act → World → Prop} {W : List Nat} {K : St → Option PV} {r : PV} {l1 l2 : List Nat}
  (hn : ∀ E' s' a', Rel P T w0 V E' s' a' → K s' = some r → Q .normal a' E'.w) (h : Rel P T w0 V E s a) (hp : planB P ops = some (l1, l2)) (hA : allocApart P ops s = true)
  (hd : denPlanW P d C ops W l1 (fun s' => denAllocs P ops (allocIx P ops) (fun s2 => denPlanW P d C ops W l2 K s2) s') (s.forget ((allocIx P ops).filterMap (dstAt ops))) = some r) : (Code.region id ops true).wp P Q a E.w := by
 have hix : ∀ j, j ∈ allocIx P ops ↔ isAlloc P ops j = true := fun j => by
  unfold allocIx
  rw [List.mem_filter, List.mem_range]
  refine ⟨fun h => h.2, fun h => ⟨?_, h⟩⟩
  unfold isAlloc at h
  cases e : ops[j]? with
  | none => rw [e] at h; cases h
  | some o => exact (Array.getElem?_eq_some_iff.1 e).1
 have hdrew : Below E.w.heap.size E.w { E.w with drawn := E.w.drawn + 1 } := (Below.refl _ _).drew
 have h1 := h.world hdrew
 unfold planB at hp
 dsimp only at hp
 generalize e0 : (if (allocIx P ops).isEmpty = true then [] else planP ops (allocIx P ops) ops.size (Array.replicate ops.size false)) = l0 at hp
 split at hp
 ·rename_i hc
  obtain ⟨l2', hS, e⟩ := Option.map_eq_some_iff.1 hp
  obtain ⟨e1, rfl⟩ := Prod.mk.inj e
  subst e1
  simp only [Bool.and_eq_true, decide_eq_true_eq] at hc
  obtain ⟨⟨⟨⟨hsel, hw⟩, haf⟩, hgd⟩, hle⟩ := hc
  have hAp : ∀ i, isAlloc P ops i = true → (∃ d, dstAt ops i = some d ∧ d < s.fr.length) ∧ ∀ j, isAlloc P ops j = true → i = j ∨ dstAt ops i ≠ dstAt ops j := fun i hi => by
   unfold allocApart at hA
   have h2 := List.all_eq_true.1 hA i ((hix i).2 hi)
   rw [Bool.and_eq_true] at h2
   refine ⟨?_, fun j hj => ?_⟩
   ·cases e : dstAt ops i with
    | none => rw [e] at h2; simp at h2
    | some d => rw [e] at h2; exact ⟨d, rfl, by simpa using h2.1⟩
   ·have := List.all_eq_true.1 h2.2 j ((hix j).2 hj)
    simpa using this
  have htopA : ∀ i o e, isAlloc P ops i = true → ops[i]? = some o → o.dst = some e → (s.forget ((allocIx P ops).filterMap (dstAt ops))).fr.getD e .top = .top ∧ e < (s.forget ((allocIx P ops).filterMap (dstAt ops))).fr.length := fun i o e hi ho hde => by
   obtain ⟨d1, d2⟩ := dropSlots_get ((allocIx P ops).filterMap (dstAt ops)) 0 s.fr
   have hd2 : dstAt ops i = some e := by unfold dstAt; rw [ho]; exact hde
   obtain ⟨⟨d, e3, e4⟩, _⟩ := hAp i hi
   rw [hd2] at e3
   obtain rfl := Option.some.inj e3
   have e5 : e < (dropSlots ((allocIx P ops).filterMap (dstAt ops)) 0 s.fr).length := by rw [d1]; exact e4
   refine ⟨?_, e5⟩
   show (dropSlots _ 0 s.fr).getD e .top = .top
   rcases d2 e e5 e4 with h2 | ⟨h2, _⟩
   ·simpa [e5] using h2
   ·exact absurd (List.mem_filterMap.2 ⟨i, (hix i).2 hi, hd2⟩) (by simpa using h2)
  have h2 : Rel P T w0 V (E.withW { E.w with drawn := E.w.drawn + 1 }) (s.forget ((allocIx P ops).filterMap (dstAt ops))) a := by
   obtain ⟨d1, d2⟩ := dropSlots_get ((allocIx P ops).filterMap (dstAt ops)) 0 s.fr
   refine ⟨h1.heap, by show (dropSlots _ 0 s.fr).length = _; rw [d1]; exact h1.len, fun i a1 a2 => ?_, h1.below, h1.defers, h1.V, h1.T, h1.hand⟩
   have a3 : i < (dropSlots ((allocIx P ops).filterMap (dstAt ops)) 0 s.fr).length := a1
   have a4 : i < s.fr.length := by rw [← d1]; exact a3
   show Enc _ (dropSlots _ 0 s.fr)[i] a.tmps[i]
   rcases d2 i a3 a4 with e | ⟨_, e⟩
   ·rw [e]; exact .top
   ·rw [e]; exact h1.fr i a4 a2
  have hsz : (Array.replicate ops.size false).size = ops.size := by simp
  refine Code.wp_mono noP_imp (wp_region_held (S := SW w0 (E.withW { E.w with drawn := E.w.drawn + 1 }) W) hm ?_)
  have := planP_ok (V := V) (V1 := V) (Q := Q) (bk := fun _ => 0) hC hTb hsel (fun i o ho => by
   have := List.all_eq_true.1 hgd o (by simpa using Array.mem_of_getElem? ho)
   simpa using this) (fun i o hi ho e he => by
   have h3 := List.all_eq_true.1 haf i ((hix i).2 hi)
   rw [ho] at h3
   have := Array.all_eq_true_iff_forall_mem.1 h3 e he
   simpa using this) (fun i j oi oj e hi hoi hde hj hoj hdj => by
   rcases (hAp i hi).2 j hj with h3 | h3
   ·exact h3
   ·exfalso
    apply h3
    unfold dstAt
    rw [hoi, hoj]
    exact hde.trans hdj.symm) hn (l0.length + (allocIx P ops).length) ops.size (allocIx P ops) l0 rfl (by
    split at e0
    ·exact .inr e0.symm
    ·exact .inl e0) hw hS hsz hsz (fun _ _ => rfl) (fun j _ => getD_replicate_false _ _) (List.Pairwise.filter _ List.nodup_range) (fun j => by rw [hix]; exact ⟨fun h => ⟨h, getD_replicate_false _ _⟩, fun h => h.1⟩) h2
    (fun x => ⟨.inl, fun h => h.elim (fun h => h) fun ⟨i, ⟨_, h⟩, _⟩ => by rw [getD_replicate_false] at h; cases h⟩) (fun i _ h => by rw [getD_replicate_false] at h; cases h) (fun i j _ h => by rw [getD_replicate_false] at h; cases h) htopA hd
  rw [show l0.length + (allocIx P ops).length + (ops.size - l0.length - (allocIx P ops).length) = ops.size by omega] at this
  exact this
 ·cases hp
/-- Whatever order is picked from here on; what is asked of the world for an operation holds behind every other one that does not wait for it. -/
def waitsAt (ops : Array Oper) (j i : Nat) : Bool := ((ops[j]?).map fun o => waitsFor o i).getD false
def leftW (ops : Array Oper) (j : Nat) (D : List (Nat × (World → Prop))) : List (Nat × (World → Prop)) := D.filter fun x => !waitsAt ops j x.1
def wpAnyD (P : Program) (ops : Array Oper) (Q : Exit → Act → World → Prop) : Nat → List (Nat × (World → Prop)) → Array Bool → Act → World → Prop
 | 0, _, listed, a, w => Region.ready .any ops listed = [] ∧ Q .normal a w
 | f + 1, D, listed, a, w => (Region.ready .any ops listed = [] → Q .normal a w) ∧ ∀ j ∈ Region.ready .any ops listed, wpOp P ops Q j (fun a' w' => (∀ x ∈ leftW ops j D, x.2 w') ∧ wpAnyD P ops Q f (leftW ops j D) (listed.setIfInBounds j true) a' w') a w
theorem wpAnyD_any {ops : Array Oper} {Q : Exit → Act → World → Prop} : ∀ (f : Nat) (D : List (Nat × (World → Prop))) (listed : Array Bool) (a : Act) (w : World), wpAnyD P ops Q f D listed a w → wpAny P .any ops Q f listed a w
 | 0, _, _, _, _, h => h
 | f + 1, D, _, _, _, h => ⟨h.1, fun i hi => wpOp_mono (fun a' w' h' => wpAnyD_any f _ _ a' w' h'.2) (h.2 i hi)⟩
theorem leftW_sub {ops : Array Oper} {j : Nat} {D D' : List (Nat × (World → Prop))} (h : ∀ x ∈ D', x ∈ D) : ∀ x ∈ leftW ops j D', x ∈ leftW ops j D := fun x hx => by
 unfold leftW at hx ⊢
 rw [List.mem_filter] at hx ⊢
 exact ⟨h x hx.1, hx.2⟩
theorem wpAnyD_sub {ops : Array Oper} {Q : Exit → Act → World → Prop} : ∀ (f : Nat) (D D' : List (Nat × (World → Prop))) (listed : Array Bool) (a : Act) (w : World), (∀ x ∈ D', x ∈ D) → wpAnyD P ops Q f D listed a w → wpAnyD P ops Q f D' listed a w
 | 0, _, _, _, _, _, _, h => h
 | f + 1, D, D', _, _, _, hs, h => ⟨h.1, fun i hi => wpOp_mono (fun a' w' h' => ⟨fun x hx => h'.1 x (leftW_sub hs x hx), wpAnyD_sub f _ _ _ a' w' (leftW_sub hs) h'.2⟩) (h.2 i hi)⟩
theorem wpAnyD_first {ops : Array Oper} {Q : Exit → Act → World → Prop} {S : World → Prop} {i : Nat} {oi : Oper} {v : Value} (hi : ops[i]? = some oi) (hsel : ∀ (j : Nat) (o : Oper) cs b, ops[j]? = some o → o.op ≠ .select cs b)
  (hQ : ∀ c a w, Q (.panic c) (a.put oi.dst v) w → Q (.panic c) a w) : ∀ (fuel : Nat) (D : List (Nat × (World → Prop))) (listed : Array Bool) (a : Act) (w : World),
   (∀ j oj, ops[j]? = some oj → j ≠ i → listed.getD j true = false → (∀ e ∈ oj.after, Region.binds .any e = true → e.on ≠ i) → oi.apart ops oj = true) →
   i ∈ Region.ready .any ops listed → YieldsIf P ops S oi v a → S w → (∀ x ∈ D, x.2 w) →
   wpAnyD P ops Q fuel ((i, S) :: D) (listed.setIfInBounds i true) (a.put oi.dst v) w → wpAnyD P ops Q (fuel + 1) D listed a w := by
 intro fuel
 induction fuel with
 | zero =>
  intro D listed a w _ hr hy hS hD H
  refine ⟨fun h => (by rw [h] at hr; cases hr), fun j hj => ?_⟩
  by_cases hji : j = i
  ·subst hji
   exact hy.wpOp hi hS ⟨fun x hx => hD x ((List.mem_filter.1 hx).1), H⟩
  ·have := ready_mono hj hji
   rw [H.1] at this
   cases this
 | succ fuel ih =>
  intro D listed a w hfree hr hy hS hD H
  refine ⟨fun h => (by rw [h] at hr; cases hr), fun j hj => ?_⟩
  by_cases hji : j = i
  ·subst hji
   exact hy.wpOp hi hS ⟨fun x hx => hD x ((List.mem_filter.1 hx).1), wpAnyD_sub _ _ _ _ _ _ (fun x hx => List.mem_cons_of_mem _ ((List.mem_filter.1 hx).1)) H⟩
  ·have h1 := H.2 j (ready_mono hj hji)
   obtain ⟨hjun, oj, hoj, hall⟩ := mem_ready.1 hj
   have hnot : ∀ e ∈ oj.after, Region.binds .any e = true → e.on ≠ i := fun e he hb heq => by
    have h1 := hall e he hb
    have h0 := (mem_ready.1 hr).1
    rw [heq] at h1
    rcases Nat.lt_or_ge i listed.size with h' | h'
    ·simp [h'] at h0 h1; rw [h0] at h1; cases h1
    ·simp [Array.getElem?_eq_none h'] at h1
   have hwa : waitsAt ops j i = false := by
    unfold waitsAt
    rw [hoj]
    show waitsFor oj i = false
    unfold waitsFor
    cases hc : (oj.after.any fun e => Region.binds .any e && e.on == i)
    ·rfl
    ·obtain ⟨e, he, h5⟩ := Array.any_eq_true'.1 hc
     rw [Bool.and_eq_true, beq_iff_eq] at h5
     exact absurd h5.2 (hnot e he h5.1)
   have hlw : leftW ops j ((i, S) :: D) = (i, S) :: leftW ops j D := by
    unfold leftW
    rw [List.filter_cons, if_pos (by rw [hwa]; rfl)]
   rw [hlw] at h1
   have h2 := wpOp_putIf hoj (hfree j oj hoj hji hjun hnot) (fun cs b => hsel i oi cs b hi) (fun cs b => hsel j oj cs b hoj) hQ hy h1
   have hfree' : ∀ k ok, ops[k]? = some ok → k ≠ i → (listed.setIfInBounds j true).getD k true = false →
     (∀ e ∈ ok.after, Region.binds .any e = true → e.on ≠ i) → oi.apart ops ok = true := fun k ok hk hki hun hno => by
    refine hfree k ok hk hki ?_ hno
    by_cases hjk : j = k
    ·subst hjk; exact hjun
    ·rw [getD_set_ne true hjk] at hun; exact hun
   refine wpOp_mono (fun a' w' h3 => ⟨fun x hx => h3.2.1 x (List.mem_cons_of_mem _ hx), ih (leftW ops j D) (listed.setIfInBounds j true) a' w' hfree' (ready_mono hr (Ne.symm hji)) h3.1 (h3.2.1 (i, S) List.mem_cons_self) (fun x hx => h3.2.1 x (List.mem_cons_of_mem _ hx)) ?_⟩) h2
   rw [Array.setIfInBounds_comm _ _ hji]
   exact h3.2.2
/-- Regions in which something is made, or handed on. -/
def SB (B : List Nat) (E : Env) (w : World) : Prop := E.w.heap.size ≤ w.heap.size ∧ ∀ c, c < E.w.heap.size → (¬ E.U c ∨ ∃ b, b ∈ B ∧ b < E.n ∧ E.own b = some c) → w.heap[c]? = E.w.heap[c]?
theorem SB.keep {h : Heap} {base : Nat} (hs : HeapOk P E base h) {B : List Nat} {w : World} (k : SB B E w) : Keep E ((List.range h.length).filter fun b => !B.contains b) w := fun c hc hv hw => k.2 c hc (by
 by_cases hu : E.U c
 ·rcases hu with hu | ⟨b, hb, e⟩
  ·exact absurd hu hv
  ·refine .inr ⟨b, ?_, hb, e⟩
   cases hc : B.contains b
   ·exact absurd e (hw b (List.mem_filter.2 ⟨List.mem_range.2 (by rw [← hs.n]; exact hb), by rw [hc]; rfl⟩) hb)
   ·simpa using hc
 ·exact .inl hu)
theorem SB.here (B : List Nat) (E : Env) : SB B E E.w := ⟨Nat.le_refl _, fun _ _ _ => rfl⟩
theorem reads_B {s : St} {op : Op} (B : List Nat) (hB : B = readB s.ρ op) (l : List Nat) : readsOk (l.filter fun b => !B.contains b) s.ρ op = true := by
 have key : ∀ (x : PV) (C : List Nat), C = (match x with | .ptr b _ => [b] | .eptr b _ _ _ _ _ => [b] | .buf b _ => [b] | _ => []) → freeOf (l.filter fun b => !C.contains b) x = true := by
  intro x C hC
  unfold freeOf
  split at hC
  ·subst hC; simp
  ·subst hC; simp
  ·subst hC; simp
  ·rename_i h1 h2 h3
   split
   ·exact absurd rfl (h1 _ _)
   ·exact absurd rfl (h2 _ _ _ _ _ _)
   ·exact absurd rfl (h3 _ _)
   ·rfl
 unfold readsOk
 split
 ·exact key _ B hB
 ·exact key _ B hB
 ·rfl
/-- What was read too early still stands. -/
structure Early where
 i : Nat
 B : List Nat
 E : Env
def Early.p (x : Early) : Nat × List Nat := (x.i, x.B)
def Early.q (x : Early) : Nat × (World → Prop) := (x.i, SB x.B x.E)
def Early.at (x : Early) (E : Env) : Prop := Step x.E E ∧ ∀ b, b ∈ x.B → b < x.E.n → ∀ c, x.E.own b = some c → c < x.E.w.heap.size → b < E.n ∧ E.own b = some c ∧ E.w.heap[c]? = x.E.w.heap[c]?
theorem Early.at.sb {x : Early} {E : Env} (h : x.at E) : SB x.B x.E E.w := ⟨h.1.1, fun c hc hh => by
 rcases hh with hu | ⟨b, hb, hn, e⟩
 ·exact (h.1.2 c hc hu).2
 ·exact (h.2 b hb hn c e hc).2.2⟩
theorem Early.at.next {x : Early} {E E' : Env} (h : x.at E) (k : Ext0 E E') {wr : List Nat} (hv : VerS wr E E') (hw : (x.B.all fun b => !wr.contains b) = true) : x.at E' := by
 refine ⟨h.1.trans k.step, fun b hb hn c e hc => ?_⟩
 obtain ⟨h1, h2, h3⟩ := h.2 b hb hn c e hc
 have hnb : b ∉ wr := by
  have := List.all_eq_true.1 hw b hb
  simpa using this
 have h4 := k.keep b c h1 h2 (Nat.lt_of_lt_of_le hc h.1.1) (hv b h1 hnb).symm
 exact ⟨Nat.lt_of_lt_of_le h1 k.n, h4.1, h4.2.trans h3⟩
theorem Early.now (i : Nat) (B : List Nat) (E : Env) : (Early.mk i B E).at E := ⟨⟨Nat.le_refl _, fun c hc hu => ⟨hu, rfl⟩⟩, fun b hb hn c e hc => ⟨hn, e, rfl⟩⟩
def leftE (o : Oper) (D : List Early) : List Early := D.filter fun x => !waitsFor o x.i
theorem leftE_p (o : Oper) (D : List Early) : leftD (D.map Early.p) o = (leftE o D).map Early.p := by
 unfold leftD leftE
 rw [List.filter_map]; rfl
theorem leftE_q {ops : Array Oper} {i : Nat} {o : Oper} (ho : ops[i]? = some o) (D : List Early) : leftW ops i (D.map Early.q) = (leftE o D).map Early.q := by
 unfold leftW leftE
 rw [List.filter_map]
 congr 1
 apply List.filter_congr
 intro x _
 show (!waitsAt ops i x.i) = _
 unfold waitsAt
 rw [ho]; rfl
theorem planR_ok {d : Cf} {C : FuncId → List PV → Option PV} (hC : ∀ g args r, C g args = some r → FunOk P T g args r) (hTb : ∀ w w', T w → Below w.heap.size w w' → T w') {ops : Array Oper} {Q : Exit → Act → World → Prop} {K : St → Option PV} {r : PV}
  (hsel : Region.noSelect ops = true) (hgd : ∀ (i : Nat) (o : Oper), ops[i]? = some o → o.guard = none) (hn : ∀ E' s' a', Rel P T w0 V E' s' a' → K s' = some r → Q .normal a' E'.w) : ∀ (f : Nat) (l : List (Nat × Bool)) (D : List Early) {E : Env} {s : St} {a : Act} {listed : Array Bool},
  planR ops f listed = some l → Rel P T w0 V E s a → (∀ x ∈ D, x.at E) → denPlanR P d C ops l (D.map Early.p) K s = some r → wpAnyD P ops (NoP Q) f (D.map Early.q) listed a E.w
 | 0, l, D, E, s, a, listed, hp, h, hD, hd => by
  unfold planR at hp
  split at hp
  ·rename_i he
   cases hp
   exact ⟨List.isEmpty_iff.1 he, hn _ _ _ h hd⟩
  ·cases hp
 | f + 1, l, D, E, s, a, listed, hp, h, hD, hd => by
  have hg : ∀ {i o}, ops[i]? = some o → Region.wanted o (yielded ops a.tmps) = true := fun ho => wanted_none (hgd _ _ ho)
  unfold planR at hp
  split at hp
  ·rename_i hr
   cases hp
   exact ⟨fun _ => hn _ _ _ h hd, fun j hj => by rw [hr] at hj; cases hj⟩
  ·rename_i i hr
   obtain ⟨l', hl', rfl⟩ := Option.map_eq_some_iff.1 hp
   have hmem : i ∈ Region.ready .any ops listed := by rw [hr]; exact List.mem_singleton.2 rfl
   obtain ⟨_, oi, hoi, _⟩ := mem_ready.1 hmem
   unfold denPlanR at hd
   rw [hoi] at hd
   dsimp only at hd
   rw [if_neg (by decide), leftE_p] at hd
   refine ⟨fun h0 => (by rw [hr] at h0; cases h0), fun j hj => ?_⟩
   obtain rfl : j = i := by rw [hr] at hj; simpa using hj
   rw [leftE_q hoi]
   unfold wpOp
   rw [hoi]
   dsimp only
   rw [if_pos (hg hoi)]
   have sub : ∀ x ∈ leftE oi D, x.at E := fun x hx => hD x ((List.mem_filter.1 hx).1)
   have fin : ∀ E' s' a', (∀ x ∈ leftE oi D, x.at E') → Rel P T w0 V E' s' a' → denPlanR P d C ops l' ((leftE oi D).map Early.p) K s' = some r → (∀ x ∈ (leftE oi D).map Early.q, x.2 E'.w) ∧ wpAnyD P ops (NoP Q) f ((leftE oi D).map Early.q) (listed.setIfInBounds j true) a' E'.w := fun E' s' a' hx h' hk =>
    ⟨fun y hy => by
     obtain ⟨x, hx1, rfl⟩ := List.mem_map.1 hy
     exact (hx x hx1).sb, planR_ok hC hTb hsel hgd hn f l' (leftE oi D) hl' h' hx hk⟩
   split at hd
   ·rename_i htm
    obtain ⟨x, v, h3, h4, h5⟩ := tame_ok h htm hd
    exact .inl (upon_mem (.inl (h3 [] (readsOk_nil _ _) E.w (Keep.refl _ _))) (fin E _ _ sub (h.same h4 oi.dst) h5))
   split at hd
   ·split at hd
    ·rename_i hok
     refine .inl (hand_okV hC hTb h hd fun E' s' a' hx hv h' hk => fin E' s' a' (fun x hx1 => (sub x hx1).next hx hv ?_) h' hk)
     have := List.all_eq_true.1 hok x.p (List.mem_map_of_mem hx1)
     exact this
    ·cases hd
   ·split at hd
    ·rename_i hok
     refine .inl (exec_okV hC hTb h hd fun E' s' a' hx hv h' hk => fin E' s' a' (fun x hx1 => ?_) h' hk)
     cases hw : wrX s oi with
     | none =>
      rw [hw] at hok
      unfold okD at hok
      rw [List.isEmpty_iff, List.map_eq_nil_iff] at hok
      rw [hok] at hx1
      cases hx1
     | some wr =>
      rw [hw] at hok
      have := List.all_eq_true.1 hok x.p (List.mem_map_of_mem hx1)
      exact (sub x hx1).next hx (hv wr hw) this
    ·cases hd
  ·split at hp
   ·rename_i i hfi
    obtain ⟨l', hl', rfl⟩ := Option.map_eq_some_iff.1 hp
    have hmem := List.mem_of_find?_eq_some hfi
    have hcond := List.find?_some hfi
    rw [Bool.and_eq_true] at hcond
    obtain ⟨htm, hfr⟩ := hcond
    obtain ⟨_, oi, hoi, _⟩ := mem_ready.1 hmem
    rw [hoi] at htm
    have htm' : tamesOp oi = true := htm
    unfold denPlanR at hd
    rw [hoi] at hd
    dsimp only at hd
    rw [if_pos rfl] at hd
    obtain ⟨x, v, h3, h4, h5⟩ := tame_ok h htm' hd
    refine wpAnyD_first (S := SB (readB s.ρ oi.op) E) hoi (Region.noSelect_spec hsel) (fun _ _ _ hf => hf) f (D.map Early.q) listed a E.w (Region.free_spec hoi hfr) hmem (.inl ⟨hg hoi, fun w hw' => h3 _ (reads_B _ rfl _) w (hw'.keep h.heap)⟩) (SB.here _ E) (fun y hy => ?_) ?_
    ·obtain ⟨x, hx1, rfl⟩ := List.mem_map.1 hy
     exact (hD x hx1).sb
    ·exact planR_ok hC hTb hsel hgd hn f l' (⟨i, readB s.ρ oi.op, E⟩ :: D) hl' (h.same h4 oi.dst) (fun x hx => by
      rcases List.mem_cons.1 hx with rfl | hx
      ·exact Early.now _ _ _
      ·exact hD x hx) h5
   ·cases hp
theorem planR_region {d : Cf} {C : FuncId → List PV → Option PV} (hm : P.follows .mixedOrders = true) (hC : ∀ g args r, C g args = some r → FunOk P T g args r) (hTb : ∀ w w', T w → Below w.heap.size w w' → T w') {id : Nat} {ops : Array Oper} {Q : Exit → Act → World → Prop} {K : St → Option PV} {r : PV} {l : List (Nat × Bool)}
  (hn : ∀ E' s' a', Rel P T w0 V E' s' a' → K s' = some r → Q .normal a' E'.w) (h : Rel P T w0 V E s a) (hr : hardR d ops = true) (hp : planR ops ops.size (Array.replicate ops.size false) = some l) (hd : denPlanR P d C ops l [] K s = some r) : (Code.region id ops true).wp P Q a E.w := by
 unfold hardR at hr
 rw [Bool.and_eq_true, Bool.and_eq_true] at hr
 have hdrew : Below E.w.heap.size E.w { E.w with drawn := E.w.drawn + 1 } := (Below.refl _ _).drew
 have h1 := h.world hdrew
 refine Code.wp_mono noP_imp (wp_region_any hm (wpAnyD_any (ops := ops) (Q := NoP Q) _ [] _ _ _ ?_))
 exact planR_ok (Q := Q) hC hTb hr.1.1 (fun i o ho => by
  have := List.all_eq_true.1 hr.1.2 o (by simpa using Array.mem_of_getElem? ho)
  simpa using this) hn _ _ [] hp h1 (fun x hx => by cases hx) hd
end
end Go.Den
