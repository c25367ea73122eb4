/- Functions that are handed memory of the call's own: what they are handed, what comes back. -/
import Derived.Test.YtkhbkbkambflbaaGreatDoorDenS
namespace Go.Den
open Go Go.RowKit
set_option linter.unusedVariables false
section
variable {P : Program} {T : World → Prop} {w0 : Bs} {V : Nat → Prop} {E : Env} {s : St} {a : Act}

/-- A cell is told otherwise. -/
theorem heap_cell {base : Nat} {h : Heap} (hs : HeapOk P E base h) {b j : Nat} {cs : List PV} {t0 : TypeId} (hb : h[b]? = some (.cells t0 cs)) {x : PV} (hx : ∀ v, j < cs.length → Enc E (cs.getD j .top) v → Enc E x v) : HeapOk P E base (h.set b (.cells t0 (cs.set j x))) := by
 have hbl : b < h.length := (List.getElem?_eq_some_iff.1 hb).1
 refine ⟨by rw [List.length_set]; exact hs.n, fun c o ho => ?_, hs.apart, hs.low, hs.below⟩
 by_cases hc : c = b
 ·subst hc
  rw [List.getElem?_set_self hbl] at ho
  obtain rfl := Option.some.inj ho
  have hob := hs.obj c _ hb
  cases hob with
  | cells ho hba hh hl hcs =>
   refine .cells ho hba hh (by simpa using hl) fun i a1 a2 => ?_
   have hi : i < cs.length := by simpa using a1
   rw [List.getElem_set]
   split
   ·rename_i e
    subst e
    refine hx _ hi ?_
    have e2 : cs.getD j .top = cs[j] := by simp [hi]
    rw [e2]
    exact hcs j hi a2
   ·exact hcs i hi a2
 ·rw [List.getElem?_set_ne (by omega)] at ho
  exact hs.obj c o ho
theorem selfStep_ok (h : Rel P T w0 V E s a) (b j : Nat) : Rel P T w0 V E (selfStep b j s) a := by
 unfold selfStep
 split
 ·rename_i t0 cs hb
  split
  ·rename_i hj
   have hbl : b < s.h.length := (List.getElem?_eq_some_iff.1 hb).1
   have hbn : b < E.n := by have := h.heap.n; omega
   refine ⟨heap_cell h.heap hb fun v _ he => ?_, h.len, h.fr, h.below, h.defers, h.V, h.T, h.hand⟩
   have e : cs.getD j .top = .sc (.pointer none) := by rw [List.getD_eq_getElem?_getD, hj]; rfl
   rw [e] at he
   exact .selfp hbn (.inl he.sc_iff)
  ·exact h
 ·exact h
/-- One more own slice: nil. -/
def Env.nilBuf (E : Env) : Env := { w := E.w, n := E.n + 1, own := fun c => if c = E.n then none else E.own c, blk := E.blk, hdr := fun c => if c = E.n then .slice none 0 0 else E.hdr c, ver := fun c => if c = E.n then 0 else E.ver c, V := E.V }
theorem ext_nilBuf : Ext E E.nilBuf := by
 refine ⟨Nat.le_succ _, fun _ _ => rfl, Nat.le_refl _, ?_, fun _ _ _ => rfl, fun b hb => ?_, rfl, fun b c hb ho _ _ => ⟨(if_neg (by omega)).trans ho, rfl⟩⟩
 ·rintro c ⟨b, hb, e⟩
  have e' : (if b = E.n then none else E.own b) = some c := e
  split at e'
  ·cases e'
  ·exact .inl ⟨b, by have : b < E.n + 1 := hb; omega, e'⟩
 ·show E.ver b ≤ (if b = E.n then 0 else E.ver b) ∧ (E.ver b = (if b = E.n then 0 else E.ver b) → (if b = E.n then _ else E.hdr b) = E.hdr b)
  rw [if_neg (by omega), if_neg (by omega)]
  exact ⟨Nat.le_refl _, fun _ => rfl⟩
theorem heap_nilBuf {base : Nat} {h : Heap} (hs : HeapOk P E base h) {e : TypeId} (he : 0 < sizeT P e) : HeapOk P E.nilBuf base (h ++ [.buf e 0 []]) := by
 have hn := hs.n
 have eo : ∀ b, ¬ b = E.n → E.nilBuf.own b = E.own b := fun b hb => if_neg hb
 refine ⟨by show E.n + 1 = _; rw [hn]; simp, fun b o ho => ?_, fun b b' c hb hb' e1 e2 => ?_, hs.low, fun c hc => ⟨(hs.below c hc).1, fun b hb e1 => ?_⟩⟩
 ·by_cases hbn : b = E.n
  ·subst hbn
   rw [hn] at ho
   simp at ho
   subst ho
   have ev : E.nilBuf.ver E.n = 0 := if_pos rfl
   have eh : E.nilBuf.hdr E.n = .slice none 0 0 := if_pos rfl
   have eo2 : E.nilBuf.own E.n = none := if_pos rfl
   have := ObjOk.buf (P := P) (E := E.nilBuf) (base := base) (b := E.n) (k := sizeT P e) (xs := []) (vs := []) (e := e) (by rw [eo2, eh]; rfl) (by rw [eh]; exact .inl (World.ownsRow_nil _ _ _ _)) rfl he (fun i h1 => absurd h1 (Nat.not_lt_zero _)) (fun i h1 => absurd h1 (Nat.not_lt_zero _))
   rw [ev] at this
   exact this
  ·have hb : b < h.length := by
    have := (List.getElem?_eq_some_iff.1 ho).1
    rw [List.length_append] at this
    simp at this
    omega
   rw [List.getElem?_append_left hb] at ho
   exact (hs.obj b o ho).keep ext_nilBuf (eo b hbn) rfl (if_neg hbn) (if_neg hbn) fun _ _ => rfl
 ·have hb2 : b < E.n + 1 := hb
  have hb3 : b' < E.n + 1 := hb'
  by_cases h1 : b = E.n
  ·rw [show E.nilBuf.own b = none from if_pos h1] at e1; cases e1
  ·by_cases h2 : b' = E.n
   ·rw [show E.nilBuf.own b' = none from if_pos h2] at e2; cases e2
   ·rw [eo b h1] at e1
    rw [eo b' h2] at e2
    exact hs.apart b b' c (by omega) (by omega) e1 e2
 ·have hb2 : b < E.n + 1 := hb
  by_cases h1 : b = E.n
  ·rw [show E.nilBuf.own b = none from if_pos h1] at e1; cases e1
  ·rw [eo b h1] at e1
   exact (hs.below c hc).2 b (by omega) e1
theorem ownStep_ok (h : Rel P T w0 V E s a) (b j : Nat) (e : TypeId) : ∃ E', Rel P T w0 V E' (ownStep P b j e s) a ∧ Ext E E' ∧ E'.w = E.w ∧ VerS [] E E' := by
 unfold ownStep
 split
 ·rename_i t0 cs hb
  split
  ·rename_i hj
   split
   ·rename_i he
    have hn := h.heap.n
    have hbl : b < s.h.length := (List.getElem?_eq_some_iff.1 hb).1
    have h1 := heap_nilBuf h.heap he
    have hb2 : (s.h ++ [HObj.buf e 0 []])[b]? = some (.cells t0 cs) := by rw [List.getElem?_append_left hbl]; exact hb
    have h2 := heap_cell h1 hb2 (j := j) (x := .buf s.h.length 0) fun v _ hv => by
     have e1 : cs.getD j .top = .nils := by rw [List.getD_eq_getElem?_getD, hj]; rfl
     rw [e1] at hv
     cases hv
     rw [← hn]
     refine .buf (Nat.lt_succ_self _) (Nat.zero_le _) rfl fun _ => ?_
     exact (if_pos rfl : E.nilBuf.hdr E.n = .slice none 0 0).symm
    rw [List.set_append_left _ _ hbl] at h2
    exact ⟨E.nilBuf, ⟨h2, h.len, fun i h1 h2 => (h.fr i h1 h2).ext ext_nilBuf, h.below, h.defers, h.V, h.T, h.hand.ext ext_nilBuf⟩, ext_nilBuf, rfl, fun b hb _ => if_neg (by omega)⟩
   ·exact ⟨E, h, Ext.refl E, rfl, fun _ _ _ => rfl⟩
  ·exact ⟨E, h, Ext.refl E, rfl, fun _ _ _ => rfl⟩
 ·exact ⟨E, h, Ext.refl E, rfl, fun _ _ _ => rfl⟩
theorem ownCells_ok (F : List OF) (b : Nat) : ∀ (l : List CF) (j : Nat) {E : Env} {s : St}, Rel P T w0 V E s a → ∃ E', Rel P T w0 V E' (ownCells P F b j l s) a ∧ Ext E E' ∧ E'.w = E.w ∧ VerS [] E E'
 | [], j, E, s, h => ⟨E, h, Ext.refl E, rfl, fun _ _ _ => rfl⟩
 | f :: l, j, E, s, h => by
  cases f with
  | buf i =>
   rw [ownCells]
   split
   ·rename_i e _
    obtain ⟨E1, h1, x1, w1, v1⟩ := ownStep_ok h b j e
    obtain ⟨E2, h2, x2, w2, v2⟩ := ownCells_ok F b l (j + 1) h1
    exact ⟨E2, h2, x1.trans x2, w2.trans w1, fun b hb hn => (v2 b (Nat.lt_of_lt_of_le hb x1.n) hn).trans (v1 b hb hn)⟩
   ·exact ownCells_ok F b l (j + 1) h
  | selfp i => rw [ownCells]; exact ownCells_ok F b l (j + 1) (selfStep_ok h b j)
  | sh s =>
   rw [ownCells]
   ·exact ownCells_ok F b l (j + 1) h
   ·intro i e; cases e
   ·intro i e; cases e
  | ptr i =>
   rw [ownCells]
   ·exact ownCells_ok F b l (j + 1) h
   ·intro i e; cases e
   ·intro i e; cases e
theorem ownify_ok (F : List OF) (b : Nat) (h : Rel P T w0 V E s a) : ∃ E', Rel P T w0 V E' (ownify P F b s) a ∧ Ext E E' ∧ E'.w = E.w ∧ VerS [] E E' := by
 unfold ownify
 split
 ·exact ownCells_ok _ b _ 0 h
 ·exact ⟨E, h, Ext.refl E, rfl, fun _ _ _ => rfl⟩
/-- What another function gets: pointers stay. -/
theorem outPL_ok {base : Nat} {h : Heap} (hs : HeapOk P E base h) {d : Nat} {V2 : Nat → Prop} (hV : ∀ c, ¬ E.U c → ¬ V2 c) : ∀ {ts : List TypeId} {xs ys : List PV} {vs : List Value}, outPL P d h ts xs = some ys → xs.length = vs.length → (∀ i (h1 : i < xs.length) (h2 : i < vs.length), Enc E xs[i] vs[i]) →
  (∀ b, b ∈ xs.flatMap bufsOf → ∀ c, b < E.n → E.own b = some c → ¬ V2 c) → ys.length = vs.length ∧ (∀ i (h1 : i < ys.length) (h2 : i < vs.length), (∃ b off, ys[i] = .ptr b off ∧ Enc E (.ptr b off) vs[i]) ∨ ys[i] = .top ∨ (Enc (bare E.w V2) ys[i] vs[i] ∧ ys[i].plainE = true))
 | [], [], ys, vs, ho, hl, _, _ => by
  obtain rfl := Option.some.inj ho
  exact ⟨hl, fun i h1 _ => by simp at h1⟩
 | [], _ :: _, _, _, ho, _, _, _ => by cases ho
 | _ :: _, [], _, _, ho, _, _, _ => by cases ho
 | t :: ts, x :: xs, ys, [], ho, hl, _, _ => by cases hl
 | t :: ts, x :: xs, ys, v :: vs, ho, hl, he, hB => by
  rw [outPL] at ho
  split at ho
  ·rename_i y zs h1 h2
   obtain rfl := Option.some.inj ho
   have hB1 : ∀ b, b ∈ bufsOf x → ∀ c, b < E.n → E.own b = some c → ¬ V2 c := fun b hb => hB b (by rw [List.flatMap_cons]; exact List.mem_append_left _ hb)
   have hB2 : ∀ b, b ∈ xs.flatMap bufsOf → ∀ c, b < E.n → E.own b = some c → ¬ V2 c := fun b hb => hB b (by rw [List.flatMap_cons]; exact List.mem_append_right _ hb)
   obtain ⟨b1, b2⟩ := outPL_ok hs hV (ts := ts) (xs := xs) (vs := vs) h2 (by simpa using hl) (fun i c1 c2 => by
    have := he (i + 1) (by simp; omega) (by simp; omega)
    simpa using this) hB2
   refine ⟨by simp [b1], fun i c1 c2 => ?_⟩
   cases i with
   | zero =>
    have h0 : Enc E x v := he 0 (by simp) (by simp)
    unfold outP at h1
    split at h1
    ·rename_i b off
     obtain rfl := Option.some.inj h1
     exact .inl ⟨b, off, rfl, h0⟩
    ·obtain rfl := Option.some.inj h1
     exact .inr (.inl rfl)
    ·exact .inr (.inr (outV_ok hs h0 h1 hV hB1))
   | succ i => exact b2 i (by simpa using c1) (by simpa using c2)
  ·cases ho
/-- Objects in their form. -/
theorem dec_enc (L : List Nat) (h : Heap) (o : Option HObj) : decO (encO (tidyAt L h o)) = tidyAt L h o := by
 cases o with
 | none => rfl
 | some o => cases o <;> rfl
theorem cellF_enc {f : CF} {x : PV} (hf : cellOk f x = true) {v : Value} (he : Enc E x v) : Enc E (cellF f x) v := by
 cases f with
 | sh s => exact (reb_ok s x hf).2.1 _ _ he
 | selfp j =>
  cases x <;> first | (cases hf; done) | skip
  rename_i b
  have : b = j := by simpa [cellOk] using hf
  subst this
  exact he
 | ptr j =>
  cases x <;> first | (cases hf; done) | skip
  rename_i b off
  have : b = j ∧ off = 0 := by simpa [cellOk] using hf
  obtain ⟨rfl, rfl⟩ := this
  exact he
 | buf j =>
  cases x <;> first | (cases hf; done) | skip
  rename_i b ver
  have : b = j ∧ ver = 0 := by simpa [cellOk] using hf
  obtain ⟨rfl, rfl⟩ := this
  exact he
theorem cellsF_spec : ∀ {l : List CF} {cs : List PV}, cellsOk l cs = true → (cellsF l cs).length = cs.length ∧ ∀ (i : Nat) (h1 : i < cs.length) (h2 : i < (cellsF l cs).length) {v : Value}, Enc E cs[i] v → Enc E (cellsF l cs)[i] v
 | [], [], _ => ⟨rfl, fun i h1 => absurd h1 (Nat.not_lt_zero _)⟩
 | [], _ :: _, h => by cases h
 | _ :: _, [], h => by cases h
 | f :: l, x :: cs, h => by
  rw [cellsOk, Bool.and_eq_true] at h
  obtain ⟨a1, a2⟩ := cellsF_spec h.2
  refine ⟨by simp [cellsF, a1], fun i h1 h2 v he => ?_⟩
  cases i with
  | zero => exact cellF_enc h.1 he
  | succ i => exact a2 i (by simpa using h1) (by simpa [cellsF] using h2) he
theorem objF_ok {base b : Nat} {f : OF} {x : PV} (hf : objOk f x = true) (ho : ObjOk P E base b (decO x)) : ObjOk P E base b (objF f x) := by
 cases f with
 | cells t l =>
  unfold objOk at hf
  dsimp only at hf
  split at hf
  case h_2 => cases hf
  rename_i t' o cs
  rw [Bool.and_eq_true, beq_iff_eq] at hf
  obtain ⟨rfl, hf'⟩ := hf
  obtain ⟨a1, a2⟩ := cellsF_spec (E := E) hf'
  have ho' : ObjOk P E base b (.cells t' cs) := ho
  cases ho' with
  | cells h1 h2 h3 h4 h5 => exact .cells h1 h2 h3 (a1.trans h4) fun i c1 c2 => a2 i (by omega) c1 (h5 i (by omega) c2)
 | buf e =>
  unfold objOk at hf
  dsimp only at hf
  split at hf
  ·rename_i e' o xs
   have : e' = e := by simpa using hf
   subst this
   exact ho
  ·cases hf
theorem objsF_spec : ∀ {F : List OF} {l : List PV}, objsOk F l = true → F.length = l.length ∧ (objsF F l).length = l.length ∧ ∀ (j : Nat) (h1 : j < l.length) (h2 : j < F.length) (h3 : j < (objsF F l).length), objOk F[j] l[j] = true ∧ (objsF F l)[j] = objF F[j] l[j]
 | [], [], _ => ⟨rfl, rfl, fun i h1 => absurd h1 (Nat.not_lt_zero _)⟩
 | [], _ :: _, h => by cases h
 | _ :: _, [], h => by cases h
 | f :: F, x :: l, h => by
  rw [objsOk, Bool.and_eq_true] at h
  obtain ⟨a0, a1, a2⟩ := objsF_spec h.2
  refine ⟨by simp [a0], by simp [objsF, a1], fun i h1 h2 h3 => ?_⟩
  cases i with
  | zero => exact ⟨h.1, rfl⟩
  | succ i => exact a2 i (by simpa using h1) (by simpa using h2) (by simpa [objsF] using h3)
theorem objsF_heap {base : Nat} {F : List OF} {l : List PV} (hf : objsOk F l = true) (hs : HeapOk P E base (l.map decO)) : HeapOk P E base (objsF F l) := by
 obtain ⟨a0, a1, a2⟩ := objsF_spec hf
 refine ⟨by rw [a1, hs.n]; simp, fun b o ho => ?_, hs.apart, hs.low, hs.below⟩
 obtain ⟨hb, rfl⟩ := List.getElem?_eq_some_iff.1 ho
 have hb2 : b < l.length := by omega
 obtain ⟨c1, c2⟩ := a2 b hb2 (by omega) hb
 rw [c2]
 exact objF_ok c1 (hs.obj b _ (by simp [hb2]))
theorem enc_objF {f : OF} {x : PV} : decO (encO (objF f x)) = objF f x := by cases f <;> rfl
theorem enc_objsF : ∀ (F : List OF) (l : List PV), ((objsF F l).map encO).map decO = objsF F l
 | [], _ => rfl
 | f :: F, l => by rw [objsF, List.map_cons, List.map_cons, enc_objF, enc_objsF F]
end
end Go.Den
