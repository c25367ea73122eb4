/- A call that is handed memory. -/
import Derived.Test.YtkhbkbkambflbaaGreatDoorDenZ
namespace Go.Den
open Go Go.RowKit
set_option linter.unusedVariables false
section
variable {P : Program} {T : World → Prop} {w0 : Bs} {V : Nat → Prop} {E : Env} {s : St} {a : Act}

/-- What others may write, while a function has the objects L. -/
def Env.rest (E : Env) (L : List Nat) (c : Nat) : Prop := E.V c ∨ ∃ b, b < E.n ∧ b ∉ L ∧ E.own b = some c
/-- What a function has of its caller. -/
def Env.lend (E : Env) (L : List Nat) : Env := { E.tidied L with V := E.rest L }
theorem lend_O {L : List Nat} (hL : Pick E.n L) {c : Nat} (h : (E.lend L).O c) : E.O c := tidied_O hL h
theorem lend_own {L : List Nat} {j c : Nat} (e : (E.lend L).own j = some c) : ∃ b, L[j]? = some b ∧ E.own b = some c := by
  have e' : ownAt E L[j]? = some c := e
  unfold ownAt at e'
  split at e'
  · rename_i b hb; exact ⟨b, hb, e'⟩
  · cases e'
theorem lend_blk {L : List Nat} {j b : Nat} (h : L[j]? = some b) : (E.lend L).blk j = E.blk b := by
  show E.blk (L.getD j 0) = _
  rw [List.getD_eq_getElem?_getD, h]
  rfl
theorem lend_U {L : List Nat} (hL : Pick E.n L) {c : Nat} (h : ¬ E.U c) : ¬ (E.lend L).U c := by
  rintro (hv | ho)
  · rcases hv with hv | ⟨b, hb, _, ho⟩
    · exact h (.inl hv)
    · exact h (.inr ⟨b, hb, ho⟩)
  · exact h (.inr (lend_O hL ho))
theorem moreRefs_pick {h : Heap} {L : List Nat} (hL : Pick h.length L) : Pick h.length (moreRefs h L) := addNews_pick _ hL
theorem closeL_pick {h : Heap} {L : List Nat} (hL : Pick h.length L) : Pick h.length (closeL h L) := moreRefs_pick (moreRefs_pick (moreRefs_pick hL))
theorem ptrOf_mem : ∀ {l : List PV} {b : Nat}, ptrOf l = some b → .ptr b 0 ∈ l
  | [], _, h => by cases h
  | x :: l, b, h => by
    cases x with
    | ptr b' off =>
      rw [ptrOf] at h
      split at h
      · rename_i e
        cases h
        rw [e]
        exact List.mem_cons_self
      · cases h
    | _ => exact List.mem_cons_of_mem _ (ptrOf_mem h)
/-- What a handed call sees. -/
theorem handIn_ok {F : List OF} {args : List PV} (h : Rel P T w0 V E s a) (ha : ∀ b off, .ptr b off ∈ args → b < E.n) {L : List Nat} {objs : List PV} {s2 : St} (hd : handIn P F args s = some (L, objs, s2)) :
    ∃ E2, Rel P T w0 V E2 s2 a ∧ Ext E E2 ∧ E2.w = E.w ∧ VerS [] E E2 ∧ Pick E2.n L ∧ L.length ≤ F.length ∧ objs.length = L.length ∧ HeapOk P (E2.lend L) w0.heap.size (objs.map decO) ∧
      ∀ (j b : Nat) (e : TypeId), L[j]? = some b → F[j]? = some (.buf e) → ∃ e' v xs, s2.h[b]? = some (.buf e' v xs) := by
  unfold handIn at hd
  split at hd
  · split at hd
    · rename_i b hb
      dsimp only at hd
      split at hd
      · rename_i hc
        obtain ⟨rfl, rfl, rfl⟩ : _ ∧ _ ∧ _ := by
          have := Option.some.inj hd
          simpa only [Prod.mk.injEq] using this
        rw [Bool.and_eq_true, beq_iff_eq] at hc
        obtain ⟨E2, h2, x2, w2, v2⟩ := ownify_ok F b h
        have hbn : b < E2.n := Nat.lt_of_lt_of_le (ha b 0 (ptrOf_mem hb)) x2.n
        have hL : Pick E2.n (closeL (ownify P F b s).h [b]) := by
          rw [h2.heap.n]
          exact closeL_pick ⟨by simp, fun c hc => by rw [List.mem_singleton.1 hc, ← h2.heap.n]; exact hbn⟩
        generalize closeL (ownify P F b s).h [b] = L at hc hL
        have hh := heap_tidied h2.heap hL (V2 := E2.rest L) (fun c hc => hc)
        have hh2 : HeapOk P (E2.lend L) w0.heap.size ((L.map fun c => encO (tidyAt L (ownify P F b s).h (ownify P F b s).h[c]?)).map decO) := by
          rw [List.map_map]
          have e : (decO ∘ fun (c : Nat) => encO (tidyAt L (ownify P F b s).h (ownify P F b s).h[c]?)) = fun (c : Nat) => tidyAt L (ownify P F b s).h (ownify P F b s).h[c]? := funext fun c => dec_enc _ _ _
          rw [e]
          exact hh
        obtain ⟨f0, f1, f2⟩ := objsF_spec hc.2
        refine ⟨E2, h2, x2, w2, v2, hL, by omega, by simp [f1], by rw [enc_objsF]; exact objsF_heap hc.2 hh2, fun j c e hj hf => ?_⟩
        obtain ⟨j1, j2⟩ := List.getElem?_eq_some_iff.1 hj
        obtain ⟨g1, g2⟩ := List.getElem?_eq_some_iff.1 hf
        have := (f2 j (by simpa using j1) g1 (by rw [f1]; simpa using j1)).1
        rw [g2] at this
        simp only [List.getElem_map, j2] at this
        cases ho : (ownify P F b s).h[c]? with
        | none => rw [ho] at this; cases this
        | some o =>
          rw [ho] at this
          cases o with
          | buf e' v xs => exact ⟨e', v, xs, rfl⟩
          | cells t cs => cases this
          | gone => cases this
      · cases hd
    · cases hd
  · obtain ⟨rfl, rfl, rfl⟩ : _ ∧ _ ∧ _ := by
      have := Option.some.inj hd
      simpa only [Prod.mk.injEq] using this
    refine ⟨E, h, Ext.refl E, rfl, fun _ _ _ => rfl, ⟨List.nodup_nil, fun b hb => by cases hb⟩, Nat.zero_le _, rfl, ?_, fun j b e hj => by simp at hj⟩
    exact heap_tidied h.heap (L := []) ⟨List.nodup_nil, fun b hb => by cases hb⟩ (V2 := E.rest []) fun c hc => hc
theorem posOf_some : ∀ {L : List Nat} {b j : Nat}, L.Nodup → L[j]? = some b → posOf L b = some j
  | [], b, j, _, h => by simp at h
  | x :: l, b, j, hn, h => by
    unfold posOf
    obtain ⟨n1, n2⟩ := List.nodup_cons.1 hn
    cases j with
    | zero =>
      rw [List.getElem?_cons_zero] at h
      rw [if_pos (Option.some.inj h)]
    | succ j =>
      rw [List.getElem?_cons_succ] at h
      rw [if_neg (by rintro rfl; exact n1 (List.mem_of_getElem? h)), posOf_some n2 h]
      rfl
theorem posOf_none : ∀ {L : List Nat} {b : Nat}, posOf L b = none → b ∉ L
  | [], b, _, h => by cases h
  | x :: l, b, h, hm => by
    unfold posOf at h
    split at h
    · cases h
    · rename_i hne
      have h' : posOf l b = none := by
        cases e : posOf l b with
        | none => rfl
        | some j => rw [e] at h; cases h
      rcases List.mem_cons.1 hm with e | hm
      · exact hne e.symm
      · exact posOf_none h' hm
/-- What is handed back, where it stood. -/
def Env.merge (E Ec : Env) (L : List Nat) (cons : Bool) (n : Nat) : Env :=
  { w := Ec.w, n := n, own := fun b => match posOf L b with | some j => if cons = true then none else Ec.own j | none => E.own b,
    blk := fun b => match posOf L b with | some j => Ec.blk j | none => E.blk b, hdr := fun b => match posOf L b with | some j => Ec.hdr j | none => E.hdr b,
    ver := fun b => match posOf L b with | some _ => (if b < E.n then E.ver b + 1 else 1) | none => E.ver b, V := E.V }
section
variable {Ec : Env} {L L3 : List Nat} {cons : Bool} {n : Nat} {base : Nat} {h : Heap} {objs : List HObj}
/-- The facts that a merge rests on. -/
structure MergeOk (P : Program) (base : Nat) (h : Heap) (E Ec : Env) (L L3 : List Nat) (cons : Bool) (n : Nat) (objs : List HObj) : Prop where
  heap : HeapOk P E base h
  pick : Pick E.n L
  nodup : L3.Nodup
  lt : ∀ b, b ∈ L3 → b < n
  all : ∀ b, E.n ≤ b → b < n → b ∈ L3
  head : ∀ (j b : Nat), L3[j]? = some b → b < E.n → L[j]? = some b
  sub : ∀ b, b ∈ L → b ∈ L3
  le : E.n ≤ n
  V : Ec.V = E.rest L
  heapC : HeapOk P Ec base objs
  len : cons = false → L3.length = objs.length
  blk : ∀ j, j < L.length → j < Ec.n ∧ Ec.blk j = (E.lend L).blk j
  own : ∀ c, Ec.O c → (E.lend L).O c ∨ E.w.heap.size ≤ c
  same : ∀ c, c < E.w.heap.size → ¬ (E.lend L).O c → Ec.w.heap[c]? = E.w.heap[c]?
  size : E.w.heap.size ≤ Ec.w.heap.size
  kind : cons = false → ∀ (j b : Nat) (e : TypeId) (v : Nat) (xs : List PV), L3[j]? = some b → b < E.n → objs[j]? = some (.buf e v xs) → ∃ e' v' xs', h[b]? = some (.buf e' v' xs')
variable (M : MergeOk P base h E Ec L L3 cons n objs)
include M
theorem MergeOk.old {j b : Nat} (hp : posOf L3 b = some j) (hb : b < E.n) : L[j]? = some b := M.head j b (posOf_spec hp) hb
theorem MergeOk.mem {j b : Nat} (hp : posOf L3 b = some j) (hb : b < E.n) : b ∈ L := List.mem_of_getElem? (M.old hp hb)
theorem MergeOk.O {c : Nat} (hc : (E.merge Ec L3 cons n).O c) : E.O c ∨ E.w.heap.size ≤ c := by
  obtain ⟨b, hb, e⟩ := hc
  have e' : (match posOf L3 b with | some j => if cons = true then none else Ec.own j | none => E.own b) = some c := e
  split at e'
  · rename_i j hj
    split at e'
    · cases e'
    · rename_i hcons
      have hl := M.len (by simpa using hcons)
      have h1 := (List.getElem?_eq_some_iff.1 (posOf_spec hj)).1
      have h2 := M.heapC.n
      exact (M.own c ⟨j, by omega, e'⟩).imp (lend_O M.pick) id
  · rename_i hj
    have hbn : b < E.n := by
      rcases Nat.lt_or_ge b E.n with h | h
      · exact h
      · exact absurd (M.all b h hb) (posOf_none hj)
    exact .inl ⟨b, hbn, e'⟩
theorem MergeOk.U {c : Nat} (hc : c < E.w.heap.size) (hu : ¬ E.U c) : ¬ (E.merge Ec L3 cons n).U c := by
  rintro (hv | ho)
  · exact hu (.inl hv)
  · rcases M.O ho with ho | hs
    · exact hu (.inr ho)
    · omega
theorem MergeOk.UC {c : Nat} (hu : ¬ Ec.U c) : ¬ (E.merge Ec L3 cons n).U c := by
  have hV : ¬ E.rest L c := fun hv => hu (.inl (by rw [M.V]; exact hv))
  rintro (hv | ⟨b, hb, e⟩)
  · exact hV (.inl hv)
  · have e' : (match posOf L3 b with | some j => if cons = true then none else Ec.own j | none => E.own b) = some c := e
    split at e'
    · rename_i j hj
      split at e'
      · cases e'
      · rename_i hcons
        have hl := M.len (by simpa using hcons)
        have h1 := (List.getElem?_eq_some_iff.1 (posOf_spec hj)).1
        have h2 := M.heapC.n
        exact hu (.inr ⟨j, by omega, e'⟩)
    · rename_i hj
      have hbn : b < E.n := by
        rcases Nat.lt_or_ge b E.n with h | h
        · exact h
        · exact absurd (M.all b h hb) (posOf_none hj)
      exact hV (.inr ⟨b, hbn, fun hm => posOf_none hj (M.sub b hm), e'⟩)
theorem MergeOk.apartO {b c : Nat} (hb : b < E.n) (hp : posOf L3 b = none) (ho : E.own b = some c) : ¬ (E.lend L).O c := by
  rintro ⟨j, hj, e⟩
  obtain ⟨b', hb', e'⟩ := lend_own e
  have := M.heap.apart b b' c hb (M.pick.lt _ (List.mem_of_getElem? hb')) ho e'
  subst this
  exact posOf_none hp (M.sub b (List.mem_of_getElem? hb'))
omit M in
theorem MergeOk.ver0 {b : Nat} (hp : posOf L3 b = none) : (E.merge Ec L3 cons n).ver b = E.ver b ∧ (E.merge Ec L3 cons n).hdr b = E.hdr b ∧ (E.merge Ec L3 cons n).own b = E.own b ∧ (E.merge Ec L3 cons n).blk b = E.blk b := by
  unfold Env.merge
  simp only [hp, and_self]
theorem MergeOk.ext0 : Ext0 E (E.merge Ec L3 cons n) := by
  refine ⟨M.le, fun b hb => ?_, M.size, fun c hc hu => ⟨M.U hc hu, M.same c hc fun ho => hu (.inr (lend_O M.pick ho))⟩, fun b hb => ?_, fun b c hb ho hs e => ?_⟩
  · show (match posOf L3 b with | some j => Ec.blk j | none => E.blk b) = _
    split
    · rename_i j hj
      have h1 := M.old hj hb
      rw [(M.blk j (List.getElem?_eq_some_iff.1 h1).1).2]
      exact lend_blk h1
    · rfl
  · cases hp : posOf L3 b with
    | none =>
      obtain ⟨v1, v2, _⟩ := MergeOk.ver0 hp
      rw [v1, v2]
      exact ⟨Nat.le_refl _, fun _ => rfl⟩
    | some j =>
      have v1 : (E.merge Ec L3 cons n).ver b = E.ver b + 1 := by
        show (match posOf L3 b with | some _ => (if b < E.n then E.ver b + 1 else 1) | none => E.ver b) = _
        rw [hp]
        exact if_pos hb
      rw [v1]
      exact ⟨by omega, fun e => by omega⟩
  · cases hp : posOf L3 b with
    | none =>
      obtain ⟨_, _, v3, _⟩ := MergeOk.ver0 hp
      exact ⟨v3.trans ho, M.same c hs (M.apartO hb hp ho)⟩
    | some j =>
      have v1 : (E.merge Ec L3 cons n).ver b = E.ver b + 1 := by
        show (match posOf L3 b with | some _ => (if b < E.n then E.ver b + 1 else 1) | none => E.ver b) = _
        rw [hp]
        exact if_pos hb
      rw [v1] at e
      omega
theorem MergeOk.at {b j : Nat} (hj : L3[j]? = some b) : (E.merge Ec L3 cons n).own b = (if cons = true then none else Ec.own j) ∧ (E.merge Ec L3 cons n).blk b = Ec.blk j ∧ (E.merge Ec L3 cons n).hdr b = Ec.hdr j ∧ b < n := by
  have hp := posOf_some M.nodup hj
  refine ⟨?_, ?_, ?_, M.lt b (List.mem_of_getElem? hj)⟩
  · show (match posOf L3 b with | some j => if cons = true then none else Ec.own j | none => E.own b) = _
    rw [hp]
  · show (match posOf L3 b with | some j => Ec.blk j | none => E.blk b) = _
    rw [hp]
  · show (match posOf L3 b with | some j => Ec.hdr j | none => E.hdr b) = _
    rw [hp]
theorem MergeOk.verAt (hcons : cons = false) {b j ver : Nat} {e : TypeId} {xs : List PV} (hj : L3[j]? = some b) (ho : objs[j]? = some (.buf e ver xs)) : (E.merge Ec L3 cons n).ver b = verOf h b + 1 := by
  have hp := posOf_some M.nodup hj
  show (match posOf L3 b with | some _ => (if b < E.n then E.ver b + 1 else 1) | none => E.ver b) = _
  rw [hp]
  dsimp only
  have hn := M.heap.n
  split
  · rename_i hb
    obtain ⟨e', v', xs', hh⟩ := M.kind hcons j b e ver xs hj hb ho
    have hob := M.heap.obj b _ hh
    have hv : v' = E.ver b := by cases hob; rfl
    unfold verOf
    rw [hh, hv]
  · rename_i hb
    have : h[b]? = none := List.getElem?_eq_none (by omega)
    unfold verOf
    rw [this]
theorem MergeOk.cell (hcons : cons = false) {x : PV} {v : Value} (he : Enc Ec x v) : Enc (E.merge Ec L3 cons n) (bakC L3 h objs x) v := by
  have hU : ∀ c, ¬ Ec.U c → ¬ (E.merge Ec L3 cons n).U c := fun c hc => M.UC hc
  unfold bakC
  split
  · exact Enc.plain_env (E := Ec) (E2 := E.merge Ec L3 cons n) rfl hU he rfl
  · exact Enc.plain_env (E := Ec) (E2 := E.merge Ec L3 cons n) rfl hU he rfl
  · exact Enc.plain_env (E := Ec) (E2 := E.merge Ec L3 cons n) rfl hU he rfl
  · split
    · rename_i j off _ b hj
      cases he with
      | ptr hb =>
        obtain ⟨_, m2, _, m4⟩ := M.at hj
        rw [← m2]
        exact .ptr m4
    · exact .top
  · split
    · rename_i j _ b hj
      cases he with
      | selfp hb hv =>
        obtain ⟨_, m2, _, m4⟩ := M.at hj
        exact .selfp m4 (by rw [m2]; exact hv)
    · exact .top
  · split
    · rename_i j ver _ _ b e0 ver' xs hj ho
      split
      · rename_i hv
        subst hv
        cases he with
        | buf hb hvv h1 hh =>
          obtain ⟨_, _, m3, m4⟩ := M.at hj
          have hob := M.heapC.obj j _ ho
          refine .buf m4 (Nat.le_of_eq (M.verAt hcons hj ho).symm) h1 fun _ => ?_
          rw [m3]
          exact hh (by cases hob; rfl)
      · exact .top
    · exact .top
  · exact .top
theorem MergeOk.result : HeapOk P (E.merge Ec L3 cons n) base (mergeH L3 objs cons h n) := by
  have hn := M.heap.n
  have x0 := M.ext0
  refine ⟨by show n = _; unfold mergeH; simp, fun b o ho => ?_, fun b b' c hb hb' e e' => ?_, Nat.le_trans M.heap.low M.size, fun c hc => ⟨Nat.lt_of_lt_of_le (M.heap.below c hc).1 M.size, fun b hb e => ?_⟩⟩
  · unfold mergeH at ho
    rw [List.getElem?_map, Option.map_eq_some_iff] at ho
    obtain ⟨b', hb', ho⟩ := ho
    obtain ⟨r1, r2⟩ := List.getElem?_eq_some_iff.1 hb'
    have hbb : b' = b := by rw [← r2]; simp
    subst hbb
    have hb : b' < n := by simpa using r1
    cases hp : posOf L3 b' with
    | none =>
      rw [hp] at ho
      dsimp only at ho
      have hbn : b' < E.n := by
        rcases Nat.lt_or_ge b' E.n with h1 | h1
        · exact h1
        · exact absurd (M.all b' h1 hb) (posOf_none hp)
      have hbl : b' < h.length := by omega
      have e1 : h.getD b' .gone = h[b'] := by simp [hbl]
      rw [e1] at ho
      subst ho
      obtain ⟨v1, v2, v3, v4⟩ := MergeOk.ver0 hp
      exact (M.heap.obj b' _ (List.getElem?_eq_getElem hbl)).keep0 x0 v3 v4 v2 v1 fun c hc => M.same c ((M.heap.obj b' _ (List.getElem?_eq_getElem hbl)).lt hc).2 (M.apartO hbn hp hc)
    | some j =>
      rw [hp] at ho
      dsimp only at ho
      have hj := posOf_spec hp
      obtain ⟨m1, m2, m3, m4⟩ := M.at hj
      split at ho
      · rename_i hc
        subst ho
        rw [if_pos hc] at m1
        exact .gone m1
      · rename_i hc
        have hcons : cons = false := by simpa using hc
        have hl := M.len hcons
        have hjl : j < objs.length := by have := (List.getElem?_eq_some_iff.1 hj).1; omega
        have e1 : objs.getD j .gone = objs[j] := by simp [hjl]
        rw [e1] at ho
        subst ho
        rw [if_neg hc] at m1
        have hob := M.heapC.obj j _ (List.getElem?_eq_getElem hjl)
        have hoj : objs[j]? = some objs[j] := List.getElem?_eq_getElem hjl
        generalize objs[j] = o0 at hob hoj
        cases hob with
        | cells h1 h2 h3 h4 h5 =>
          refine .cells (by rw [m1, m2]; exact h1) (by rw [m2]; exact h2) (by rw [m2]; exact h3) (by simpa using h4) fun i a1 a2 => ?_
          simp only [List.getElem_map]
          exact M.cell hcons (h5 i (by simpa using a1) a2)
        | buf h1 h2 h3 h4 h5 h6 =>
          rename_i kk xs vs e0
          have hv := M.verAt hcons hj hoj
          show ObjOk P _ base b' (.buf e0 (verOf h b' + 1) xs)
          rw [← hv]
          refine .buf (by rw [m1, m3]; exact h1) (by rw [m3]; exact h2) h3 h4 h5 fun i a1 k hk => ?_
          obtain ⟨u, hu, eu⟩ := h6 i a1 k hk
          refine ⟨u, hu, Enc.plain_env (E := Ec) (E2 := E.merge Ec L3 cons n) rfl (fun c hc => M.UC hc) eu ?_⟩
          have := (h5 i a1).1
          simp only [PV.plainE, Bool.and_eq_true] at this
          exact List.all_eq_true.1 this.2 _ (List.getElem_mem hk)
        | gone h1 => exact .gone (by rw [m1]; exact h1)
  · have two : ∀ {x : Nat}, x < n → (E.merge Ec L3 cons n).own x = some c → (∃ j, posOf L3 x = some j ∧ cons = false ∧ j < Ec.n ∧ Ec.own j = some c) ∨ (posOf L3 x = none ∧ x < E.n ∧ E.own x = some c) := fun {x} hx ex => by
      have ex' : (match posOf L3 x with | some j => if cons = true then none else Ec.own j | none => E.own x) = some c := ex
      cases hp : posOf L3 x with
      | none =>
        rw [hp] at ex'
        refine .inr ⟨rfl, ?_, ex'⟩
        rcases Nat.lt_or_ge x E.n with h1 | h1
        · exact h1
        · exact absurd (M.all x h1 hx) (posOf_none hp)
      | some j =>
        rw [hp] at ex'
        dsimp only at ex'
        split at ex'
        · cases ex'
        · rename_i hc
          have hcons : cons = false := by simpa using hc
          have hl := M.len hcons
          have h1 := (List.getElem?_eq_some_iff.1 (posOf_spec hp)).1
          have h2 := M.heapC.n
          exact .inl ⟨j, rfl, hcons, by omega, ex'⟩
    have cross : ∀ {j x : Nat}, j < Ec.n → Ec.own j = some c → posOf L3 x = none → x < E.n → E.own x = some c → False := fun {j x} hj ej hp hx ex => by
      have hxl : x < h.length := by omega
      have hlt := ((M.heap.obj x _ (List.getElem?_eq_getElem hxl)).lt ex).2
      rcases M.own c ⟨j, hj, ej⟩ with ho | hs
      · exact M.apartO hx hp ex ho
      · omega
    rcases two hb e with ⟨j, p1, c1, l1, o1⟩ | ⟨p1, l1, o1⟩
    · rcases two hb' e' with ⟨j', p2, c2, l2, o2⟩ | ⟨p2, l2, o2⟩
      · have := M.heapC.apart j j' c l1 l2 o1 o2
        subst this
        have a1 := posOf_spec p1
        have a2 := posOf_spec p2
        rw [a1] at a2
        exact Option.some.inj a2
      · exact (cross l1 o1 p2 l2 o2).elim
    · rcases two hb' e' with ⟨j', p2, c2, l2, o2⟩ | ⟨p2, l2, o2⟩
      · exact (cross l2 o2 p1 l1 o1).elim
      · exact M.heap.apart b b' c l1 l2 o1 o2
  · have ex' : (match posOf L3 b with | some j => if cons = true then none else Ec.own j | none => E.own b) = some c := e
    cases hp : posOf L3 b with
    | none =>
      rw [hp] at ex'
      have hbn : b < E.n := by
        rcases Nat.lt_or_ge b E.n with h1 | h1
        · exact h1
        · exact absurd (M.all b h1 hb) (posOf_none hp)
      exact (M.heap.below c hc).2 b hbn ex'
    | some j =>
      rw [hp] at ex'
      dsimp only at ex'
      split at ex'
      · cases ex'
      · rename_i hc2
        have hl := M.len (by simpa using hc2)
        have h1 := (List.getElem?_eq_some_iff.1 (posOf_spec hp)).1
        have h2 := M.heapC.n
        exact (M.heapC.below c (by rw [M.V]; exact .inl hc)).2 j (by omega) ex'
end
end
end Go.Den
