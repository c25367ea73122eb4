/- What is kept at a loop's head, and of what is handed to a function. -/
import Derived.Test.YtkhbkbkambflbaaGreatDoorDenL
namespace Go.Den
open Go Go.RowKit
set_option linter.unusedVariables false
section
variable {P : Program} {T : World → Prop} {w0 : Bs} {V : Nat → Prop} {E : Env} {s : St} {a : Act}
/-- At a loop's head. -/
def ownAt (E : Env) (o : Option Nat) : Option Nat := match o with
 | some b => E.own b
 | none => none
def Env.tidied (E : Env) (L : List Nat) : Env := { w := E.w, n := L.length, own := fun j => ownAt E L[j]?, blk := fun j => E.blk (L.getD j 0), hdr := fun j => E.hdr (L.getD j 0), ver := fun _ => 0, V := E.V }
structure Pick (n : Nat) (L : List Nat) : Prop where
 nodup : L.Nodup
 lt : ∀ b, b ∈ L → b < n
theorem posOf_spec : ∀ {L : List Nat} {b j : Nat}, posOf L b = some j → L[j]? = some b
 | [], _, _, h => by cases h
 | x :: l, b, j, h => by
  unfold posOf at h
  split at h
  ·rename_i e; cases h; rw [e]; rfl
  ·obtain ⟨i, hi, rfl⟩ := Option.map_eq_some_iff.1 h
   rw [List.getElem?_cons_succ]
   exact posOf_spec hi
theorem addNew_pick {n : Nat} {L : List Nat} (h : Pick n L) (b : Nat) : Pick n (addNew n L b) := by
 unfold addNew
 split
 ·rename_i hb
  split
  ·exact h
  ·rename_i hc
   have hc' : b ∉ L := by simpa using hc
   refine ⟨List.nodup_append.2 ⟨h.nodup, by simp, fun x hx y hy => ?_⟩, fun x hx => ?_⟩
   ·rw [List.mem_singleton.1 hy]
    rintro rfl
    exact hc' hx
   ·rcases List.mem_append.1 hx with hx | hx
    ·exact h.lt x hx
    ·rw [List.mem_singleton.1 hx]; exact hb
 ·exact h
theorem addNews_pick {n : Nat} : ∀ (l : List Nat) {L : List Nat}, Pick n L → Pick n (l.foldl (addNew n) L)
 | [], _, h => h
 | b :: l, L, h => addNews_pick l (addNew_pick h b)
theorem range_pick (m n : Nat) : Pick n (List.range (min m n)) := ⟨List.nodup_range, fun b hb => by have := List.mem_range.1 hb; omega⟩
theorem kept_pick (m : Nat) (h : Heap) (keep : List Nat) (fr : List PV) : Pick h.length (keptObjs m h keep fr) :=
 addNews_pick _ (addNews_pick _ (addNews_pick _ (addNews_pick _ (range_pick m h.length))))
/-- What was kept first stands first. -/
def Heads (l L : List Nat) : Prop := ∃ l', L = l ++ l'
theorem heads_new {n : Nat} {l L : List Nat} (h : Heads l L) (b : Nat) : Heads l (addNew n L b) := by
 obtain ⟨l', rfl⟩ := h
 unfold addNew
 split
 ·split
  ·exact ⟨l', rfl⟩
  ·exact ⟨l' ++ [b], by simp⟩
 ·exact ⟨l', rfl⟩
theorem heads_news {n : Nat} {l : List Nat} : ∀ (x : List Nat) {L : List Nat}, Heads l L → Heads l (x.foldl (addNew n) L)
 | [], _, h => h
 | b :: x, L, h => heads_news x (heads_new h b)
theorem kept_heads (m : Nat) (h : Heap) (keep : List Nat) (fr : List PV) : Heads (List.range (min m h.length)) (keptObjs m h keep fr) :=
 heads_news _ (heads_news _ (heads_news _ (heads_news _ ⟨[], by simp⟩)))
theorem heads_get {m : Nat} {L : List Nat} (h : Heads (List.range m) L) {j : Nat} (hj : j < m) : L[j]? = some j := by
 obtain ⟨l', rfl⟩ := h
 rw [List.getElem?_append_left (by simpa using hj)]
 simp [hj]
theorem tidied_U {L : List Nat} (hL : Pick E.n L) {c : Nat} (h : ¬ E.U c) : ¬ (E.tidied L).U c := by
 rintro (hh | ⟨j, hj, e⟩)
 ·exact h (.inl hh)
 ·have e' : ownAt E L[j]? = some c := e
  unfold ownAt at e'
  split at e'
  ·rename_i b hb
   exact h (.inr ⟨b, hL.lt b (List.mem_of_getElem? hb), e'⟩)
  ·cases e'
theorem tidied_O {L : List Nat} (hL : Pick E.n L) {c : Nat} (h : (E.tidied L).O c) : E.O c := by
 obtain ⟨j, hj, e⟩ := h
 have e' : ownAt E L[j]? = some c := e
 unfold ownAt at e'
 split at e'
 ·rename_i b hb
  exact ⟨b, hL.lt b (List.mem_of_getElem? hb), e'⟩
 ·cases e'
theorem tidyC_enc {L : List Nat} (hL : Pick E.n L) {base : Nat} {h : Heap} (hs : HeapOk P E base h) {x : PV} {v : Value} (he : Enc E x v) : Enc (E.tidied L) (tidyC L h x) v := by
 have hU : ∀ c, ¬ E.U c → ¬ (E.tidied L).U c := fun c hc => tidied_U hL hc
 unfold tidyC
 split
 ·exact Enc.plain_env (E := E) (E2 := E.tidied L) rfl hU he rfl
 ·exact Enc.plain_env (E := E) (E2 := E.tidied L) rfl hU he rfl
 ·exact Enc.plain_env (E := E) (E2 := E.tidied L) rfl hU he rfl
 ·split
  ·rename_i b off _ j hj
   have hj' := posOf_spec hj
   cases he with
   | ptr hbn =>
    have := Enc.ptr (E := E.tidied L) (b := j) (off := off) (List.getElem?_eq_some_iff.1 hj').1
    have e : (E.tidied L).blk j = E.blk b := by
     show E.blk (L.getD j 0) = _
     rw [List.getD_eq_getElem?_getD, hj']
     rfl
    rwa [e] at this
  ·exact .top
 ·split
  ·rename_i b ver _ _ j e0 ver' xs hj ho
   have hj' := posOf_spec hj
   split
   ·rename_i hv
    subst hv
    cases he with
    | buf hbn hvv h1 hh =>
     have hob := hs.obj b _ ho
     cases hob
     refine .buf (List.getElem?_eq_some_iff.1 hj').1 (Nat.zero_le _) h1 fun _ => (hh rfl).trans ?_
     show _ = E.hdr (L.getD j 0)
     rw [List.getD_eq_getElem?_getD, hj']
     rfl
   ·exact .top
  ·exact .top
 ·split
  ·rename_i b _ j hj
   have hj' := posOf_spec hj
   cases he with
   | selfp hbn hv =>
    refine .selfp (List.getElem?_eq_some_iff.1 hj').1 ?_
    have e : (E.tidied L).blk j = E.blk b := by
     show E.blk (L.getD j 0) = _
     rw [List.getD_eq_getElem?_getD, hj']
     rfl
    rw [e]
    exact hv
  ·exact .top
 ·exact .top
theorem tidyPV_enc {L : List Nat} (hL : Pick E.n L) {base : Nat} {h : Heap} (hs : HeapOk P E base h) {x : PV} {v : Value} (he : Enc E x v) : Enc (E.tidied L) (tidyPV L h x) v := by
 unfold tidyPV
 split
 ·cases he with
  | agg hl hx =>
   refine .agg (by simpa using hl) fun i h1 h2 => ?_
   simp only [List.getElem_map]
   exact tidyC_enc hL hs (hx i (by simpa using h1) h2)
 ·exact tidyC_enc hL hs he
theorem keepSlots_get (L : List Nat) (h : Heap) (keep : List Nat) : ∀ (k : Nat) (l : List PV), (keepSlots L h keep k l).length = l.length ∧ ∀ i (h1 : i < (keepSlots L h keep k l).length) (h2 : i < l.length), (keepSlots L h keep k l)[i] = tidyPV L h l[i] ∨ (keepSlots L h keep k l)[i] = .top
 | k, [] => ⟨rfl, fun i h1 => by simp [keepSlots] at h1⟩
 | k, x :: l => by
  obtain ⟨a1, a2⟩ := keepSlots_get L h keep (k + 1) l
  refine ⟨by simp [keepSlots, a1], fun i h1 h2 => ?_⟩
  cases i with
  | zero =>
   simp only [keepSlots, List.getElem_cons_zero]
   split
   ·exact .inl rfl
   ·exact .inr rfl
  | succ i =>
   simp only [keepSlots, List.getElem_cons_succ]
   exact a2 i _ _
/-- Objects that are kept, by their new numbers; others may be written by those who wait. -/
theorem heap_tidied {base : Nat} {h : Heap} (hs : HeapOk P E base h) {L : List Nat} (hL : Pick E.n L) {V2 : Nat → Prop} (hV : ∀ c, V2 c → E.V c ∨ ∃ b, b < E.n ∧ b ∉ L ∧ E.own b = some c) :
  HeapOk P { E.tidied L with V := V2 } base (L.map fun b => tidyAt L h h[b]?) := by
 have hn := hs.n
 have hU : ∀ c, ¬ E.U c → ¬ (Env.U { E.tidied L with V := V2 }) c := fun c hc => by
  rintro (hv | ho)
  ·rcases hV c hv with hv | ⟨b, hb, _, ho⟩
   ·exact hc (.inl hv)
   ·exact hc (.inr ⟨b, hb, ho⟩)
  ·exact hc (.inr (tidied_O hL ho))
 have enc : ∀ {x : PV} {v : Value}, Enc E x v → Enc { E.tidied L with V := V2 } (tidyC L h x) v := fun {x v} he => by
  have h0 := tidyC_enc hL hs he
  unfold tidyC at h0 ⊢
  split
  ·exact Enc.plain_env (E := E) (E2 := { E.tidied L with V := V2 }) rfl hU he rfl
  ·exact Enc.plain_env (E := E) (E2 := { E.tidied L with V := V2 }) rfl hU he rfl
  ·exact Enc.plain_env (E := E) (E2 := { E.tidied L with V := V2 }) rfl hU he rfl
  ·rename_i b off
   dsimp only at h0
   split
   ·rename_i j hj
    rw [hj] at h0
    cases h0 with
    | ptr hb => exact .ptr (E := { E.tidied L with V := V2 }) hb
   ·exact .top
  ·rename_i b ver
   dsimp only at h0
   split
   ·rename_i j e0 ver' xs hj ho
    rw [hj, ho] at h0
    dsimp only at h0
    split
    ·rename_i hv
     rw [if_pos hv] at h0
     cases h0 with
     | buf hb hvv h1 hh => exact .buf (E := { E.tidied L with V := V2 }) hb hvv h1 hh
    ·exact .top
   ·exact .top
  ·rename_i b
   dsimp only at h0
   split
   ·rename_i j hj
    rw [hj] at h0
    cases h0 with
    | selfp hb hv => exact .selfp (E := { E.tidied L with V := V2 }) hb hv
   ·exact .top
  ·exact .top
 have ha : ∀ {j c : Nat}, (E.tidied L).own j = some c → ∃ b, L[j]? = some b ∧ E.own b = some c := fun {j c} e => by
  have e' : ownAt E L[j]? = some c := e
  unfold ownAt at e'
  split at e'
  ·rename_i b hb; exact ⟨b, hb, e'⟩
  ·cases e'
 refine ⟨by show L.length = (L.map _).length; simp, fun j o ho => ?_, fun j j' c hj hj' e e' => ?_, hs.low, fun c hc => ⟨?_, fun j hj e => ?_⟩⟩
 ·have ho2 : (L.map fun b => tidyAt L h h[b]?)[j]? = some o := ho
  clear ho
  rw [List.getElem?_map, Option.map_eq_some_iff] at ho2
  obtain ⟨b, hb, rfl⟩ := ho2
  have hbn := hL.lt b (List.mem_of_getElem? hb)
  have hbl : b < h.length := by omega
  have eo : (E.tidied L).own j = E.own b := by
   show ownAt E L[j]? = _
   rw [hb]
   rfl
  have eb : (E.tidied L).blk j = E.blk b := by
   show E.blk (L.getD j 0) = _
   rw [List.getD_eq_getElem?_getD, hb]
   rfl
  have eh : (E.tidied L).hdr j = E.hdr b := by
   show E.hdr (L.getD j 0) = _
   rw [List.getD_eq_getElem?_getD, hb]
   rfl
  rw [List.getElem?_eq_getElem hbl]
  have hob := hs.obj b _ (List.getElem?_eq_getElem hbl)
  generalize h[b] = o0 at hob
  cases hob with
  | cells ho hbb hh hl hx =>
   refine .cells (E := { E.tidied L with V := V2 }) (by show (E.tidied L).own j = some ((E.tidied L).blk j); rw [eo, eb]; exact ho) (by show base ≤ (E.tidied L).blk j; rw [eb]; exact hbb) (by show E.w.heap[(E.tidied L).blk j]? = _; rw [eb]; exact hh) (by simpa using hl) fun i a1 a2 => ?_
   simp only [List.getElem_map]
   exact enc (hx i (by simpa using a1) a2)
  | buf ho hw hk h0 hx hxe =>
   rename_i kk xs vs e0
   exact .buf (E := { E.tidied L with V := V2 }) (by show (E.tidied L).own j = ((E.tidied L).hdr j).ownBlock; rw [eo, eh]; exact ho) (by show rowIn P E.w _ _ _ ((E.tidied L).hdr j) _ _; rw [eh]; exact hw) hk h0 hx fun i a1 j hj => by
    obtain ⟨u, hu, eu⟩ := hxe i a1 j hj
    refine ⟨u, hu, Enc.plain_env (E := E) (E2 := { E.tidied L with V := V2 }) rfl hU eu ?_⟩
    have := (hx i a1).1
    simp only [PV.plainE, Bool.and_eq_true] at this
    exact List.all_eq_true.1 this.2 _ (List.getElem_mem hj)
  | gone ho => exact .gone (E := { E.tidied L with V := V2 }) (by show (E.tidied L).own j = none; rw [eo]; exact ho)
 ·obtain ⟨b, hb, ob⟩ := ha e
  obtain ⟨b', hb', ob'⟩ := ha e'
  have := hs.apart b b' c (hL.lt b (List.mem_of_getElem? hb)) (hL.lt b' (List.mem_of_getElem? hb')) ob ob'
  subst this
  obtain ⟨l1, g1⟩ := List.getElem?_eq_some_iff.1 hb
  obtain ⟨l2, g2⟩ := List.getElem?_eq_some_iff.1 hb'
  exact (List.getElem_inj hL.nodup).1 (g1.trans g2.symm)
 ·rcases hV c hc with hv | ⟨b, hb, _, ho⟩
  ·exact (hs.below c hv).1
  ·have hbl : b < h.length := by omega
   exact ((hs.obj b _ (List.getElem?_eq_getElem hbl)).lt ho).2
 ·obtain ⟨b, hb, ob⟩ := ha e
  rcases hV c hc with hv | ⟨b', hb', hnl, ho⟩
  ·exact (hs.below c hv).2 b (hL.lt b (List.mem_of_getElem? hb)) ob
  ·have := hs.apart b' b c hb' (hL.lt b (List.mem_of_getElem? hb)) ho ob
   subst this
   exact hnl (List.mem_of_getElem? hb)
theorem tidy_ok (h : Rel P T w0 V E s a) (k : Option (List Nat × Nat)) : ∃ E', Rel P T w0 V E' (tidy k s) a ∧ E'.w = E.w := by
 cases k with
 | none => exact ⟨E, h, rfl⟩
 | some p =>
  obtain ⟨keep, n0⟩ := p
  have hn := h.heap.n
  have hL := kept_pick (s.m.getD 0) s.h keep s.fr
  have hH := kept_heads (s.m.getD 0) s.h keep s.fr
  rw [← hn] at hL
  have e0 : tidy (some (keep, n0)) s = ⟨keepSlots (keptObjs (s.m.getD 0) s.h keep s.fr) s.h keep 0 s.fr, (keptObjs (s.m.getD 0) s.h keep s.fr).map fun b => tidyAt (keptObjs (s.m.getD 0) s.h keep s.fr) s.h s.h[b]?, s.m⟩ := rfl
  rw [e0]
  generalize keptObjs (s.m.getD 0) s.h keep s.fr = L at hL hH
  obtain ⟨k1, k2⟩ := keepSlots_get L s.h keep 0 s.fr
  have hm := h.hand.m
  refine ⟨E.tidied L, ⟨heap_tidied h.heap hL (V2 := E.V) fun c hc => .inl hc, by show (keepSlots L s.h keep 0 s.fr).length = _; rw [k1]; exact h.len, fun i h1 h2 => ?_, h.below, h.defers, h.V, h.T,
   ⟨hm, fun j hj => ?_, fun c hc => h.hand.own c (tidied_O hL hc), h.hand.same, h.hand.size⟩⟩, rfl⟩
  ·have h3 : i < s.fr.length := by rw [h.len]; exact h2
   have h4 : i < (keepSlots L s.h keep 0 s.fr).length := h1
   show Enc (E.tidied L) (keepSlots L s.h keep 0 s.fr)[i] a.tmps[i]
   rcases k2 i h4 h3 with e | e
   ·rw [e]; exact tidyPV_enc hL h.heap (h.fr i h3 h2)
   ·rw [e]; exact .top
  ·obtain ⟨j1, j2⟩ := h.hand.blk j hj
   have hj' : j < min (s.m.getD 0) s.h.length := by rw [hm]; omega
   have hg := heads_get hH hj'
   refine ⟨(List.getElem?_eq_some_iff.1 hg).1, ?_⟩
   rw [← j2]
   show E.blk (L.getD j 0) = _
   rw [List.getD_eq_getElem?_getD, hg]
   rfl
end
end Go.Den
