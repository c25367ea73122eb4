/- Elements of own slices that are written; a text's bytes as an own slice. -/
import Derived.Test.YtkhbkbkambflbaaGreatDoorDenHb
import Derived.Laws.IdiomStrings
import Derived.Lib.FrozenHead
namespace Go.Den
open Go Go.RowKit
set_option linter.unusedVariables false
section
variable {P : Program} {T : World → Prop} {w0 : Bs} {V : Nat → Prop} {E : Env} {s : St} {a : Act}
/-- Cells that are written where nothing is frozen. -/
theorem run_storeCells_free (g o : Nat) (t : TypeId) (fz : Nat × Nat) : ∀ (vs : List Value) (i : Nat) (cur : Array Value) (w : World), w.heap[g]? = some (.cells cur t fz) → (∀ j, o + i ≤ j → j < o + i + vs.length → ¬ (fz.1 ≤ j ∧ j < fz.2)) → o + i + vs.length ≤ cur.size → (∀ v ∈ vs, v.oneCell' = true) →
  (storeCells ⟨g, o, none⟩ vs i).run P w = .ok () (w.setRow g (cur.toList.take (o + i) ++ vs ++ cur.toList.drop (o + i + vs.length)).toArray)
 | [], i, cur, w, hg, _, _, _ => by
  simp only [storeCells, List.append_nil, List.length_nil, Nat.add_zero, List.take_append_drop, Array.toArray_toList]
  rw [setRow_self w g cur t fz hg]
  rfl
 | v :: rest, i, cur, w, hg, hfz, hl, h1 => by
  have hi : o + i < cur.size := by simp at hl; omega
  have hadd : (⟨g, o, none⟩ : Addr).add i = ⟨g, o + i, none⟩ := by unfold Addr.add; split <;> simp_all
  have hcell : w.cell? ⟨g, o + i, none⟩ = some cur[o + i] := by simp [World.cell?, hg, hi]
  have hfro : w.frozen? ⟨g, o + i, none⟩ = false := by
   have h2 := hfz (o + i) (Nat.le_refl _) (by simp)
   obtain ⟨lo, hi'⟩ := fz
   simp only [World.frozen?, hg, Bool.and_eq_false_iff, decide_eq_false_iff_not]
   simp only at h2
   omega
  have hst : (store ((⟨g, o, none⟩ : Addr).add i) v).run P w = .ok () (w.setRow g (cur.setIfInBounds (o + i) v)) := by
   rw [hadd, run_store P w _ v _ (h1 v (by simp)), hcell]
   simp [hfro, setCell_eq_setRow w g (o + i) cur t fz v hg]
  have ih := run_storeCells_free g o t fz rest (i + 1) (cur.setIfInBounds (o + i) v) (w.setRow g (cur.setIfInBounds (o + i) v)) (setRow_heap w g cur _ t _ hg) (fun j a b => hfz j (by omega) (by simp only [List.length_cons]; omega)) (by simp at hl ⊢; omega) (fun x hx => h1 x (by simp [hx]))
  simp only [storeCells, Sem.run_bind, hst, Result.andThen_ok, ih, setRow_setRow]
  congr 3
  have e := list_seg_step cur.toList (o + i) v rest (by simp at hl ⊢; omega)
  simpa [Array.toList_setIfInBounds, Nat.add_assoc] using e
theorem splice_get {α : Type} {vs us : List α} {i : Nat} (h : i + us.length ≤ vs.length) (p : Nat) : (vs.take i ++ us ++ vs.drop (i + us.length))[p]? = if i ≤ p ∧ p < i + us.length then us[p - i]? else vs[p]? := by
 have hl : (vs.take i).length = i := by rw [List.length_take]; omega
 by_cases h1 : p < i
 ·rw [if_neg (by omega), List.append_assoc, List.getElem?_append_left (by omega), List.getElem?_take, if_pos h1]
 ·by_cases h2 : p < i + us.length
  ·rw [if_pos ⟨by omega, h2⟩, List.append_assoc, List.getElem?_append_right (by omega), hl, List.getElem?_append_left (by omega)]
  ·rw [if_neg (by omega), List.getElem?_append_right (by rw [List.length_append, hl]; omega), List.length_append, hl, List.getElem?_drop]
   congr 1; omega
theorem splice_take {α : Type} {vs us : List α} {i N : Nat} (h : i + us.length ≤ N) (hN : N ≤ vs.length) : (vs.take i ++ us ++ vs.drop (i + us.length)).take N = (vs.take N).take i ++ us ++ (vs.take N).drop (i + us.length) := by
 apply List.ext_getElem?
 intro p
 rw [List.getElem?_take, splice_get (by omega), splice_get (by rw [List.length_take]; omega), List.getElem?_take]
 by_cases hp : p < N
 ·rw [if_pos hp, if_pos hp]
 ·rw [if_neg hp, if_neg (by omega), if_neg hp]
theorem splice_len {α : Type} {vs us : List α} {i : Nat} (h : i + us.length ≤ vs.length) : (vs.take i ++ us ++ vs.drop (i + us.length)).length = vs.length := by
 simp; omega
/-- Cells of an own row are written. -/
theorem rowIn.put {w : World} {base k n g : Nat} {e : TypeId} {v : Value} {xs us : List Value} {i : Nat} (h : rowIn P w base e k v n xs) (hv : v.ownBlock = some g) (hi : i + us.length ≤ n * k) (h1 : ∀ u ∈ us, u.oneCell' = true) :
  ∃ cur : Array Value, (storeCells ⟨g, i, none⟩ us 0).run P w = .ok () (w.setRow g cur) ∧ rowIn P (w.setRow g cur) base e k v n (xs.take i ++ us ++ xs.drop (i + us.length)) := by
 rcases h with ⟨h0, ⟨rfl, rfl⟩ | ⟨g', cap, cur, rfl, hb, hh, h2, h3, h4, h5⟩⟩ | ⟨hm, h0, g', cap, cur, t, fz, rfl, hb, hh, h6, h2, h4, h5⟩
 ·cases hv
 ·obtain rfl : g' = g := Option.some.inj hv
  have hN : n * k ≤ cur.toList.length := by
   have : n * k ≤ cap * k := Nat.mul_le_mul_right _ h2
   simp; omega
  have hr := run_storeCells_free (P := P) g' i e (0, 0) us 0 cur w hh (fun j _ _ => by simp) (by simp at hN; omega) h1
  rw [Nat.add_zero] at hr
  refine ⟨_, hr, .inl ⟨by rw [splice_len (by rw [h0]; exact hi)]; exact h0, .inr ⟨g', cap, _, rfl, hb, setRow_heap w g' cur _ e (0, 0) hh, h2, h3, ?_, ?_⟩⟩⟩
  ·rw [List.size_toArray, splice_len (by omega)]; simpa using h4
  ·rw [splice_take hi hN, h5]
 ·obtain rfl : g' = g := Option.some.inj hv
  have hN : n * k ≤ cur.toList.length := by simp; omega
  have hr := run_storeCells_free (P := P) g' i t fz us 0 cur w hh (fun j _ hj hc => by simp at hN; omega) (by simp at hN; omega) h1
  rw [Nat.add_zero] at hr
  refine ⟨_, hr, .inr ⟨hm, by rw [splice_len (by rw [h0]; exact hi)]; exact h0, g', cap, _, t, fz, rfl, hb, setRow_heap w g' cur _ t fz hh, ?_, h2, ?_, ?_⟩⟩
  ·rw [List.size_toArray, splice_len (by omega)]; simpa using h6
  ·rw [List.size_toArray, splice_len (by omega)]; simpa using h4
  ·rw [splice_take hi hN, h5]
theorem bump_ext {base : Nat} {h : Heap} (hs : HeapOk P E base h) {b blk : Nat} (hb : b < E.n) (ho : E.own b = some blk) (cur : Array Value) : Ext E (E.bump b (E.w.setRow blk cur)) := by
 refine ⟨Nat.le_refl _, fun _ _ => rfl, by simp [Env.bump], fun c hc => .inl hc, fun c hc hu => ?_, fun c _ => ?_, rfl, fun b' c hb' ho' hs' e => ?_⟩
 ·have hne : c ≠ blk := by
   rintro rfl
   exact hu ⟨b, hb, ho⟩
  exact setRow_other E.w blk c cur hne
 ·show E.ver c ≤ (if c = b then E.ver b + 1 else E.ver c) ∧ (E.ver c = (if c = b then E.ver b + 1 else E.ver c) → E.hdr c = E.hdr c)
  split
  ·rename_i e; subst e; exact ⟨Nat.le_succ _, fun _ => rfl⟩
  ·exact ⟨Nat.le_refl _, fun _ => rfl⟩
 ·have e' : E.ver b' = (if b' = b then E.ver b + 1 else E.ver b') := e
  have hbb : b' ≠ b := by
   rintro rfl
   rw [if_pos rfl] at e'
   omega
  refine ⟨ho', setRow_other E.w blk c cur ?_⟩
  rintro rfl
  exact hbb (hs.apart b' b _ hb' hb ho' ho)
theorem upC_enc {w : World} {b n : Nat} (hx : Ext E (E.bump b w)) (hn : n = E.ver b) {x : PV} {v : Value} (he : Enc E x v) : Enc (E.bump b w) (upC b n x) v := by
 unfold upC
 split
 ·rename_i c ver
  split
  ·rename_i hc
   obtain ⟨rfl, rfl⟩ := hc
   cases he with
   | buf hb hv h1 h =>
    subst hn
    refine .buf (E := E.bump c w) (ver := E.ver c + 1) hb ?_ h1 fun _ => h rfl
    show E.ver c + 1 ≤ (if c = c then E.ver c + 1 else E.ver c)
    rw [if_pos rfl]; exact Nat.le_refl _
  ·exact he.ext hx
 ·exact he.ext hx
theorem upPV_enc {w : World} {b n : Nat} (hx : Ext E (E.bump b w)) (hn : n = E.ver b) {x : PV} {v : Value} (he : Enc E x v) : Enc (E.bump b w) (upPV b n x) v := by
 unfold upPV
 split
 ·cases he with
  | agg hl h =>
   refine .agg (by simpa using hl) fun i a b => ?_
   simp only [List.getElem_map]
   exact upC_enc hx hn (h i (by simpa using a) b)
 ·exact upC_enc hx hn he
theorem plain_one {x : PV} (h : x.plain = true) : x.one = true := (plain_known h).2.1
theorem putE_ok {y x : PV} {k o : Nat} (hy : y.plainE = true) (hyk : y.cells.length = k) (hx : x.plainE = true) (hle : o + x.cells.length ≤ k) :
  (putE y k o x).plainE = true ∧ (putE y k o x).cells.length = k ∧ ∀ j, (putE y k o x).cells[j]? = if o ≤ j ∧ j < o + x.cells.length then x.cells[j - o]? else y.cells[j]? := by
 unfold putE
 split
 ·rename_i he
  have ho : o = 0 := by omega
  subst ho
  refine ⟨hx, he, fun j => ?_⟩
  by_cases hj : j < x.cells.length
  ·rw [if_pos ⟨by omega, by omega⟩]; rfl
  ·rw [if_neg (by omega), List.getElem?_eq_none (by omega), List.getElem?_eq_none (by omega)]
 ·simp only [PV.plainE, Bool.and_eq_true] at hx hy
  refine ⟨?_, ?_, fun j => ?_⟩
  ·simp only [PV.plainE, PV.known, Bool.true_and, List.all_eq_true]
   intro z hz
   have hz : z ∈ y.cells.take o ++ x.cells ++ y.cells.drop (o + x.cells.length) := hz
   rcases List.mem_append.1 hz with hz | hz
   ·rcases List.mem_append.1 hz with hz | hz
    ·exact List.all_eq_true.1 hy.2 _ (List.mem_of_mem_take hz)
    ·exact List.all_eq_true.1 hx.2 _ hz
   ·exact List.all_eq_true.1 hy.2 _ (List.mem_of_mem_drop hz)
  ·exact (replace_len (by omega)).trans hyk
  ·exact splice_get (by omega) j
theorem upO_buf {b n : Nat} {o : HObj} {e : TypeId} {v : Nat} {xs : List PV} (h : upO b n o = .buf e v xs) : o = .buf e v xs := by
 unfold upO at h
 split at h
 ·cases h
 ·exact h
theorem elt_cells {E' : Env} {vs us : List Value} {xs : List PV} {y' q : PV} {k J o i : Nat} (hi : i = J * k + o) (ho : o + us.length ≤ k) (hJ : J < xs.length) (hvl : vs.length = xs.length * k) (hxk : ∀ p (h : p < xs.length), xs[p].cells.length = k)
  (hxe : ∀ p (h1 : p < xs.length), ∀ j (hj : j < xs[p].cells.length), ∃ u, vs[p * k + j]? = some u ∧ Enc E xs[p].cells[j] u) (he : ∀ z u, Enc E z u → Enc E' z u) (hq : q.cells.length = us.length) (hqe : ∀ j (h1 : j < q.cells.length) (h2 : j < us.length), Enc E q.cells[j] us[j])
  (hput : ∀ j, y'.cells[j]? = if o ≤ j ∧ j < o + q.cells.length then q.cells[j - o]? else xs[J].cells[j]?) (p : Nat) (h1 : p < xs.length) (jj : Nat) (z : PV) (hz : (if J = p then y' else xs[p]).cells[jj]? = some z) :
  ∃ u, (vs.take i ++ us ++ vs.drop (i + us.length))[p * k + jj]? = some u ∧ Enc E' z u := by
 have hJk : J * k + k ≤ xs.length * k := by
  have := Nat.mul_le_mul_right k hJ
  rwa [Nat.succ_mul] at this
 rw [splice_get (by omega)]
 by_cases hpj : J = p
 ·subst hpj
  rw [if_pos rfl, hput] at hz
  by_cases hin : o ≤ jj ∧ jj < o + q.cells.length
  ·rw [if_pos hin] at hz
   rw [if_pos (by omega)]
   have e1 : J * k + jj - i = jj - o := by omega
   rw [e1]
   have h5 : jj - o < q.cells.length := by omega
   have h6 : jj - o < us.length := by omega
   rw [List.getElem?_eq_getElem h5] at hz
   obtain rfl := Option.some.inj hz
   exact ⟨us[jj - o], List.getElem?_eq_getElem h6, he _ _ (hqe _ h5 h6)⟩
  ·rw [if_neg hin] at hz
   rw [if_neg (by omega)]
   obtain ⟨hlt, rfl⟩ := List.getElem?_eq_some_iff.1 hz
   obtain ⟨u, hu, eu⟩ := hxe _ hJ jj hlt
   exact ⟨u, hu, he _ _ eu⟩
 ·rw [if_neg hpj] at hz
  obtain ⟨hlt, rfl⟩ := List.getElem?_eq_some_iff.1 hz
  have hkk := hxk p h1
  have hout : ¬ (i ≤ p * k + jj ∧ p * k + jj < i + us.length) := by
   rcases Nat.lt_or_gt_of_ne hpj with hlt2 | hlt2
   ·have := Nat.mul_le_mul_right k hlt2
    rw [Nat.succ_mul] at this
    omega
   ·have := Nat.mul_le_mul_right k hlt2
    rw [Nat.succ_mul] at this
    omega
  rw [if_neg hout]
  obtain ⟨u, hu, eu⟩ := hxe p h1 jj hlt
  exact ⟨u, hu, he _ _ eu⟩
theorem elt_ok (h : Rel P T w0 V E s a) {o : Oper} {t : TypeId} {x y : Operand} (hop : o.op = .store t x y) {b ver J k0 o' : Nat} {cs : List PV} (hp : s.ρ x = .eptr b ver J k0 o' cs) {K : St → Option PV} {r : PV} (hd : denElt P t b ver J k0 o' (s.ρ y) s o.dst K = some r)
  {next : Act → World → Prop} {Q : Exit → Act → World → Prop} (hn : ∀ E' s' a', Rel P T w0 V E' s' a' → K s' = some r → next a' E'.w) : o.wp P a E.w next Q := by
 obtain ⟨odst, oop, otype, opos, oafter, oguard⟩ := o
 dsimp only at hop
 subst hop
 unfold denElt at hd
 split at hd
 ·rename_i e0 ver' xs hb
  split at hd
  ·rename_i hc
   obtain ⟨rfl, rfl, c0, c1, c2, c3⟩ := hc
   split at hd
   case isFalse => cases hd
   rename_i c4
   have hpe := h.ρ x
   rw [hp] at hpe
   generalize hpv : a.eval x = pv at hpe
   obtain ⟨blk, g, rfl, hbn, hver, hown, hblk, _⟩ := eptr_cur h.heap hpe hb
   have hy := h.ρ y
   generalize hyv : a.eval y = v at hy
   generalize s.ρ y = q at hd c1 c2 c3 hy
   obtain ⟨ie, hie⟩ : ∃ ie, P.info? t = some ie := by
    unfold sizeT at c0
    split at c0
    ·exact ⟨_, by assumption⟩
    ·omega
   have hs0 : sizeT P t = ie.size := by unfold sizeT; rw [hie]
   have hpl := c1
   simp only [PV.plainE, Bool.and_eq_true] at hpl
   obtain ⟨k1, k2⟩ := hy.known_cells hpl.1
   have hob := h.heap.obj b _ hb
   subst hver
   generalize hvv : E.ver b = vb at hob
   cases hob with
   | buf ho hw hk h0 hx hxe =>
    rename_i k vs
    subst hk
    rw [hown] at ho
    have hlen := hw.form.1
    have hj : J * sizeT P e0 + sizeT P e0 ≤ xs.length * sizeT P e0 := by
     have := Nat.mul_le_mul_right (sizeT P e0) c4
     rw [Nat.succ_mul] at this
     exact this
    have hul : v.cells.toList.length = sizeT P t := by simp; omega
    have hone : ∀ u ∈ v.cells.toList, u.oneCell' = true := by
     intro u hu
     obtain ⟨p, hp1, rfl⟩ := List.getElem_of_mem hu
     have hp2 : p < v.cells.size := by simpa using hp1
     have := (k2 p (by omega) hp2).oneCell (plain_one (List.all_eq_true.1 hpl.2 _ (List.getElem_mem (by omega))))
     simpa using this
    obtain ⟨cur, hrun, hrow⟩ := hw.put (us := v.cells.toList) (i := J * sizeT P e0 + o') ho.symm (by omega) hone
    have hx' := bump_ext h.heap hbn hown cur
    have hst : (Instr.storeAt t (.pointer (some ⟨blk, J * sizeT P e0 + o', none⟩)) v).run P E.w = .ok () (E.w.setRow blk cur) := by
     show (storeVar t ⟨blk, J * sizeT P e0 + o', none⟩ v).run P E.w = _
     unfold storeVar
     have hne : ¬ (v.cells.size ≠ ie.size) := by omega
     rw [Sem.run_bind, run_size hie, Result.andThen_ok]
     simp only [if_neg hne]
     exact hrun
    refine upon_mem (v := undef) (w' := E.w.setRow blk cur) (.inr ⟨?_, rfl⟩) ?_
    ·show (do Instr.storeAt t (a.eval x) (a.eval y); pure Next.skip : Sem Next).run P E.w = _
     rw [hpv, hyv, Sem.run_bind, hst]
     rfl
    ·have hbl : b < s.h.length := (List.getElem?_eq_some_iff.1 hb).1
     have hge : xs.getD (J) .top = xs[J] := by simp [c4]
     rw [hge] at hd
     have hpu := putE_ok (k := sizeT P e0) (o := o') (hx _ c4).1 (hx _ c4).2 c1 (by omega)
     have hblkb : w0.heap.size ≤ blk := (hw.lt blk ho.symm).1
     have hrel : Rel P T w0 V (E.bump b (E.w.setRow blk cur)) ⟨s.fr.map (upPV b (E.ver b)), (s.h.map (upO b (E.ver b))).set b (.buf e0 (E.ver b + 1) (xs.set (J) (putE xs[J] (sizeT P e0) (o') q))), s.m⟩ a := by
      refine ⟨⟨by show E.n = _; rw [h.heap.n]; simp, fun b' o' ho' => ?_, h.heap.apart, Nat.le_trans h.heap.low hx'.size, fun c hc => ⟨Nat.lt_of_lt_of_le (h.heap.below c hc).1 hx'.size, (h.heap.below c hc).2⟩⟩, by show (s.fr.map _).length = _; rw [List.length_map]; exact h.len, fun j h1 h2 => ?_, h.below.trans (below_setRow (Below.refl _ _) hblkb cur), h.defers, h.V, h.T, h.hand.ext hx'⟩
      ·by_cases hbb : b' = b
       ·subst hbb
        rw [List.getElem?_set_self (by simpa using hbl)] at ho'
        obtain rfl := Option.some.inj ho'
        have ev : (E.bump b' (E.w.setRow blk cur)).ver b' = E.ver b' + 1 := if_pos rfl
        have := ObjOk.buf (P := P) (E := E.bump b' (E.w.setRow blk cur)) (base := w0.heap.size) (b := b') (k := sizeT P e0) (xs := xs.set (J) (putE xs[J] (sizeT P e0) (o') q)) (vs := vs.take (J * sizeT P e0 + o') ++ v.cells.toList ++ vs.drop (J * sizeT P e0 + o' + v.cells.toList.length)) (e := e0)
         (by show E.own b' = _; rw [hown]; exact ho) (by rw [List.length_set]; exact hrow) rfl h0 (fun p h1 => by
          rw [List.getElem_set]
          split
          ·exact ⟨hpu.1, hpu.2.1⟩
          ·exact hx p (by simpa using h1)) (fun p h1 jj hjj => by
          rw [List.length_set] at h1
          refine elt_cells (E := E) (q := q) (J := J) (o := o') (k := sizeT P e0) rfl (by rw [hul]; exact c3) c4 hlen (fun p hp => (hx p hp).2) hxe (fun z u hz => hz.ext hx') (by rw [hul]; exact c2) (fun j g1 g2 => ?_) hpu.2.2 p h1 jj _ ?_
          ·have := k2 j g1 (by rw [← k1]; exact g1)
           rwa [Array.getElem_toList]
          ·rw [← List.getElem_set (h := by rw [List.length_set]; exact h1)]
           exact List.getElem?_eq_getElem hjj)
        rw [ev] at this
        exact this
       ·rw [List.getElem?_set_ne (by omega), List.getElem?_map] at ho'
        obtain ⟨o0, h1, h2⟩ := Option.map_eq_some_iff.1 ho'
        have hob' := h.heap.obj b' o0 h1
        have hb'n : b' < E.n := by have := (List.getElem?_eq_some_iff.1 h1).1; have := h.heap.n; omega
        have hev : (E.bump b (E.w.setRow blk cur)).ver b' = E.ver b' := if_neg hbb
        have hsame : ∀ c, E.own b' = some c → (E.w.setRow blk cur).heap[c]? = E.w.heap[c]? := fun c hc => setRow_other E.w blk c cur fun e => by
         subst e
         exact hbb (h.heap.apart b' b _ hb'n hbn hc hown)
        cases o0 with
        | cells t0 cs0 =>
         subst h2
         cases hob' with
         | cells g1 g2 g3 g4 g5 =>
          refine .cells g1 g2 ((hsame _ g1).trans g3) (by simpa using g4) fun p p1 p2 => ?_
          simp only [List.getElem_map]
          exact upC_enc hx' rfl (g5 p (by simpa using p1) p2)
        | buf e1 v1 xs1 =>
         subst h2
         exact hob'.keep hx' rfl rfl rfl hev hsame
        | gone =>
         subst h2
         exact hob'.keep hx' rfl rfl rfl hev hsame
      ·have h3 : j < s.fr.length := by have : j < (s.fr.map (upPV b (E.ver b))).length := h1; simpa using this
       have h4 : j < (s.fr.map (upPV b (E.ver b))).length := h1
       have e : (s.fr.map (upPV b (E.ver b)))[j]'h4 = upPV b (E.ver b) s.fr[j] := List.getElem_map ..
       exact (show Enc _ ((s.fr.map (upPV b (E.ver b)))[j]'h4) _ from by rw [e]; exact upPV_enc hx' rfl (h.fr j h3 h2))
     exact hn _ _ _ (hrel.same .top odst) hd
  ·cases hd
 ·cases hd
theorem conv_ok (h : Rel P T w0 V E s a) {o : Oper} {src dst e : TypeId} {x : Operand} (hop : o.op = .convert src dst x) (h1 : P.underlying src = some .string) (h2 : P.underlying dst = some (.slice e)) (h3 : isByteT P e = true) {K : St → Option PV} {r : PV} (hd : denConv P (s.ρ x) s o.dst K = some r)
  {next : Act → World → Prop} {Q : Exit → Act → World → Prop} (hn : ∀ E' s' a', Rel P T w0 V E' s' a' → K s' = some r → next a' E'.w) : o.wp P a E.w next Q := by
 obtain ⟨odst, oop, otype, opos, oafter, oguard⟩ := o
 dsimp only at hop
 subst hop
 unfold denConv at hd
 split at hd
 ·rename_i str hx
  split at hd
  ·rename_i hm
   have he : P.underlying e = some (.int .u8) := by
    unfold isByteT at h3
    split at h3
    ·assumption
    ·cases h3
   have hv : a.eval x = .string str := by
    have := h.ρ x
    rw [hx] at this
    exact this.sc_iff
   have hrun := run_bytes_of_string (P := P) E.w src dst e str h1 h2 he
   generalize hcap : grownCap E.w str.size 0 e = cap at hrun
   have hge : str.size ≤ cap := by rw [← hcap]; exact grownCap_ge _ _ _ _
   have hsz : (bytesRow str cap).size = cap := by
    have : str.data.size = str.size := rfl
    simp only [bytesRow, Array.size_append, Array.size_map, Array.size_replicate]
    omega
   generalize hrow : bytesRow str cap = row at hrun hsz
   have hvs : (str.data.toList.map fun b => Value.int .u8 b.toNat).length = str.size := by
    rw [List.length_map]; rfl
   have hown : rowIn P (E.w.drew.alloc (.cells row e (row.size, row.size + 1))) w0.heap.size (markOf P) 1 (.slice (some ⟨E.w.heap.size, 0, none⟩) str.size cap) str.size (str.data.toList.map fun b => Value.int .u8 b.toNat) := by
    refine .inr ⟨hm.1, by rw [hvs, Nat.mul_one], E.w.heap.size, cap, row, e, (row.size, row.size + 1), rfl, h.heap.low, heap_alloc_new E.w.drew _, Nat.le_refl _, hge, by omega, ?_⟩
    rw [← hrow]
    simp only [bytesRow, Array.toList_append, Array.toList_map, Nat.mul_one]
    rw [List.take_append_of_le_length (by rw [hvs]; exact Nat.le_refl _), List.take_of_length_le (by rw [hvs]; exact Nat.le_refl _)]
   have hsl := strB_len str
   have hg : E.w.grownBy (E.w.drew.alloc (.cells row e (row.size, row.size + 1))) none :=
    ⟨rfl, rfl, rfl, by simp, fun k hk _ => Below.heap_alloc E.w.drew _ k hk⟩
   have hnl := h.heap.n
   rw [← hsl] at hown
   obtain ⟨b1, b2, b3⟩ := setBuf_ok (h' := s.h ++ [.buf (markOf P) 0 (strB str)]) h.heap (n := E.n + 1) (b := E.n) (.inr ⟨rfl, rfl⟩) (nv := 0) (row := none) hg (fun c hc => by cases hc) hown (.inr (.inl rfl)) (by simp [hnl]) (fun c hc => by
     rcases Nat.lt_or_ge c s.h.length with hl | hl
     ·exact List.getElem?_append_left hl
     ·rw [List.getElem?_eq_none (by rw [List.length_append, List.length_singleton]; omega), List.getElem?_eq_none hl]) (by rw [hnl]; simp) (fun hlt => absurd hlt (Nat.lt_irrefl _)) hm.2 (by decide) (fun q hq => by
     unfold strB at hq ⊢
     simp only [List.getElem_map]
     exact ⟨rfl, rfl⟩) (fun q hq j hj => by
     have hq2 : q < str.data.toList.length := by unfold strB at hq; simpa using hq
     have hc : (strB str)[q] = .sc (.int .u8 (str.data.toList[q].toNat : Int)) := by simp only [strB, List.getElem_map]
     have hj0 : j = 0 := by
      rw [hc] at hj
      have : j < 1 := hj
      omega
     subst hj0
     refine ⟨.int .u8 (str.data.toList[q].toNat : Int), by rw [Nat.mul_one, Nat.add_zero, List.getElem?_map, List.getElem?_eq_getElem hq2]; rfl, ?_⟩
     have : (strB str)[q].cells[0] = .sc (.int .u8 (str.data.toList[q].toNat : Int)) := by simp only [hc]; rfl
     rw [this]
     exact .sc rfl)
   refine upon_mem (v := .slice (some ⟨E.w.heap.size, 0, none⟩) str.size cap) (w' := E.w.drew.alloc (.cells row e (row.size, row.size + 1))) (.inl ?_) ?_
   ·exact exec_v (s := convert src dst (a.eval x)) (by rw [hv]; exact hrun)
   ·refine hn _ _ _ (h.step b1 b2 b3 ?_ odst) hd
    refine .buf (by show s.h.length < E.n + 1; omega) ?_ rfl fun _ => ?_
    ·show 0 ≤ _; exact Nat.zero_le _
    ·show _ = (if s.h.length = E.n then _ else _)
     rw [if_pos hnl.symm, hsl]
  ·cases hd
 ·cases hd
theorem memO_ok (h : Rel P T w0 V E s a) {o : Oper} (hm : memOp P s o = true) {K : St → Option PV} {r : PV} (hd : denMem P o s K = some r)
  {next : Act → World → Prop} {Q : Exit → Act → World → Prop} (hn : ∀ E' s' a', Rel P T w0 V E' s' a' → K s' = some r → next a' E'.w) : o.wp P a E.w next Q := by
 unfold denMem at hd
 unfold memOp at hm
 split at hd
 ·rename_i t x y hop
  split at hd
  ·rename_i b ver J k0 q cs hp
   exact elt_ok h hop hp hd hn
  ·cases hd
 ·rename_i src dst x hop
  rw [hop] at hm
  dsimp only at hm
  split at hm
  ·rename_i e h1 h2
   exact conv_ok h hop h1 h2 hm hd hn
  ·cases hm
 ·cases hd
end
end Go.Den
