/- Operations that only read do what the plain reading says, in every world in which what was there is as it was. -/
import Derived.Test.YtkhbkbkambflbaaGreatDoorDenH
import Derived.Laws.Cells
import Derived.Laws.Entries
import Derived.Laws.BytesString
import Derived.Deep.MidRow
namespace Go.Den
open Go
section
variable {P : Program}

structure HeapOk (P : Program) (E : Env) (base : Nat) (h : Heap) : Prop where
 n : E.n = h.length
 obj : ∀ b o, h[b]? = some o → ObjOk P E base b o
 apart : ∀ b b' c, b < E.n → b' < E.n → E.own b = some c → E.own b' = some c → b = b'
 low : base ≤ E.w.heap.size
 below : ∀ c, E.V c → c < E.w.heap.size ∧ ∀ b, b < E.n → E.own b ≠ some c
/-- What was there is as it was, but for what stands in W and what others may write. -/
def Keep (E : Env) (W : List Nat) (w : World) : Prop := ∀ c, c < E.w.heap.size → ¬ E.V c → (∀ b, b ∈ W → b < E.n → E.own b ≠ some c) → w.heap[c]? = E.w.heap[c]?
theorem Keep.refl (E : Env) (W : List Nat) : Keep E W E.w := fun _ _ _ _ => rfl
theorem Keep.cell {E : Env} {W : List Nat} {w : World} (k : Keep E W w) {b o : Nat} {v : Value} (hv : ¬ E.V b) (hw : ∀ b', b' ∈ W → b' < E.n → E.own b' ≠ some b) (h : E.w.cell? ⟨b, o, none⟩ = some v) : w.cell? ⟨b, o, none⟩ = some v :=
 (World.cell?_of_block (k b (World.block_lt_of_cell? E.w ⟨b, o, none⟩ h) hv hw)).trans h

theorem ofC_enc (E : Env) (v : Value) : Enc E (ofC v) v := by
 unfold ofC
 split
 ·exact .sc (by assumption)
 ·split
  ·exact .nils
  ·exact .top
theorem ofV_enc (E : Env) (v : Value) : Enc E (ofV v) v := by
 unfold ofV
 split
 ·refine .agg (by simp) fun i h1 h2 => ?_
  simp only [List.getElem_map, Array.getElem_toList]
  exact ofC_enc E _
 ·exact ofC_enc E _
theorem single_get {E : Env} {x : PV} {v : Value} (h : Enc E x v) {l : List PV} {a : Array Value} (hl : l = [x]) (ha : a = #[v]) : l.length = a.size ∧ ∀ (i : Nat) (h1 : i < l.length) (h2 : i < a.size), Enc E l[i] a[i] := by
 subst hl
 subst ha
 refine ⟨rfl, fun i h1 h2 => ?_⟩
 obtain rfl : i = 0 := by simpa using h1
 exact h
theorem ofC_one (v : Value) : (ofC v).cells = [ofC v] := by
 unfold ofC
 split
 ·rfl
 ·split <;> rfl
theorem ofV_cells (E : Env) (v : Value) : (ofV v).cells.length = v.cells.size ∧ ∀ (i : Nat) (h1 : i < (ofV v).cells.length) (h2 : i < v.cells.size), Enc E (ofV v).cells[i] v.cells[i] := by
 cases v with
 | agg cs =>
  have h := ofV_enc E (.agg cs)
  generalize hv : Value.agg cs = v at *
  subst hv
  cases h with
  | agg hl h => exact ⟨hl, h⟩
 | _ => exact single_get (ofC_enc E _) (ofC_one _) rfl
theorem behind_ok {E : Env} {base : Nat} {h : Heap} (hs : HeapOk P E base h) {p : PV} {v : Value} (he : Enc E p v) {cs : List PV} (hb : behind h p = some cs) :
  ∃ b off, v = .pointer (some ⟨b, off, none⟩) ∧ ¬ E.V b ∧ (∀ W : List Nat, freeOf W p = true → ∀ b', b' ∈ W → b' < E.n → E.own b' ≠ some b) ∧ ∃ g : Nat → Value, ∀ j (hj : j < cs.length), E.w.cell? ⟨b, off + j, none⟩ = some (g j) ∧ Enc E cs[j] (g j) := by
 cases he with
 | ptr hn =>
  rename_i b off
  simp only [behind] at hb
  split at hb
  ·rename_i cs0 ho
   obtain rfl := Option.some.inj hb
   cases hs.obj _ _ ho with
   | cells hown hba hh hl hx =>
    rename_i arr
    refine ⟨_, _, rfl, fun hv => (hs.below _ hv).2 _ hn hown, fun W hW b' hb' hn' e => ?_, fun j => arr.getD (off + j) undef, fun j hj => ?_⟩
    ·have := hs.apart b' b _ hn' hn e hown
     subst this
     simp [freeOf, hb'] at hW
    have h1 : off + j < cs0.length := by rw [List.length_drop] at hj; omega
    have h2 : off + j < arr.size := by omega
    have := hx (off + j) h1 h2
    simp only [List.getElem_drop]
    have e : arr.getD (off + j) undef = arr[off + j] := by simp [h2]
    rw [e]
    refine ⟨?_, this⟩
    simp [World.cell?, hh, h2]
  ·cases hb
 | iptr hb2 hu hc hx =>
  obtain rfl := Option.some.inj hb
  exact ⟨_, _, rfl, fun hv => hu (.inl hv), fun W hW b' hb' hn' e => hu (.inr ⟨b', hn', e⟩), _, fun j hj => ⟨hc j hj, hx j hj⟩⟩
 | eold hb2 hv h1 =>
  simp only [behind] at hb
  split at hb
  ·rename_i ho
   split at hb
   ·rename_i e
    have hob := hs.obj _ _ ho
    cases hob
    omega
   ·cases hb
  ·cases hb
 | eptr hb2 hv ho2 hs2 hc hx =>
  simp only [behind] at hb
  split at hb
  ·split at hb
   ·obtain rfl := Option.some.inj hb
    exact ⟨_, _, rfl, fun hv => (hs.below _ hv).2 _ hb2 ho2, fun W hW b' hb' hn' e => (by
     have := hs.apart b' _ _ hn' hb2 e ho2
     subst this
     simp [freeOf, hb'] at hW), _, fun j hj => ⟨hc j hj, hx j hj⟩⟩
   ·cases hb
  ·cases hb
 | _ => cases hb
theorem run_isAggD {t : TypeId} {d : TypeDesc} (h : P.underlying t = some d) (w : World) : (isAgg t).run P w = .ok (isAggD d) w := by
 unfold isAgg isAggD
 rw [Sem.run_bind, run_underlying h]
 cases d <;> rfl
theorem run_size {t : TypeId} {i : TypeInfo} (h : P.info? t = some i) (w : World) : (sizeOf t).run P w = .ok i.size w := by
 unfold sizeOf typeInfo
 simp [h]
/-- A variable is read. -/
theorem readVar_run {E : Env} {t : TypeId} {b off : Nat} (hv : ¬ E.V b) {cs : List PV} {g : Nat → Value} (hc : ∀ j (hj : j < cs.length), E.w.cell? ⟨b, off + j, none⟩ = some (g j) ∧ Enc E cs[j] (g j)) {x : PV} (hr : readVar P t cs = some x) :
  ∃ v, (∀ W, (∀ b', b' ∈ W → b' < E.n → E.own b' ≠ some b) → ∀ w, Keep E W w → (loadVar t ⟨b, off, none⟩).run P w = .ok v w) ∧ Enc E x v := by
 unfold readVar at hr
 split at hr
 ·rename_i i d hi hd
  by_cases ha : isAggD d = true
  ·rw [if_pos ha] at hr
   by_cases hl : i.size ≤ cs.length
   ·rw [if_pos hl] at hr
    obtain rfl := Option.some.inj hr
    refine ⟨.agg ((List.range i.size).map g).toArray, fun W hW w hk => ?_, ?_⟩
    ·unfold loadVar
     rw [Sem.run_bind, run_isAggD hd, Result.andThen_ok, if_pos ha, Sem.run_bind, run_size hi, Result.andThen_ok, Sem.run_bind,
      run_loadCells w ⟨b, off, none⟩ i.size g (fun j hj => by rw [Addr.add_lit]; exact hk.cell hv hW (hc j (by omega)).1)]
     rfl
    ·refine .agg (by simp; omega) fun j h1 h2 => ?_
     simp only [List.getElem_take, List.getElem_toArray, List.getElem_map, List.getElem_range]
     exact (hc j _).2
   ·rw [if_neg hl] at hr; cases hr
  ·rw [if_neg ha] at hr
   obtain ⟨h0, e⟩ := List.getElem?_eq_some_iff.1 hr
   subst e
   refine ⟨g 0, fun W hW w hk => ?_, (hc 0 h0).2⟩
   unfold loadVar
   rw [Sem.run_bind, run_isAggD hd, Result.andThen_ok, if_neg ha, run_load, hk.cell (b := b) (o := off) (v := g 0) hv hW (hc 0 h0).1]
 ·cases hr
/-- A part of a struct or an array, by value. -/
theorem part_run {E : Env} {t : TypeId} {cs : List PV} {vs : Array Value} (hl : cs.length = vs.size) (he : ∀ (i : Nat) (h1 : i < cs.length) (h2 : i < vs.size), Enc E cs[i] vs[i]) {off : Nat} {x : PV} (hr : readVar P t (cs.drop off) = some x) :
  ∃ v, (∀ w, (part t vs off).run P w = .ok v w) ∧ Enc E x v := by
 unfold readVar at hr
 split at hr
 ·rename_i i d hi hd
  by_cases ha : isAggD d = true
  ·rw [if_pos ha] at hr
   by_cases hle : i.size ≤ (cs.drop off).length
   ·rw [if_pos hle] at hr
    obtain rfl := Option.some.inj hr
    rw [List.length_drop] at hle
    refine ⟨.agg (vs.extract off (off + i.size)), fun w => ?_, ?_⟩
    ·unfold part
     rw [Sem.run_bind, run_isAggD hd, Result.andThen_ok, if_pos ha, Sem.run_bind, run_size hi]
     rfl
    ·refine .agg (by simp; omega) fun j h1 h2 => ?_
     simp only [List.getElem_take, List.getElem_drop, Array.getElem_extract]
     exact he _ _ _
   ·rw [if_neg hle] at hr; cases hr
  ·rw [if_neg ha] at hr
   rw [List.getElem?_drop] at hr
   obtain ⟨h0, e⟩ := List.getElem?_eq_some_iff.1 hr
   subst e
   have h2 : off < vs.size := by omega
   refine ⟨vs[off], fun w => ?_, he _ _ _⟩
   unfold part
   rw [Sem.run_bind, run_isAggD hd, Result.andThen_ok, if_neg ha, Array.getElem?_eq_getElem h2]
   rfl
 ·cases hr
open Go.RowKit
/-- A world alone: nothing that a call has made. -/
def bare (w : World) (V : Nat → Prop) : Env := { w := w, n := 0, own := fun _ => none, blk := fun _ => 0, hdr := fun _ => undef, ver := fun _ => 0, V := V }
theorem bare_U {w : World} {V : Nat → Prop} {c : Nat} (h : (bare w V).U c) : V c := by
 rcases h with h | ⟨b, hb, _⟩
 ·exact h
 ·exact absurd hb (Nat.not_lt_zero _)
theorem Enc.plain_env {E E2 : Env} (hw : E2.w = E.w) (hU : ∀ c, ¬ E.U c → ¬ E2.U c) {x : PV} {v : Value} (h : Enc E x v) : x.plain = true → Enc E2 x v := by
 induction h with
 | sc h => exact fun _ => .sc h
 | nils => exact fun _ => .nils
 | lst0 => exact fun _ => .lst0
 | lst hn hb hu hk hp hc hx ih =>
  intro _
  refine .lst hn (by rw [hw]; exact hb) (hU _ hu) hk hp (fun i hi j hj => by rw [hw]; exact hc i hi j hj) fun i hi j hj => ih i hi j hj ?_
  have := hp i hi
  simp only [PV.plainE, Bool.and_eq_true] at this
  exact List.all_eq_true.1 this.2 _ (List.getElem_mem hj)
 | _ => intro h; cases h
theorem plainE_cases {x : PV} (h : x.plainE = true) : x.plain = true ∨ ∃ cs, x = .agg cs ∧ cs.all PV.plain = true := by
 cases x with
 | agg cs => exact .inr ⟨cs, rfl, by simpa [PV.plainE, PV.known, PV.cells] using h⟩
 | sc v => exact .inl rfl
 | lst k n f => exact .inl rfl
 | nils => exact .inl rfl
 | _ => simp [PV.plainE, PV.known, PV.cells, PV.plain] at h
theorem Enc.plainE_env {E E2 : Env} (hw : E2.w = E.w) (hU : ∀ c, ¬ E.U c → ¬ E2.U c) {x : PV} {v : Value} (h : Enc E x v) (hp : x.plainE = true) : Enc E2 x v := by
 rcases plainE_cases hp with h1 | ⟨cs, rfl, h1⟩
 ·exact h.plain_env hw hU h1
 ·cases h with
  | agg hl hx => exact .agg hl fun i a b => (hx i a b).plain_env hw hU (List.all_eq_true.1 h1 _ (List.getElem_mem a))
/-- What a slice that is being built holds, as a plain list. -/
theorem frozen_enc {E : Env} {base : Nat} {b k ver : Nat} {e0 : TypeId} {xs : List PV} (ho : ObjOk P E base b (.buf e0 ver xs)) (hk0 : sizeT P e0 = k) {E2 : Env} (hw : E2.w = E.w) (hU : ∀ c, ¬ E.U c → ¬ E2.U c) (hb : ∀ c, E.own b = some c → ¬ E2.U c) :
  ver = E.ver b ∧ Enc E2 (frozen k xs) (E.hdr b) := by
 cases ho with
 | buf ho hw0 hk h0 hx h =>
  rename_i k2 vs
  obtain rfl : k = k2 := hk0.symm.trans hk
  refine ⟨rfl, ?_⟩
  have hr : ∀ i (hi : i < xs.length), (xs.getD i .top) = xs[i] := fun i hi => by simp [hi]
  unfold frozen
  obtain ⟨hlen, hf⟩ := hw0.form
  rcases hf with ⟨e1, e2⟩ | ⟨g, cap, e1, e4, e3, ecell⟩
  ·rw [e1, e2]
   exact .lst0
  ·rw [e1]
   rw [e1] at ho
   have hg : ¬ E2.U g := hb g ho
   refine .lst (g := fun i j => vs.getD (i * k + j) undef) e4 (by rw [hw]; exact e3) hg (fun i hi => ?_) (fun i hi => ?_) (fun i hi j hj => ?_) fun i hi j hj => ?_
   ·rw [hr i hi]
    exact (hx i hi).2
   ·rw [hr i hi]
    exact (hx i hi).1
   ·have hlt : i * k + j < xs.length * k := by
     have : (i + 1) * k ≤ xs.length * k := Nat.mul_le_mul_right k hi
     rw [Nat.add_mul] at this
     omega
    rw [hw, Nat.zero_add]
    exact ecell _ _ (by simp [hlen, hlt])
   ·simp only [hr i hi] at hj ⊢
    obtain ⟨u, hu, eu⟩ := h i hi j hj
    have hpl := (hx i hi).1
    have hpc : (xs[i].cells[j]).plain = true := by
     simp only [PV.plainE, Bool.and_eq_true] at hpl
     exact List.all_eq_true.1 hpl.2 _ (List.getElem_mem hj)
    have e9 : vs.getD (i * k + j) undef = u := by simp [hu]
    rw [e9]
    exact eu.plain_env hw hU hpc
theorem bytes_push : ∀ (ns : List Int) (s : ByteArray), ns.foldl (fun r n => r.push (UInt8.ofNat n.toNat)) s = ⟨(s.data.toList ++ ns.map fun n => UInt8.ofNat n.toNat).toArray⟩
 | [], s => by simp
 | n :: ns, s => by
  rw [List.foldl_cons, bytes_push ns]
  simp [ByteArray.push]
/-- Bytes as a text. -/
theorem lst_bytes {E : Env} {n : Nat} {f : Nat → PV} {v : Value} (he : Enc E (.lst 1 n f) v) {w : World} (hk : ∀ c, c < E.w.heap.size → ¬ E.U c → w.heap[c]? = E.w.heap[c]?) (hf : ((List.range n).map f).all (hasSh (.int .u8)) = true) :
  (Conv.bytesToString v).run P w = .ok (.string (bytesOf ((List.range n).map f))) w := by
 have hi : ∀ i, i < n → ∃ m, f i = .sc (.int .u8 m) := fun i hi => by
  have := List.all_eq_true.1 hf (f i) (List.mem_map.2 ⟨i, List.mem_range.2 hi, rfl⟩)
  rw [hasSh] at this
  cases e : f i with
  | sc u =>
   rw [e] at this
   cases u with
   | int k m => simp [PV.isInt] at this; rw [this]; exact ⟨m, rfl⟩
   | _ => simp [PV.isInt] at this
  | _ => rw [e] at this; simp [PV.isInt] at this
 have fin : ∀ (a : Addr) (cap : Nat), (loadCells a n).run P w = .ok (((List.range n).map fun i => (f i).toInt).map (Value.int .u8)).toArray w → (Conv.bytesToString (.slice (some a) n cap)).run P w = .ok (.string (bytesOf ((List.range n).map f))) w := fun a cap h => by
  rw [run_bytesToString w a n cap _ h, bytes_push]
  unfold bytesOf
  have e : ByteArray.empty.data.toList = [] := rfl
  rw [e, List.nil_append, List.map_map, List.map_map]
  rfl
 cases he with
 | lst0 =>
  rename_i A cap
  cases A with
  | none => rfl
  | some a => exact fin a cap (by rw [run_loadCells w a 0 (fun _ => undef) (fun j hj => absurd hj (Nat.not_lt_zero _))]; rfl)
 | lst hn hb hu hkk hp hc hx =>
  rename_i b off cap g
  refine fin ⟨b, off, none⟩ cap ?_
  rw [run_loadCells w ⟨b, off, none⟩ n (fun i => g i 0) (fun i hin => by
   rw [Addr.add_lit]
   have := hc i hin 0 (by omega)
   rw [Nat.mul_one, Nat.add_zero] at this
   exact (World.cell?_of_block (hk b hb hu)).trans this)]
  congr 2
  rw [List.map_map]
  refine List.map_congr_left fun i hin => ?_
  obtain ⟨m, hm⟩ := hi i (List.mem_range.1 hin)
  have h0 : 0 < (f i).cells.length := by rw [hkk i (List.mem_range.1 hin)]; exact Nat.one_pos
  have := hx i (List.mem_range.1 hin) 0 h0
  simp only [hm, PV.cells, List.getElem_cons_zero] at this
  rw [this.sc_iff]
  simp [hm, PV.toInt]
theorem elems_bytes {E : Env} {base : Nat} {h : Heap} (hs : HeapOk P E base h) {x : PV} {v : Value} (he : Enc E x v) {ys : List PV} (hd : elems P h 1 x = some ys) (hf : ys.all (hasSh (.int .u8)) = true) (W : List Nat) (hW : freeOf W x = true) (w : World) (hk : Keep E W w) :
  (Conv.bytesToString v).run P w = .ok (.string (bytesOf ys)) w := by
 unfold elems at hd
 split at hd
 ·obtain rfl := Option.some.inj hd
  cases he
  rfl
 ·rename_i k' n f
  split at hd
  ·rename_i e
   subst e
   obtain rfl := Option.some.inj hd
   exact lst_bytes he (fun c hc hu => hk c hc (fun hv => hu (.inl hv)) fun b hb hbn ho => hu (.inr ⟨b, hbn, ho⟩)) hf
  ·cases hd
 ·rename_i b ver
  split at hd
  ·rename_i e0 ver' xs hb
   split at hd
   ·rename_i hc
    obtain ⟨rfl, hke⟩ := hc
    obtain rfl := Option.some.inj hd
    cases he with
    | buf hbn hv h1 hh =>
     have hob := hs.obj b _ hb
     obtain ⟨a1, a2⟩ := frozen_enc hob hke (E2 := bare E.w (fun c => E.U c ∧ E.own b ≠ some c)) rfl (fun c hc hu => hc (bare_U hu).1) (fun c hc hu => (bare_U hu).2 hc)
     rw [hh a1]
     have hx : (List.range xs.length).map (fun i => xs.getD i .top) = xs := by
      apply List.ext_getElem
      ·simp
      ·intro i h1 h2; simp [h2]
     have := lst_bytes (P := P) a2 (w := w) (fun c hc hu => ?_) (by rw [hx]; exact hf)
     ·rw [hx] at this; exact this
     ·have hu' : ¬ (E.U c ∧ E.own b ≠ some c) := fun h => hu (.inl h)
      have hcs : c < E.w.heap.size := hc
      by_cases ho : E.own b = some c
      ·refine hk c hcs (fun hv => (hs.below c hv).2 b hbn ho) fun b' hb' hbn' ho' => ?_
       have := hs.apart b' b c hbn' hbn ho' ho
       subst this
       simp [freeOf, hb'] at hW
      ·have hu2 : ¬ E.U c := fun h => hu' ⟨h, ho⟩
       exact hk c hcs (fun hv => hu2 (.inl hv)) fun b' hb' hbn' ho' => hu2 (.inr ⟨b', hbn', ho'⟩)
   ·cases hd
  ·cases hd
 ·cases hd
end
end Go.Den
