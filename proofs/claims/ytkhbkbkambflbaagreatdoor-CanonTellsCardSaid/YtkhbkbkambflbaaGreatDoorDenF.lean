/- Operations that only read: all of them. -/
import Derived.Test.YtkhbkbkambflbaaGreatDoorDenE
namespace Go.Den
set_option linter.unusedSimpArgs false
open Go
set_option linter.unusedVariables false
section
variable {P : Program}

def readOp : Op → Bool
 | .move _ | .assign _ | .pick _ _ _ | .build _ _ | .load _ _ | .nilCheck _ | .binOp _ _ _ _ _ | .unOp _ _ _ | .convert _ _ _ | .makeFunc _ _ _ | .fieldAddr _ _ _ | .field _ _ _ | .indexAddr _ _ _ | .index _ _ _ | .slice _ _ _ _ _ | .extract _ _ => true
 | _ => false
/-- What is shown of one operation that only reads. -/
def ReadOk (P : Program) (E : Env) (ρ : Operand → PV) (ρv : Operand → Value) (o : Oper) (h : Heap) (K : PV → Heap → Option PV) (r : PV) : Prop :=
 ∃ x v, (∀ W, readsOk W ρ o.op = true → ∀ w, Keep E W w → (execOp ρv o).run P w = .ok (.value v) w) ∧ Enc E x v ∧ K x h = some r
theorem fieldPlace_run {b off : Nat} {f : Field} (hf : sizeT P f.type ≠ 0) (w : World) : (fieldPlace ⟨b, off, none⟩ f).run P w = .ok ⟨b, off + f.offset, none⟩ w := by
 unfold sizeT at hf
 split at hf
 ·rename_i i hi
  unfold fieldPlace
  rw [Sem.run_bind, run_size hi, Result.andThen_ok, if_neg hf, Addr.add_lit]
  rfl
 ·exact absurd rfl hf
theorem foldl_set (off : Nat) : ∀ (l : List Value) (k : Nat) (vs : Array Value), ((l.zipIdx k).foldl (fun cs (p : Value × Nat) => cs.setIfInBounds (off + p.2) p.1) vs).size = vs.size ∧
  ∀ i : Nat, ((l.zipIdx k).foldl (fun cs (p : Value × Nat) => cs.setIfInBounds (off + p.2) p.1) vs)[i]? = if i < vs.size ∧ off + k ≤ i ∧ i < off + k + l.length then l[i - (off + k)]? else vs[i]?
 | [], k, vs => ⟨rfl, fun i => by rw [if_neg (by simp only [List.length_nil]; omega)]; rfl⟩
 | v :: l, k, vs => by
  obtain ⟨h1, h2⟩ := foldl_set off l (k + 1) (vs.setIfInBounds (off + k) v)
  rw [Array.size_setIfInBounds] at h1
  refine ⟨h1, fun i => ?_⟩
  simp only [List.zipIdx_cons, List.foldl_cons]
  rw [h2 i, Array.size_setIfInBounds, Array.getElem?_setIfInBounds]
  by_cases hi : off + k = i
  ·subst hi
   rw [if_neg (by omega), if_pos rfl]
   by_cases hs : off + k < vs.size
   ·rw [if_pos hs, if_pos (by simp; omega)]
    simp
   ·rw [if_neg hs, if_neg (by omega), Array.getElem?_eq_none (by omega)]
  ·rw [if_neg hi]
   by_cases hh : i < vs.size ∧ off + (k + 1) ≤ i ∧ i < off + (k + 1) + l.length
   ·rw [if_pos hh, if_pos (by simp; omega)]
    obtain ⟨m, hm⟩ : ∃ m, i - (off + k) = m + 1 := ⟨i - (off + k) - 1, by omega⟩
    rw [hm, List.getElem?_cons_succ, show i - (off + (k + 1)) = m by omega]
   ·rw [if_neg hh, if_neg (by simp; omega)]
theorem replace_len {cs : List PV} {off : Nat} {vs : List PV} (h : off + vs.length ≤ cs.length) : (replace cs off vs).length = cs.length := by
 simp
 omega
theorem replace_get {cs : List PV} {off : Nat} {vs : List PV} (h : off + vs.length ≤ cs.length) (i : Nat) (h1 : i < (replace cs off vs).length) (h2 : i < cs.length) : (replace cs off vs)[i] = if h3 : off ≤ i ∧ i < off + vs.length then vs[i - off] else cs[i] := by
 by_cases a : i < off
 ·rw [dif_neg (by omega), List.getElem_append_left (by simp; omega), List.getElem_append_left (by simp; omega)]
  simp
 ·by_cases b : i < off + vs.length
  ·rw [dif_pos ⟨by omega, b⟩, List.getElem_append_left (by simp; omega), List.getElem_append_right (by simp; omega)]
   congr 1
   simp
   omega
  ·rw [dif_neg (by omega), List.getElem_append_right (by simp; omega)]
   rw [List.getElem_drop]
   congr 1
   simp
   omega
theorem fillP_ok {E : Env} {place : Nat → Option (Nat × Nat)} : ∀ {ps : List (Nat × PV)} {qs : List (Nat × Value)} {cells : List PV} {vs : Array Value} {out : List PV},
  cells.length = vs.size → (∀ (i : Nat) (h1 : i < cells.length) (h2 : i < vs.size), Enc E cells[i] vs[i]) → ps.length = qs.length → (∀ (i : Nat) (h1 : i < ps.length) (h2 : i < qs.length), ps[i].1 = qs[i].1 ∧ Enc E ps[i].2 qs[i].2) →
  fillP place cells ps = some out → ∃ us, Instr.fill place vs qs = some us ∧ out.length = us.size ∧ ∀ (i : Nat) (h1 : i < out.length) (h2 : i < us.size), Enc E out[i] us[i]
 | [], [], cells, vs, out, hl, he, _, _, h => by
  obtain rfl := Option.some.inj h
  exact ⟨vs, rfl, hl, he⟩
 | [], _ :: _, _, _, _, _, _, h, _, _ => by cases h
 | _ :: _, [], _, _, _, _, _, h, _, _ => by cases h
 | (a, x) :: ps, (b, v) :: qs, cells, vs, out, hl, he, hlen, hp, h => by
  obtain ⟨e0, ex⟩ := hp 0 (by simp) (by simp)
  simp only [List.getElem_cons_zero] at e0 ex
  subst e0
  rw [fillP] at h
  split at h
  ·cases h
  ·rename_i off size hpl
   split at h
   ·rename_i hc
    obtain ⟨hc1, hc2, hc3⟩ := hc
    obtain ⟨k1, k2⟩ := ex.known_cells hc3
    obtain ⟨f1, f2⟩ := foldl_set off v.cells.toList 0 vs
    have e1 : (v.cells.zipIdx.foldl (fun cs (p : Value × Nat) => cs.setIfInBounds (off + p.2) p.1) vs) = ((v.cells.toList.zipIdx 0).foldl (fun cs (p : Value × Nat) => cs.setIfInBounds (off + p.2) p.1) vs) := by
     rw [← Array.foldl_toList, Array.toList_zipIdx]
    have hle : off + x.cells.length ≤ cells.length := by omega
    obtain ⟨us, hu, hu2⟩ := fillP_ok (E := E) (place := place) (ps := ps) (qs := qs) (vs := ((v.cells.toList.zipIdx 0).foldl (fun cs (p : Value × Nat) => cs.setIfInBounds (off + p.2) p.1) vs)) (by rw [replace_len hle, f1]; exact hl) (fun i h1 h2 => by
      have h3 : i < cells.length := by rw [replace_len hle] at h1; exact h1
      have h4 : i < vs.size := by omega
      have e := f2 i
      rw [Array.getElem?_eq_getElem h2, Nat.add_zero] at e
      rw [replace_get hle i h1 h3]
      by_cases hh : off ≤ i ∧ i < off + x.cells.length
      ·have h5 : i - off < v.cells.size := by omega
       rw [if_pos ⟨h4, hh.1, by simp; omega⟩, Array.getElem?_toList, Array.getElem?_eq_getElem h5] at e
       rw [dif_pos hh, Option.some.inj e]
       exact k2 (i - off) (by omega) h5
      ·rw [if_neg (by simp; omega), Array.getElem?_eq_getElem h4] at e
       rw [dif_neg hh, Option.some.inj e]
       exact he i h3 h4) (by simpa using hlen) (fun i h1 h2 => by
      have := hp (i + 1) (by simp; omega) (by simp; omega)
      simpa using this) h
    refine ⟨us, ?_, hu2⟩
    rw [Instr.fill, hpl]
    dsimp only
    rw [if_neg (by simp; omega)]
    rw [show (v.cells.zipIdx.foldl (fun cs (c, j) => cs.setIfInBounds (off + j) c) vs) = _ from e1]
    exact hu
   ·cases h
theorem eptr_cur {E : Env} {base : Nat} {h : Heap} (hs : HeapOk P E base h) {b ver j k o : Nat} {cs : List PV} {v : Value} (he : Enc E (.eptr b ver j k o cs) v) {e0 : TypeId} {xs : List PV} (ho : h[b]? = some (.buf e0 ver xs)) :
  ∃ blk, ∃ g : Nat → Value, v = .pointer (some ⟨blk, j * k + o, none⟩) ∧ b < E.n ∧ ver = E.ver b ∧ E.own b = some blk ∧ blk < E.w.heap.size ∧ (∀ i, i < cs.length → E.w.cell? ⟨blk, j * k + o + i, none⟩ = some (g i)) ∧ ∀ i (hj : i < cs.length), Enc E cs[i] (g i) := by
 have hob := hs.obj _ _ ho
 cases he with
 | eold hb hv h1 => cases hob; omega
 | eptr hb hv ho2 hs2 hc hx => exact ⟨_, _, rfl, hb, hv, ho2, hs2, hc, hx⟩

theorem denOp_read {E : Env} {base : Nat} {h : Heap} (hs : HeapOk P E base h) {ρ : Operand → PV} {ρv : Operand → Value} (hρ : ∀ x, Enc E (ρ x) (ρv x)) {o : Oper} (hq : readOp o.op = true) {K : PV → Heap → Option PV} {r : PV}
  (hd : denOp P ρ h o.op K = some r) : ReadOk P E ρ ρv o h K r := by
 obtain ⟨dst, op, type, pos, after, guard⟩ := o
 dsimp only at hq hd
 cases op <;> first | (cases hq; done) | skip
 case move x => exact ⟨_, _, fun _ _ w _ => rfl, hρ x, hd⟩
 case assign x => exact ⟨_, _, fun _ _ w _ => rfl, hρ x, hd⟩
 case pick c a b =>
  simp only [denOp] at hd
  split at hd
  ·rename_i t ht
   have hc : ρv c = .bool t := sc_val (hρ c) ht
   cases t
   ·rw [if_neg (by decide)] at hd
    refine ⟨_, _, fun _ _ w _ => ?_, hρ b, hd⟩
    show (do pure (Next.value (if ← asBool (ρv c) then ρv a else ρv b)) : Sem Next).run P w = _
    rw [hc]; rfl
   ·rw [if_pos rfl] at hd
    refine ⟨_, _, fun _ _ w _ => ?_, hρ a, hd⟩
    show (do pure (Next.value (if ← asBool (ρv c) then ρv a else ρv b)) : Sem Next).run P w = _
    rw [hc]; rfl
  ·cases hd
 case build t ps =>
  simp only [denOp] at hd
  split at hd
  ·rename_i cs hcs
   have key : ∃ us, P.built t ((ps.map fun (p : Nat × Operand) => (p.1, ρv p.2)).toList) = some us ∧ cs.length = us.size ∧ ∀ (i : Nat) (h1 : i < cs.length) (h2 : i < us.size), Enc E cs[i] us[i] := by
    have hps : (ps.toList.map fun p => (p.1, ρ p.2)).length = ((ps.map fun (p : Nat × Operand) => (p.1, ρv p.2)).toList).length := by simp
    have hpe : ∀ (i : Nat) (h1 : i < (ps.toList.map fun p => (p.1, ρ p.2)).length) (h2 : i < ((ps.map fun (p : Nat × Operand) => (p.1, ρv p.2)).toList).length), (ps.toList.map fun p => (p.1, ρ p.2))[i].1 = ((ps.map fun (p : Nat × Operand) => (p.1, ρv p.2)).toList)[i].1 ∧ Enc E (ps.toList.map fun p => (p.1, ρ p.2))[i].2 ((ps.map fun (p : Nat × Operand) => (p.1, ρv p.2)).toList)[i].2 := by
     intro i h1 h2
     simp only [List.getElem_map, Array.getElem_toList, Array.getElem_map, true_and]
     exact hρ _
    unfold buildP at hcs
    unfold Program.built
    split at hcs
    ·rename_i it n e h1 h2
     rw [h1, h2]
     dsimp only
     split at hcs
     ·rename_i z ie h3 h4
      rw [h3, h4]
      obtain ⟨a1, a2⟩ := ofV_cells E z
      exact fillP_ok a1 a2 hps hpe hcs
     ·cases hcs
    ·rename_i it fs h1 h2
     rw [h1, h2]
     dsimp only
     split at hcs
     ·rename_i z pl h3 h4
      rw [h3, h4]
      obtain ⟨a1, a2⟩ := ofV_cells E z
      exact fillP_ok a1 a2 hps hpe hcs
     ·cases hcs
    ·cases hcs
   obtain ⟨us, h1, h2, h3⟩ := key
   exact ⟨_, _, fun _ _ w _ => exec_v (run_build w t _ us h1), .agg h2 h3, hd⟩
  ·cases hd
 case load t a =>
  simp only [denOp] at hd
  split at hd
  ·rename_i cs hcs
   split at hd
   ·rename_i x hx
    obtain ⟨b, off, hv, hV, hW0, g, hg⟩ := behind_ok hs (hρ a) hcs
    obtain ⟨v, hr, he⟩ := readVar_run hV hg hx
    refine ⟨x, v, fun W hW w hk => exec_v (s := Instr.loadAt t (ρv a)) ?_, he, hd⟩
    rw [hv]
    show (loadVar t ⟨b, off, none⟩).run P w = _
    exact hr W (hW0 W hW) w hk
   ·cases hd
  ·cases hd
 case nilCheck x =>
  simp only [denOp] at hd
  split at hd
  ·rename_i b off hx
   have hh := hρ x
   rw [hx] at hh
   have h2 := hh
   generalize hv : ρv x = v at hh
   cases hh
   refine ⟨_, _, fun _ _ w _ => ?_, h2, hd⟩
   unfold execOp
   dsimp only
   rw [hv]
   rfl
  ·rename_i cs hx
   have hh := hρ x
   rw [hx] at hh
   have h2 := hh
   generalize hv : ρv x = v at hh
   cases hh
   refine ⟨_, _, fun _ _ w _ => ?_, h2, hd⟩
   unfold execOp
   dsimp only
   rw [hv]
   rfl
  ·rename_i b ver j k o cs hx
   split at hd
   ·rename_i e0 ver' xs ho
    split at hd
    ·rename_i e
     subst e
     have hh := hρ x
     rw [hx] at hh
     generalize hv : ρv x = v at hh
     have h2 := hh
     obtain ⟨blk, g, rfl, _⟩ := eptr_cur hs hh ho
     refine ⟨_, _, fun _ _ w _ => ?_, h2, hd⟩
     unfold execOp
     dsimp only
     rw [hv]
     rfl
    ·cases hd
   ·cases hd
  ·cases hd
 case binOp op t x y ty =>
  simp only [denOp] at hd
  obtain ⟨z, v, h1, h2, h3⟩ := bin_ok (x := x) (y := y) (hρ x) (hρ y) hd
  exact ⟨z, v, fun _ _ w _ => exec_v (h1 w), h2, h3⟩
 case unOp op t x =>
  simp only [denOp] at hd
  split at hd
  ·rename_i v hv
   unfold denUn at hv
   split at hv
   ·rename_i k n hx
    obtain rfl := Option.some.inj hv
    refine ⟨_, _, fun _ _ w _ => exec_v (s := Op.unary .neg (ρv x)) ?_, .sc (v := .int k (k.wrap (0 - n))) rfl, hd⟩
    rw [sc_val (hρ x) hx]
    rfl
   ·rename_i b hx
    obtain rfl := Option.some.inj hv
    refine ⟨_, _, fun _ _ w _ => exec_v (s := Op.unary .not (ρv x)) ?_, .sc (v := .bool (!b)) rfl, hd⟩
    rw [sc_val (hρ x) hx]
    rfl
   ·cases hv
  ·cases hd
 case convert s d x =>
  simp only [denOp] at hd
  split at hd
  ·rename_i d0 k kk n h1 h2 hx
   refine ⟨_, _, fun _ _ w _ => exec_v (s := convert s d (ρv x)) ?_, .sc (v := .int k (k.wrap n)) rfl, hd⟩
   rw [sc_val (hρ x) hx]
   unfold convert
   rw [Sem.run_bind, run_underlying h1, Result.andThen_ok, Sem.run_bind, run_underlying h2, Result.andThen_ok]
   rfl
  ·rename_i b h1 h2 hx
   refine ⟨_, _, fun _ _ w _ => exec_v (s := convert s d (ρv x)) ?_, .sc (v := .string b) rfl, hd⟩
   rw [sc_val (hρ x) hx]
   unfold convert
   rw [Sem.run_bind, run_underlying h1, Result.andThen_ok, Sem.run_bind, run_underlying h2, Result.andThen_ok]
   rfl
  ·rename_i h1 h2
   split at hd
   ·rename_i h3
    split at hd
    ·rename_i ys hys
     split at hd
     ·rename_i hf
      refine ⟨_, _, fun W hW w hk => exec_v (s := convert s d (ρv x)) ?_, .sc (v := .string (bytesOf ys)) rfl, hd⟩
      have hr := elems_bytes hs (hρ x) hys hf W hW w hk
      have hv : ∃ a l c, ρv x = .slice a l c := by
       have hx := hρ x
       generalize ρv x = v at hx hr
       cases v with
       | slice a l c => exact ⟨a, l, c, rfl⟩
       | _ => cases hr
      obtain ⟨a, l, c, ev⟩ := hv
      rw [ev] at hr ⊢
      rw [run_convert_bytes_string w s d _ a l c h1 h3 h2]
      exact hr
     ·cases hd
    ·cases hd
   ·cases hd
  ·cases hd
 case makeFunc f a b =>
  cases f <;> first | (cases hd; done) | skip
  case func g =>
   simp only [denOp] at hd
   split at hd
   ·rename_i hab
    obtain ⟨ha, hb⟩ := hab
    obtain rfl : a = #[] := Array.eq_empty_of_size_eq_zero ha
    obtain rfl : b = #[] := Array.eq_empty_of_size_eq_zero hb
    refine ⟨_, .func (.func g) #[] #[], fun _ _ w _ => ?_, .sc rfl, hd⟩
    unfold execOp
    simp [Instr.makeFunc]
   ·cases hd
 case fieldAddr s x f =>
  simp only [denOp] at hd
  split at hd
  ·rename_i fs hfs
   split at hd
   ·rename_i g hg
    split at hd
    ·cases hd
    ·rename_i hz
     have run : ∀ (b off : Nat), ρv x = .pointer (some ⟨b, off, none⟩) → ∀ w : World, (Instr.fieldAt s (ρv x) f).run P w = .ok (.pointer (some ⟨b, off + g.offset, none⟩)) w := by
      intro b off hv w
      rw [hv]
      unfold Instr.fieldAt
      rw [Sem.run_bind, run_underlying hfs, Result.andThen_ok]
      simp only [hg]
      show (do pure (.pointer (some (← fieldPlace ⟨b, off, none⟩ g))) : Sem Value).run P w = _
      rw [Sem.run_bind, fieldPlace_run hz]
      rfl
     split at hd
     ·rename_i b off hx
      have hh := hρ x
      rw [hx] at hh
      generalize hv : ρv x = v at hh
      cases hh with
      | ptr hb => exact ⟨_, _, fun _ _ w _ => exec_v (run _ _ hv w), .ptr hb, hd⟩
     ·rename_i cs hx
      have hh := hρ x
      rw [hx] at hh
      generalize hv : ρv x = v at hh
      cases hh with
      | iptr hb hu hc he =>
       rename_i b off gg
       refine ⟨_, _, fun _ _ w _ => exec_v (run _ _ hv w), .iptr (g := fun j => gg (g.offset + j)) hb hu (fun j hj => ?_) (fun j hj => ?_), hd⟩
       ·rw [List.length_drop] at hj
        rw [Nat.add_assoc]
        exact hc _ (by omega)
       ·simp only [List.getElem_drop]
        exact he _ _
     ·rename_i b ver j k o cs hx
      split at hd
      ·rename_i e0 ver' xs ho
       split at hd
       ·rename_i e
        subst e
        have hh := hρ x
        rw [hx] at hh
        generalize hv : ρv x = v at hh
        obtain ⟨blk, gg, rfl, hb, hvv, hown, hbs, hc, he⟩ := eptr_cur hs hh ho
        refine ⟨_, _, fun _ _ w _ => exec_v (v := .pointer (some ⟨blk, j * k + (o + g.offset), none⟩)) (by rw [← Nat.add_assoc]; exact run _ _ hv w), .eptr (g := fun j => gg (g.offset + j)) hb hvv hown hbs (fun j hj => ?_) (fun j hj => ?_), hd⟩
        ·rw [List.length_drop] at hj
         rw [← Nat.add_assoc, Nat.add_assoc _ g.offset]
         exact hc _ (by omega)
        ·simp only [List.getElem_drop]
         exact he _ _
       ·cases hd
      ·cases hd
     ·cases hd
   ·cases hd
  ·cases hd
 case field s x f =>
  simp only [denOp] at hd
  split at hd
  ·rename_i fs hfs
   split at hd
   ·rename_i g cs hg hx
    split at hd
    ·rename_i y hy
     have hh := hρ x
     rw [hx] at hh
     generalize hv : ρv x = v at hh
     cases hh with
     | agg hl he =>
      obtain ⟨u, hu, eu⟩ := part_run hl he hy
      refine ⟨y, u, fun _ _ w _ => exec_v (s := Instr.field s (ρv x) f) ?_, eu, hd⟩
      rw [hv]
      unfold Instr.field
      rw [Sem.run_bind, run_underlying hfs, Result.andThen_ok]
      simp only [hg]
      exact hu w
    ·cases hd
   ·cases hd
  ·cases hd
 case indexAddr t x i =>
  simp only [denOp] at hd
  split at hd
  ·rename_i e k n ht hi
   have hvi : ρv i = .int k n := sc_val (hρ i) hi
   split at hd
   ·rename_i b ver hx
    split at hd
    ·rename_i e0 ver' xs ho
     split at hd
     ·rename_i hc
      obtain ⟨rfl, hc0, hce⟩ := hc
      split at hd
      ·rename_i h0
       split at hd
       ·rename_i hlt
        split at hd
        ·rename_i hsh
         obtain ⟨ie, hie⟩ : ∃ ie, P.info? e = some ie := by
          unfold sizeT at hc0
          split at hc0
          ·exact ⟨_, by assumption⟩
          ·omega
         have hsz : sizeT P e = ie.size := by unfold sizeT; rw [hie]
         have hh := hρ x
         rw [hx] at hh
         generalize hv : ρv x = v at hh
         have hob := hs.obj _ _ ho
         cases hh with
         | buf hbn hvv h1 hhd =>
          cases hob with
          | buf hown hw hk h0' hxx hxe =>
           rename_i kk vs
           have hvd := hhd rfl
           subst hvd
           have hj : n.toNat < xs.length := by omega
           have hkk : kk = ie.size := by omega
           rcases hw.form.2 with ⟨_, e2⟩ | ⟨g, cap, e1, e4, hbs, ecell⟩
           ·omega
           ·have hgd : xs.getD n.toNat .top = xs[n.toNat] := by simp [hj]
            rw [hgd] at hsh hd
            have hrb := reb_ok (shOf P 6 e) (xs[n.toNat]) hsh
            have hcell : ∀ j (hj2 : j < xs[n.toNat].cells.length), E.w.cell? ⟨g, n.toNat * kk + 0 + j, none⟩ = some (vs.getD (n.toNat * kk + j) undef) ∧ Enc E xs[n.toNat].cells[j] (vs.getD (n.toNat * kk + j) undef) := by
             intro j hj2
             obtain ⟨u, hu, eu⟩ := hxe n.toNat hj j hj2
             have hg : vs.getD (n.toNat * kk + j) undef = u := by rw [List.getD_eq_getElem?_getD, hu]; rfl
             rw [hg]
             refine ⟨?_, eu⟩
             rw [Nat.add_zero]
             exact ecell _ _ hu
            rw [show sizeT P e = kk by rw [hkk, hsz]] at hd
            refine ⟨_, _, fun _ _ w _ => exec_v (s := Instr.indexAt t (ρv x) (ρv i)) (v := .pointer (some ⟨g, n.toNat * kk + 0, none⟩)) ?_, .eptr (g := fun j => vs.getD (n.toNat * kk + j) undef) hbn rfl (by rw [hown, e1]; rfl) hbs (fun j hj2 => ?_) (fun j hj2 => hrb.1 E (fun j => vs.getD (n.toNat * kk + j) undef) (fun j hj3 => (hcell j hj3).2) j hj2), hd⟩
            ·rw [hv, hvi, e1]
             unfold Instr.indexAt
             simp only [asIntOf, Sem.run_bind, Sem.run_pure, Result.andThen_ok, run_underlying ht]
             rw [if_pos ⟨h0, by omega⟩]
             simp only [Sem.run_bind, Sem.run_pure, Result.andThen_ok, run_size hie, Addr.add_lit, hkk, Nat.zero_add, Nat.add_zero]
            ·exact (hcell j (by have h6 := hrb.2.2.1; have h5 : j < (rebuild (shOf P 6 e) (xs[n.toNat])).cells.length := hj2; omega)).1
        ·cases hd
       ·cases hd
      ·cases hd
     ·cases hd
    ·cases hd
   ·rename_i hnb; clear hnb
    split at hd
    ·rename_i hc
     obtain ⟨hc0, hc1⟩ := hc
     split at hd
     ·rename_i h0
      split at hd
      ·rename_i hlt
       obtain ⟨ie, hie⟩ : ∃ ie, P.info? e = some ie := by
        unfold sizeT at hc0
        split at hc0
        ·exact ⟨_, by assumption⟩
        ·omega
       have hsz : sizeT P e = ie.size := by unfold sizeT; rw [hie]
       have hh := hρ x
       generalize hv : ρv x = v at hh
       generalize hp : ρ x = p at *
       cases hh with
       | lst hn hb hu hk hp2 hcell he =>
        rename_i kk len f b off cap g
        have hlt' : n < (len : Int) := hlt
        have hkk : kk = ie.size := by
         simp only [PV.isLst, Bool.or_eq_true, beq_iff_eq] at hc1
         omega
        have hj : n.toNat < len := by omega
        split at hd
        case isFalse => cases hd
        rename_i hsh
        have hrb := reb_ok (shOf P 6 e) (f n.toNat) hsh
        refine ⟨_, _, fun _ _ w _ => exec_v (s := Instr.indexAt t (ρv x) (ρv i)) (v := .pointer (some ⟨b, off + n.toNat * kk, none⟩)) ?_, .iptr (g := g n.toNat) hb hu (fun j hj2 => hcell _ hj j (by have := hk _ hj; have h6 := hrb.2.2.1; show j < kk; have h5 : j < (rebuild (shOf P 6 e) (f n.toNat)).cells.length := hj2; omega)) (fun j hj2 => hrb.1 E (g n.toNat) (fun j hj3 => he _ hj j hj3) j hj2), hd⟩
        rw [hv, hvi]
        unfold Instr.indexAt
        simp only [asIntOf, Sem.run_bind, Sem.run_pure, Result.andThen_ok, run_underlying ht]
        rw [if_pos ⟨h0, by omega⟩]
        simp only [Sem.run_bind, Sem.run_pure, Result.andThen_ok, run_size hie, Addr.add_lit, hkk]
       | lst0 =>
        have : n < ((0 : Nat) : Int) := hlt
        omega
       | _ => simp [PV.isLst, PV.len] at hc1 hlt <;> omega
      ·cases hd
     ·cases hd
    ·cases hd
  ·rename_i m e k n ht hi
   have hvi : ρv i = .int k n := sc_val (hρ i) hi
   split at hd
   ·rename_i b off hx
    split at hd
    ·rename_i h0
     split at hd
     ·rename_i hlt
      obtain ⟨ie, hie⟩ : ∃ ie, P.info? e = some ie := by
       have h1 := h0.1
       unfold sizeT at h1
       split at h1
       ·exact ⟨_, by assumption⟩
       ·omega
      have hsz : sizeT P e = ie.size := by unfold sizeT; rw [hie]
      have hh := hρ x
      rw [hx] at hh
      generalize hv : ρv x = v at hh
      cases hh with
      | ptr hb =>
       refine ⟨_, _, fun _ _ w _ => exec_v (s := Instr.indexAt t (ρv x) (ρv i)) (v := .pointer (some ⟨E.blk b, off + n.toNat * sizeT P e, none⟩)) ?_, .ptr hb, hd⟩
       rw [hv, hvi]
       unfold Instr.indexAt
       simp only [asIntOf, Sem.run_bind, Sem.run_pure, Result.andThen_ok, run_underlying ht, Instr.sureAddr]
       rw [if_pos ⟨h0.2, by omega⟩]
       simp only [Sem.run_bind, Sem.run_pure, Result.andThen_ok, run_size hie, Addr.add_lit, hsz]
     ·cases hd
    ·cases hd
   ·cases hd
  ·cases hd
 case index t x i =>
  simp only [denOp] at hd
  split at hd
  ·rename_i s k n ht hx hi
   have hvi : ρv i = .int k n := sc_val (hρ i) hi
   have hvx : ρv x = .string s := sc_val (hρ x) hx
   split at hd
   ·rename_i h0
    split at hd
    ·rename_i hlt0
     have hlt : n.toNat < s.size := by omega
     have eb : bt s n = (s[n.toNat]'hlt).toNat := by unfold bt; rw [dif_pos hlt]
     rw [eb] at hd
     refine ⟨_, _, fun _ _ w _ => exec_v (s := Instr.index t (ρv x) (ρv i)) (v := .int .u8 (s[n.toNat]'hlt).toNat) ?_, .sc (v := .int .u8 (s[n.toNat]'hlt).toNat) rfl, hd⟩
     rw [hvx, hvi]
     unfold Instr.index
     simp only [asIntOf, Sem.run_bind, Sem.run_pure, Result.andThen_ok, run_underlying ht]
     rw [if_pos h0, getElem?_pos s n.toNat hlt]
     rfl
    ·cases hd
   ·cases hd
  ·rename_i m e cs k n ht hx hi
   have hvi : ρv i = .int k n := sc_val (hρ i) hi
   split at hd
   ·rename_i h0
    split at hd
    ·rename_i hlt
     split at hd
     ·rename_i y hy
      obtain ⟨ie, hie⟩ : ∃ ie, P.info? e = some ie := by
       have h1 := h0.1
       unfold sizeT at h1
       split at h1
       ·exact ⟨_, by assumption⟩
       ·omega
      have hsz : sizeT P e = ie.size := by unfold sizeT; rw [hie]
      have hh := hρ x
      rw [hx] at hh
      generalize hv : ρv x = v at hh
      cases hh with
      | agg hl he =>
       obtain ⟨u, hu, eu⟩ := part_run hl he hy
       refine ⟨y, u, fun _ _ w _ => exec_v (s := Instr.index t (ρv x) (ρv i)) ?_, eu, hd⟩
       rw [hv, hvi]
       unfold Instr.index
       simp only [asIntOf, Sem.run_bind, Sem.run_pure, Result.andThen_ok, run_underlying ht]
       rw [if_pos ⟨h0.2, by omega⟩]
       simp only [Sem.run_bind, Result.andThen_ok, run_size hie]
       rw [← hsz]
       exact hu w
     ·cases hd
    ·cases hd
   ·cases hd
  ·cases hd
 case slice t x lo hi mx =>
  simp only [denOp] at hd
  split at hd
  ·rename_i s ht hx
   have hvx : ρv x = .string s := sc_val (hρ x) hx
   split at hd
   ·rename_i kl a kr b hlo hhi
    split at hd
    ·rename_i b0
     split at hd
     ·rename_i b1
      split at hd
      ·rename_i a0
       split at hd
       ·rename_i a1
        refine ⟨_, _, fun _ _ w _ => exec_v (s := Instr.sliceAt t (ρv x) (lo.map ρv) (hi.map ρv) (Option.map ρv none)) (v := .string (s.extract a.toNat b.toNat)) ?_, .sc (v := .string (s.extract a.toNat b.toNat)) rfl, hd⟩
        have hl : ∀ w : World, (match lo.map ρv with | some v => Instr.sliceBound v b.toNat .sliceB | none => pure 0 : Sem Nat).run P w = .ok a.toNat w := by
         intro w
         cases lo with
         | none =>
          have e := PV.sc.inj hlo
          injection e with e1 e2
          subst e2
          rfl
         | some z =>
          have hz : ρv z = .int kl a := sc_val (hρ z) hlo
          simp only [Option.map_some, hz, Instr.sliceBound, asIntOf, Sem.run_bind, Sem.run_pure, Result.andThen_ok]
          rw [if_pos ⟨a0, by omega⟩]
          rfl
        have hh : ∀ w : World, (match hi.map ρv with | some v => Instr.sliceBound v s.size .sliceAlen | none => pure s.size : Sem Nat).run P w = .ok b.toNat w := by
         intro w
         cases hi with
         | none =>
          have e := PV.sc.inj hhi
          injection e with e1 e2
          subst e2
          simp
         | some z =>
          have hz : ρv z = .int kr b := sc_val (hρ z) hhi
          simp only [Option.map_some, hz, Instr.sliceBound, asIntOf, Sem.run_bind, Sem.run_pure, Result.andThen_ok]
          rw [if_pos ⟨b0, by omega⟩]
          rfl
        rw [hvx]
        unfold Instr.sliceAt
        simp only [Sem.run_bind, run_underlying ht, Result.andThen_ok]
        unfold Instr.slice
        simp only [Sem.run_bind, run_underlying ht, Result.andThen_ok]
        unfold Instr.sliceBounds
        simp only [Option.map_none, Option.isSome_none, Bool.false_eq_true, if_false, Sem.run_bind, Sem.run_pure, Result.andThen_ok]
        have hh' := hh w
        have hl' := hl w
        clear hh hl
        cases hi with
        | none =>
         simp only [Option.map_none, Sem.run_pure, Result.ok.injEq, and_true] at hh'
         cases lo with
         | none =>
          simp only [Option.map_none, Sem.run_pure, Result.ok.injEq, and_true] at hl'
          simp only [Option.map_none, Sem.run_bind, Sem.run_pure, Result.andThen_ok]
          rw [← hh', ← hl']
         | some z =>
          simp only [Option.map_some] at hl'
          simp only [Option.map_none, Option.map_some, Sem.run_bind, Sem.run_pure, Result.andThen_ok]
          rw [hh', hl']
          rfl
        | some y =>
         simp only [Option.map_some] at hh'
         cases lo with
         | none =>
          simp only [Option.map_none, Sem.run_pure, Result.ok.injEq, and_true] at hl'
          simp only [Option.map_some, Option.map_none, Sem.run_bind, hh', Sem.run_pure, Result.andThen_ok]
          rw [← hl']
         | some z =>
          simp only [Option.map_some] at hl'
          simp only [Option.map_some, Sem.run_bind, hh', hl', Sem.run_pure, Result.andThen_ok]
       ·cases hd
      ·cases hd
     ·cases hd
    ·cases hd
   ·cases hd
  ·rename_i e k n f ht hx
   split at hd
   ·rename_i kl a kr b hlo hhi
    split at hd
    ·rename_i hc
     obtain ⟨hsk, hk0⟩ := hc
     split at hd
     ·rename_i b0
      split at hd
      ·rename_i b1
       split at hd
       ·rename_i a0
        split at hd
        ·rename_i a1
         obtain ⟨ie, hie⟩ : ∃ ie, P.info? e = some ie := by
          have h1 : 0 < sizeT P e := by omega
          unfold sizeT at h1
          split at h1
          ·exact ⟨_, by assumption⟩
          ·omega
         have hsz : ie.size = k := by unfold sizeT at hsk; rw [hie] at hsk; exact hsk
         have run : ∀ (A : Option Addr) (cap : Nat), n ≤ cap → ρv x = .slice A n cap → ∀ w : World, (Instr.sliceAt t (ρv x) (lo.map ρv) (hi.map ρv) (Option.map ρv none)).run P w = .ok (.slice (if cap = a.toNat then A else A.map (·.add (a.toNat * k))) (b.toNat - a.toNat) (cap - a.toNat)) w := by
          intro A cap hcap hvx w
          have hl : (match lo.map ρv with | some v => Instr.sliceBound v b.toNat .sliceB | none => pure 0 : Sem Nat).run P w = .ok a.toNat w := by
           cases lo with
           | none =>
            have e := PV.sc.inj hlo
            injection e with e1 e2
            subst e2
            rfl
           | some z =>
            have hz : ρv z = .int kl a := sc_val (hρ z) hlo
            simp only [Option.map_some, hz, Instr.sliceBound, asIntOf, Sem.run_bind, Sem.run_pure, Result.andThen_ok]
            rw [if_pos ⟨a0, by omega⟩]
            rfl
          have hh : (match hi.map ρv with | some v => Instr.sliceBound v cap .sliceAcap | none => pure n : Sem Nat).run P w = .ok b.toNat w := by
           cases hi with
           | none =>
            have e := PV.sc.inj hhi
            injection e with e1 e2
            subst e2
            simp
           | some z =>
            have hz : ρv z = .int kr b := sc_val (hρ z) hhi
            simp only [Option.map_some, hz, Instr.sliceBound, asIntOf, Sem.run_bind, Sem.run_pure, Result.andThen_ok]
            rw [if_pos ⟨b0, by omega⟩]
            rfl
          rw [hvx]
          unfold Instr.sliceAt
          simp only [Sem.run_bind, run_underlying ht, Result.andThen_ok]
          unfold Instr.slice
          simp only [Sem.run_bind, run_underlying ht, Result.andThen_ok]
          unfold Instr.sliceBounds
          simp only [Option.map_none, Option.isSome_none, Bool.false_eq_true, if_false, if_true, Sem.run_bind, Sem.run_pure, Result.andThen_ok]
          cases hi with
          | none =>
           simp only [Option.map_none, Sem.run_pure, Result.ok.injEq, and_true] at hh
           cases lo with
           | none =>
            simp only [Option.map_none, Sem.run_pure, Result.ok.injEq, and_true] at hl
            simp only [Option.map_none, Sem.run_bind, Sem.run_pure, Result.andThen_ok, run_size hie, hsz]
            rw [← hh, ← hl]
           | some z =>
            simp only [Option.map_some] at hl
            simp only [Option.map_none, Option.map_some, Sem.run_bind, Sem.run_pure, Result.andThen_ok]
            rw [hh, hl]
            simp only [Sem.run_bind, Sem.run_pure, Result.andThen_ok, run_size hie, hsz]
          | some y =>
           simp only [Option.map_some] at hh
           cases lo with
           | none =>
            simp only [Option.map_none, Sem.run_pure, Result.ok.injEq, and_true] at hl
            simp only [Option.map_some, Option.map_none, Sem.run_bind, hh, Sem.run_pure, Result.andThen_ok, run_size hie, hsz]
            rw [← hl]
           | some z =>
            simp only [Option.map_some] at hl
            simp only [Option.map_some, Sem.run_bind, hh, hl, Sem.run_pure, Result.andThen_ok, run_size hie, hsz]
         have e0 : (b - a).toNat = b.toNat - a.toNat := by omega
         have hh := hρ x
         rw [hx] at hh
         generalize hv : ρv x = v at hh
         have fin : ∀ A cap, n ≤ cap → v = .slice A n cap → Enc E (.lst k (b - a).toNat (fun i => f (a.toNat + i))) (.slice (if cap = a.toNat then A else A.map (·.add (a.toNat * k))) (b.toNat - a.toNat) (cap - a.toNat)) → ReadOk P E ρ ρv ⟨dst, .slice t x lo hi none, type, pos, after, guard⟩ h K r := by
          intro A cap h1 h2 h3
          exact ⟨_, _, fun _ _ w _ => exec_v (s := Instr.sliceAt t (ρv x) (lo.map ρv) (hi.map ρv) (Option.map ρv none)) (run A cap h1 (hv.trans h2) w), h3, hd⟩
         cases hh with
         | lst0 =>
          refine fin _ _ (Nat.zero_le _) rfl ?_
          rw [e0, show b.toNat - a.toNat = 0 by omega]
          exact .lst0
         | lst hn hb hu hk hp hcell he =>
          rename_i blk off cap g
          refine fin _ _ hn rfl ?_
          by_cases hz : b.toNat - a.toNat = 0
          ·rw [e0, hz]
           exact .lst0
          ·rw [if_neg (by omega), e0]
           show Enc E _ (.slice (some (Addr.add ⟨blk, off, none⟩ (a.toNat * k))) _ _)
           rw [Addr.add_lit]
           refine .lst (g := fun i j => g (a.toNat + i) j) (by omega) hb hu (fun i hi2 => hk _ (by omega)) (fun i hi2 => hp _ (by omega)) (fun i hi2 j hj => ?_) fun i hi2 j hj => he _ (by omega) j hj
           have := hcell (a.toNat + i) (by omega) j hj
           rw [Nat.add_mul] at this
           rw [show off + a.toNat * k + i * k + j = off + (a.toNat * k + i * k) + j by omega]
           exact this
        ·cases hd
       ·cases hd
      ·cases hd
     ·cases hd
    ·cases hd
   ·cases hd
  ·cases hd
 case extract t i =>
  simp only [denOp] at hd
  split at hd
  ·rename_i x hx
   have hh := hρ t
   generalize hv : ρv t = v at hh
   generalize hp : ρ t = p at *
   cases hh with
   | tup hl he =>
    rename_i cs vs
    obtain ⟨h0, e⟩ := List.getElem?_eq_some_iff.1 (show cs[i]? = some x from hx)
    subst e
    have h2 : i < vs.size := by omega
    refine ⟨_, _, fun _ _ w _ => exec_v (s := Instr.extract (ρv t) i) ?_, he i h0 h2, hd⟩
    rw [hv]
    unfold Instr.extract
    dsimp only
    rw [Array.getElem?_eq_getElem h2]
    rfl
   | _ => simp [PV.parts] at hx
  ·cases hd
end
end Go.Den
