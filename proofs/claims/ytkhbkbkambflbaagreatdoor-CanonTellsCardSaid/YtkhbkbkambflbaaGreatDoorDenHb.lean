/- A call that is handed memory: the call. -/
import Derived.Test.YtkhbkbkambflbaaGreatDoorDenHa
namespace Go.Den
open Go Go.RowKit
set_option linter.unusedVariables false
section
variable {P : Program} {T : World → Prop} {w0 : Bs} {V : Nat → Prop} {E : Env} {s : St} {a : Act}

theorem shOf_tup : ∀ (d : Nat) (t : TypeId) (l : List Sh), shOf P d t ≠ .tup l
 | 0, t, l => by intro h; cases h
 | d + 1, t, l => by
  intro h
  rw [shOf] at h
  split at h <;> first | (cases h; done) | skip
  split at h <;> cases h
/-- What has a shape is plain, if it is one of what is handed back. -/
theorem retsE_plain {d : Nat} {t : TypeId} {x : PV} (hs : hasSh (shOf P d t) x = true) (hx : retsE x = true) (ha : shOf P d t ≠ .any) : x.plainE = true := by
 unfold retsE at hx
 rw [Bool.or_eq_true, Bool.or_eq_true] at hx
 rcases hx with (h | h) | h
 ·exact h
 ·exfalso
  cases x <;> first | (cases h; done) | skip
  generalize shOf P d t = s at hs ha
  cases s <;> first | (exact ha rfl) | (simp [hasSh, PV.isInt, PV.isBool, PV.isStr, PV.isLst] at hs)
 ·exfalso
  cases x <;> first | (cases h; done) | skip
  generalize shOf P d t = s at hs ha
  cases s <;> first | (exact ha rfl) | (simp [hasSh, PV.isInt, PV.isBool, PV.isStr, PV.isLst] at hs)
theorem tup_shape {d : Nat} {t : TypeId} {cs : List PV} (hs : hasSh (shOf P d t) (.tup cs) = true) (ha : shOf P d t ≠ .any) : False := by
 have ht := shOf_tup (P := P) d t
 generalize shOf P d t = s at hs ha ht
 cases s <;> first | (exact ha rfl) | (exact ht _ rfl) | (simp [hasSh, PV.isInt, PV.isBool, PV.isStr, PV.isLst] at hs)
section
variable {Ec : Env} {L L3 : List Nat} {cons : Bool} {n : Nat} {base : Nat} {h : Heap} {objs : List HObj}
variable (M : MergeOk P base h E Ec L L3 cons n objs)
include M
theorem MergeOk.ret1 {d : Nat} {t : TypeId} {x : PV} {v : Value} (hk : ret1Ok P d t x = true) (hr : retsE x = true ∨ ∃ cs, x = .tup cs) (he : Enc Ec x v) : Enc (E.merge Ec L3 cons n) (ret1F P L3 d t x) v := by
 unfold ret1Ok at hk
 unfold ret1F
 split at hk
 ·rename_i hp
  rw [if_pos hp]
  split at hk
  ·split
   ·rename_i b hb
    cases he with
    | ptr h1 =>
     obtain ⟨_, m2, _, m4⟩ := M.at hb
     rw [← m2]
     exact .ptr m4
   ·exact .top
  ·cases hk
 ·rename_i hp
  rw [if_neg hp]
  split at hk
  ·exact .top
  ·rename_i hs
   have hpl : x.plainE = true := by
    rcases hr with hr | ⟨cs, rfl⟩
    ·exact retsE_plain hk hr hs
    ·exact (tup_shape hk hs).elim
   exact (reb_ok _ x hk).2.1 _ _ (he.plainE_env (E := Ec) (E2 := E.merge Ec L3 cons n) rfl (fun c hc => M.UC hc) hpl)
theorem MergeOk.rets {d : Nat} : ∀ {ts : List TypeId} {cs : List PV} {vs : List Value}, retsOk P d ts cs = true → cs.all retsE = true → cs.length = vs.length → (∀ i (h1 : i < cs.length) (h2 : i < vs.length), Enc Ec cs[i] vs[i]) →
  (retsF P L3 d ts cs).length = vs.length ∧ ∀ i (h1 : i < (retsF P L3 d ts cs).length) (h2 : i < vs.length), Enc (E.merge Ec L3 cons n) (retsF P L3 d ts cs)[i] vs[i]
 | [], [], vs, _, _, hl, _ => ⟨hl, fun i h1 => absurd h1 (Nat.not_lt_zero _)⟩
 | [], _ :: _, _, h, _, _, _ => by cases h
 | _ :: _, [], _, h, _, _, _ => by cases h
 | t :: ts, x :: cs, [], _, _, hl, _ => by cases hl
 | t :: ts, x :: cs, v :: vs, h, hr, hl, he => by
  rw [retsOk, Bool.and_eq_true] at h
  rw [List.all_cons, Bool.and_eq_true] at hr
  obtain ⟨a1, a2⟩ := MergeOk.rets (ts := ts) (cs := cs) (vs := vs) h.2 hr.2 (by simpa using hl) (fun i c1 c2 => by
   have := he (i + 1) (by simp; omega) (by simp; omega)
   simpa using this)
  refine ⟨by simp [retsF, a1], fun i h1 h2 => ?_⟩
  cases i with
  | zero => exact M.ret1 h.1 (.inl hr.1) (he 0 (by simp) (by simp))
  | succ i => exact a2 i (by simpa [retsF] using h1) (by simpa using h2)
theorem MergeOk.ret {d : Nat} {ts : List TypeId} {x : PV} {v : Value} (hk : retOk P d ts x = true) (hr : RetsOk x) (he : Enc Ec x v) : Enc (E.merge Ec L3 cons n) (retF P L3 d ts x) v := by
 unfold retOk at hk
 unfold retF
 split at hk
 ·exact M.ret1 hk (hr.imp id fun ⟨cs, e, _⟩ => ⟨cs, e⟩) he
 ·rename_i hne
  split at hk
  ·rename_i cs
   have hall : cs.all retsE = true := by
    rcases hr with hr | ⟨cs', e, hr⟩
    ·cases hr
    ·cases e; exact hr
   cases he with
   | tup hl hx =>
    rename_i vs
    obtain ⟨a1, a2⟩ := M.rets (ts := ts) (cs := cs) (vs := vs.toList) hk hall (by simpa using hl) (fun i c1 c2 => by
     have := hx i c1 (by simpa using c2)
     simpa using this)
    show Enc (E.merge Ec L3 cons n) (.tup (retsF P L3 d ts cs)) (.tuple vs)
    refine .tup (by simpa using a1) fun i h1 h2 => ?_
    have := a2 i h1 (by simpa using h2)
    simpa using this
  ·cases hk
end
theorem range'_mem {b n k : Nat} : b ∈ List.range' n k ↔ n ≤ b ∧ b < n + k := by
 rw [List.mem_range'_1]
/-- A CALL THAT IS HANDED MEMORY. -/
theorem hand_okV {d : Cf} {C : FuncId → List PV → Option PV} (hC : ∀ g args r, C g args = some r → FunOk P T g args r) (hTb : ∀ w w', T w → Below w.heap.size w w' → T w') (h : Rel P T w0 V E s a) {o : Oper} {K : St → Option PV} {r : PV} (hd : denHand P d C o s K = some r)
  {next : Act → World → Prop} {Q : Exit → Act → World → Prop} (hn : ∀ E' s' a', Ext0 E E' → VerS (handWr P d o s) E E' → Rel P T w0 V E' s' a' → K s' = some r → next a' E'.w) : o.wp P a E.w next Q := by
 unfold denHand at hd
 split at hd
 ·rename_i c hop
  obtain ⟨callee, as, ts⟩ := c
  dsimp only at hd
  have al : (as.toList.map s.ρ).length = (as.map a.eval).toList.length := by simp
  have ae : ∀ i (h1 : i < (as.toList.map s.ρ).length) (h2 : i < (as.map a.eval).toList.length), Enc E (as.toList.map s.ρ)[i] (as.map a.eval).toList[i] := fun i h1 h2 => by
   simp only [List.getElem_map, Array.toList_map]
   exact h.ρ _
  split at hd
  ·rename_i f
   split at hd
   ·rename_i g fs cs hf
    have hfe := h.ρ f
    rw [hf] at hfe
    generalize hfv : a.eval f = fv at hfe
    cases hfe with
    | sc hok =>
     simp only [scOk, Bool.and_eq_true] at hok
     split at hd
     ·rename_i fn F cons hfn hform
      split at hd
      ·rename_i hb
       split at hd
       ·cases hd
       ·rename_i ys hys
        split at hd
        ·cases hd
        ·rename_i L objs s2 hin
         obtain ⟨ret, hret, hd⟩ := Option.bind_eq_some_iff.1 hd
         split at hd
         ·rename_i hsh
          rw [Bool.and_eq_true, Bool.and_eq_true] at hsh
          obtain ⟨⟨hsh1, hsh2⟩, hsh3⟩ := hsh
          generalize hbs : (as.toList.map s.ρ).flatMap bufsOf = bs at hin
          have hg := h.give bs
          obtain ⟨l1, l2⟩ := outPL_ok h.heap (V2 := (E.give bs).U) (fun c hc => give_U hc) hys al ae (fun b hb c hbn ho => give_own h.heap (by rw [← hbs]; exact hb) hbn ho)
          obtain ⟨E2, h2, x2, w2, v2, hL, hLF, hlo, hheap, hkind⟩ := handIn_ok hg (fun b off hm => by
           obtain ⟨i, hi, e⟩ := List.getElem_of_mem hm
           have := ae i hi (by omega)
           rw [e] at this
           generalize (as.map a.eval).toList[i]'(by omega) = v at this
           cases this with
           | ptr hb => exact hb) hin
          have hn2 := h2.heap.n
          have hr := exec_call (a := a) hop hfv hok.1 hok.2 hfn hb.1 hb.2 E.w
          unfold Oper.wp
          rw [hr]
          show Calls P g (as.map a.eval) E.w _
          have hw2 : E2.w = E.w := w2
          have hcall := (hC g _ ret hret).hand _ _ rfl w0.toWorld (E2.lend L) (as.map a.eval) h.T hheap (by show Below w0.heap.size w0 E2.w; rw [hw2]; exact h.below) (by simpa using l1) (fun i h1 h3 => by
           have h4 : i < ys.length := by simpa using h1
           have h5 : i < (as.map a.eval).toList.length := by simpa using h3
           simp only [List.getElem_map]
           have ev : (as.map a.eval).toList[i] = (as.map a.eval)[i] := by simp
           rcases l2 i h4 h5 with ⟨b, off, e, he⟩ | e | ⟨he, hp⟩
           ·rw [e]
            unfold renA
            dsimp only
            split
            ·rename_i j hj
             rw [ev] at he
             have he2 := (he.ext0 (give_ext bs)).ext x2
             have hj' := posOf_spec hj
             generalize (as.map a.eval)[i] = v at he2
             cases he2 with
             | ptr hbn =>
              rw [← lend_blk (E := E2) hj']
              exact .ptr (E := E2.lend L) (List.getElem?_eq_some_iff.1 hj').1
            ·exact .top
           ·rw [e]; exact .top
           ·have e2 : renA L ys[i] = ys[i] := by
             unfold renA
             split
             ·rename_i b off e; rw [e] at hp; cases hp
             ·rfl
            rw [e2]
            rw [ev] at he
            refine he.plainE_env (E := bare E.w (E.give bs).U) (E2 := E2.lend L) hw2 (fun c hc => ?_) hp
            refine lend_U hL ?_
            rintro (hv | ⟨b, hbn, ho⟩)
            ·exact hc (.inl (.inl (by have := x2.V; rw [this] at hv; exact hv)))
            ·have hbl : b < s2.h.length := by omega
             have hlt := ((h2.heap.obj b _ (List.getElem?_eq_getElem hbl)).lt ho).2
             rcases x2.own c ⟨b, hbn, ho⟩ with ho2 | hs2
             ·exact hc (.inl (.inr ho2))
             ·rw [hw2] at hlt
              have : E.w.heap.size ≤ c := hs2
              omega)
          have hw3 : (E2.lend L).w = E.w := hw2
          rw [hw3] at hcall
          refine hcall.mono ?_
          rintro e w' ⟨v, Ec, objs', rt, hres⟩
          obtain ⟨r1, r2, r3, r4, r5, r6, r7, r8, r9, r10, r11, r12⟩ := hres
          subst r1
          subst r2
          subst r3
          have hin1 : ∀ b, b ∈ L ++ List.range' s2.h.length (F.length - L.length) → b < s2.h.length + (F.length - L.length) := fun b hb => by
           rcases List.mem_append.1 hb with hb | hb
           ·have := hL.lt b hb; omega
           ·exact (range'_mem.1 hb).2
          have hcl : cons = false → F.length = objs'.length ∧ HeapOk P Ec w0.heap.size (objsF F objs') ∧ (objsF F objs').length = objs'.length := fun hc => by
           rw [hc, Bool.false_or] at hsh2
           obtain ⟨f0, f1, _⟩ := objsF_spec hsh2
           exact ⟨f0, objsF_heap hsh2 r5, f1⟩
          have M : MergeOk P w0.heap.size s2.h E2 Ec L (L ++ List.range' s2.h.length (F.length - L.length)) cons (s2.h.length + (F.length - L.length)) (if cons = true then objs'.map decO else objsF F objs') := by
           refine ⟨h2.heap, hL, ?_, hin1, fun b h1 h3 => List.mem_append_right _ (range'_mem.2 ⟨by omega, h3⟩), fun j b hj hb => ?_, fun b hb => List.mem_append_left _ hb, by omega, r4, ?_, fun hc => ?_, fun j hj => ?_, fun c hc => ?_, fun c hc ho => ?_, ?_, fun hc j b e v xs hj hb ho => ?_⟩
           ·refine List.nodup_append.2 ⟨hL.nodup, List.nodup_range', fun x hx y hy => ?_⟩
            have := hL.lt x hx
            have := (range'_mem.1 hy).1
            omega
           ·rcases Nat.lt_or_ge j L.length with h1 | h1
            ·rwa [List.getElem?_append_left h1] at hj
            ·rw [List.getElem?_append_right h1] at hj
             have := (range'_mem.1 (List.mem_of_getElem? hj)).1
             omega
           ·by_cases hc : cons = true
            ·rw [if_pos hc]; exact r5
            ·rw [if_neg hc]; exact (hcl (by simpa using hc)).2.1
           ·obtain ⟨c1, _, c3⟩ := hcl hc
            rw [if_neg (by rw [hc]; decide), c3, ← c1, List.length_append, List.length_range']
            omega
           ·exact r9 j (by omega)
           ·exact (r10 c hc).imp id (fun hs => by show E2.w.heap.size ≤ c; rw [hw2]; rw [hw3] at hs; exact hs)
           ·have := r11 c (by rw [hw3]; rw [hw2] at hc; exact hc) ho
            rw [hw3] at this
            rw [this, hw2]
           ·rw [hw2, ← hw3]; exact r12
           ·obtain ⟨c1, _, c3⟩ := hcl hc
            rw [if_neg (by rw [hc]; decide)] at ho
            have hj2 : L[j]? = some b := by
             rcases Nat.lt_or_ge j L.length with h1 | h1
             ·rwa [List.getElem?_append_left h1] at hj
             ·rw [List.getElem?_append_right h1] at hj
              have := (range'_mem.1 (List.mem_of_getElem? hj)).1
              omega
            have hjl := (List.getElem?_eq_some_iff.1 ho).1
            have hjF : j < F.length := by omega
            rw [hc, Bool.false_or] at hsh2
            have hsh4 : objsOk F objs' = true := hsh2
            obtain ⟨f0, f1, f2⟩ := objsF_spec hsh4
            have f3 := (f2 j (by omega) hjF hjl).2
            rw [List.getElem?_eq_getElem hjl] at ho
            have ho' := Option.some.inj ho
            have ho2 : objF F[j] (objs'[j]'(by omega)) = .buf e v xs := f3.symm.trans ho'
            cases hFj : F[j] with
            | cells t l => rw [hFj] at ho2; cases ho2
            | buf e' =>
             exact hkind j b e' hj2 (by rw [List.getElem?_eq_getElem hjF, hFj])
          have hx0 := M.ext0
          have hmh : mergeH (L ++ List.range' s2.h.length (F.length - L.length)) (objsF F objs') cons s2.h (s2.h.length + (F.length - L.length)) = mergeH (L ++ List.range' s2.h.length (F.length - L.length)) (if cons = true then objs'.map decO else objsF F objs') cons s2.h (s2.h.length + (F.length - L.length)) := by
           by_cases hc : cons = true
           ·unfold mergeH
            simp only [hc, if_true]
           ·rw [if_neg hc]
          have hres := M.result
          rw [← hmh] at hres
          have hrel : Rel P T w0 V (E2.merge Ec (L ++ List.range' s2.h.length (F.length - L.length)) cons (s2.h.length + (F.length - L.length))) { s2 with h := mergeH (L ++ List.range' s2.h.length (F.length - L.length)) (objsF F objs') cons s2.h (s2.h.length + (F.length - L.length)) } a :=
           ⟨hres, h2.len, fun i h1 h3 => (h2.fr i h1 h3).ext0 hx0, by
            refine h2.below.trans ?_
            have e : E2.w = (E2.lend L).w := rfl
            rw [e]
            exact r8, h2.defers, h2.V, h2.T, h2.hand.of M.le hx0.blk (fun c hc => M.O hc) (fun c hc ho => M.same c hc fun ho2 => ho (lend_O hL ho2)) M.size⟩
          have hver : VerS (handWr P d o s) E (E2.merge Ec (L ++ List.range' s2.h.length (F.length - L.length)) cons (s2.h.length + (F.length - L.length))) := fun b hb hnb => by
           have hw : handWr P d o s = L ++ bs := by
            unfold handWr
            rw [hop]
            dsimp only
            rw [hf]
            dsimp only
            rw [hform]
            dsimp only
            rw [hbs, hin]
           rw [hw] at hnb
           have hb1 : b ∉ L := fun hh => hnb (List.mem_append_left _ hh)
           have hb2 : b ∉ bs := fun hh => hnb (List.mem_append_right _ hh)
           have g1 : (E.give bs).ver b = E.ver b := if_neg hb2
           have g2 : E2.ver b = (E.give bs).ver b := v2 b hb (by simp)
           have hlt : b < s2.h.length := by
            have a1 := x2.n
            have a2 : (E.give bs).n = E.n := rfl
            omega
           have hp : posOf (L ++ List.range' s2.h.length (F.length - L.length)) b = none := by
            cases hq : posOf (L ++ List.range' s2.h.length (F.length - L.length)) b with
            | none => rfl
            | some j =>
             exfalso
             rcases List.mem_append.1 (List.mem_of_getElem? (posOf_spec hq)) with hm | hm
             ·exact hb1 hm
             ·have := (range'_mem.1 hm).1; omega
           exact ((MergeOk.ver0 (E := E2) (Ec := Ec) (cons := cons) (n := s2.h.length + (F.length - L.length)) hp).1.trans g2).trans g1
          exact hn (E2.merge Ec (L ++ List.range' s2.h.length (F.length - L.length)) cons (s2.h.length + (F.length - L.length))) _ _ (((give_ext bs).trans x2.e0).trans hx0) hver (hrel.same (M.ret hsh3 r7 r6) o.dst) hd
         ·cases hd
      ·cases hd
     ·cases hd
   ·cases hd
  ·cases hd
 ·cases hd
theorem hand_ok {d : Cf} {C : FuncId → List PV → Option PV} (hC : ∀ g args r, C g args = some r → FunOk P T g args r) (hTb : ∀ w w', T w → Below w.heap.size w w' → T w') (h : Rel P T w0 V E s a) {o : Oper} {K : St → Option PV} {r : PV} (hd : denHand P d C o s K = some r)
  {next : Act → World → Prop} {Q : Exit → Act → World → Prop} (hn : ∀ E' s' a', Rel P T w0 V E' s' a' → K s' = some r → next a' E'.w) : o.wp P a E.w next Q :=
 hand_okV hC hTb h hd fun E' s' a' _ _ h' k' => hn E' s' a' h' k'
end
end Go.Den
