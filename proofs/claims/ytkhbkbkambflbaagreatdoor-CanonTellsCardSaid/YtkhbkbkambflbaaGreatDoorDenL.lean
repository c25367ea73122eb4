/- Operations, regions, code, functions: the plain reading is sound. -/
import Derived.Test.YtkhbkbkambflbaaGreatDoorDenK
namespace Go.Den
open Go Go.RowKit
set_option linter.unusedVariables false
section
variable {P : Program} {T : World → Prop} {w0 : Bs} {V : Nat → Prop} {E : Env} {s : St} {a : Act}

theorem upon_mem {o : Oper} {next : Act → World → Prop} {Q : Exit → Act → World → Prop} {v : Value} {w w' : World} (h : (execOp a.eval o).run P w = .ok (.value v) w' ∨ ((execOp a.eval o).run P w = .ok .skip w' ∧ v = undef)) (hn : next (a.put o.dst v) w') : o.wp P a w next Q := by
 unfold Oper.wp
 rcases h with h | ⟨h, rfl⟩ <;> rw [h] <;> exact hn
theorem builtin_run {o : Oper} {b : Builtin} {as : Array Operand} {ts : Array TypeId} (ho : o.op = .call { callee := .builtin b, args := as, argTypes := ts }) (w : World) :
  (execOp a.eval o).run P w = (builtin b ts o.type (as.map fun | .const _ => true | _ => false) (as.map a.eval)).run P w := by
 unfold execOp
 rw [ho]
 rfl
theorem lit_run {o : Oper} {t : TypeId} {len : Nat} {ps : Array (Nat × Operand)} (hop : o.op = .buildSlice t len ps) {w w' : World} {v : Value} (h : (Instr.buildSlice t len (ps.toList.map fun p => (p.1, a.eval p.2)).toArray).run P w = .ok v w') :
  (execOp a.eval o).run P w = .ok (.value v) w' := by
 have e : (ps.map fun ((i, x) : Nat × Operand) => (i, a.eval x)) = (ps.toList.map fun p => (p.1, a.eval p.2)).toArray := by
  apply Array.ext'
  simp
 obtain ⟨dst, op, type, pos, after, guard⟩ := o
 dsimp only at hop
 subst hop
 show (do pure (Next.value (← Instr.buildSlice t len (ps.map fun (i, x) => (i, a.eval x)))) : Sem Next).run P w = _
 rw [e]
 exact exec_v h
/-- Slices that are handed over. -/
def Env.give (E : Env) (bs : List Nat) : Env := { E with own := fun b => if b ∈ bs then none else E.own b, ver := fun b => if b ∈ bs then E.ver b + 1 else E.ver b }
theorem give_U {bs : List Nat} {c : Nat} (h : ¬ E.U c) : ¬ (E.give bs).U c := by
 rintro (hv | ⟨b, hb, e⟩)
 ·exact h (.inl hv)
 ·have e' : (if b ∈ bs then none else E.own b) = some c := e
  split at e'
  ·cases e'
  ·exact h (.inr ⟨b, hb, e'⟩)
theorem give_O {bs : List Nat} {c : Nat} (h : (E.give bs).O c) : E.O c := by
 obtain ⟨b, hb, e⟩ := h
 have e' : (if b ∈ bs then none else E.own b) = some c := e
 split at e'
 ·cases e'
 ·exact ⟨b, hb, e'⟩
theorem give_ext (bs : List Nat) : Ext0 E (E.give bs) := by
 refine ⟨Nat.le_refl _, fun _ _ => rfl, Nat.le_refl _, fun c hc hu => ⟨give_U hu, rfl⟩, fun b hb => ?_, fun b c hb ho hs e => ⟨?_, rfl⟩⟩
 ·show E.ver b ≤ (if b ∈ bs then E.ver b + 1 else E.ver b) ∧ (E.ver b = (if b ∈ bs then E.ver b + 1 else E.ver b) → _)
  split
  ·exact ⟨by omega, fun _ => rfl⟩
  ·exact ⟨Nat.le_refl _, fun _ => rfl⟩
 ·have e' : E.ver b = (if b ∈ bs then E.ver b + 1 else E.ver b) := e
  show (if b ∈ bs then none else E.own b) = _
  split at e'
  ·omega
  ·rename_i hn; rw [if_neg hn]; exact ho
/-- Blocks that were handed over may no longer be written. -/
theorem give_own {base : Nat} {h : Heap} (hs : HeapOk P E base h) {bs : List Nat} {b c : Nat} (hb : b ∈ bs) (hbn : b < E.n) (ho : E.own b = some c) : ¬ (E.give bs).U c := by
 rintro (hv | ⟨b', hb', e⟩)
 ·exact (hs.below c hv).2 b hbn ho
 ·have e' : (if b' ∈ bs then none else E.own b') = some c := e
  split at e'
  ·cases e'
  ·rename_i hn
   have := hs.apart b' b c hb' hbn e' ho
   subst this
   exact hn hb
theorem giveC_enc {base : Nat} {h : Heap} (hs : HeapOk P E base h) (bs : List Nat) {x : PV} {v : Value} (he : Enc E x v) : Enc (E.give bs) (giveC P h bs x) v := by
 unfold giveC
 split
 ·rename_i b ver
  split
  ·rename_i hb
   split
   ·rename_i e0 ver' xs ho
    split
    ·rename_i hv
     subst hv
     cases he with
     | buf hbn hv h1 hh =>
      obtain ⟨a1, a2⟩ := frozen_enc (k := sizeT P e0) (hs.obj b _ ho) rfl (E2 := E.give bs) rfl (fun c hc => give_U hc) (fun c hc => give_own hs (by simpa using hb) hbn hc)
      rw [hh a1]
      exact a2
    ·exact .top
   ·exact .top
  ·exact he.ext0 (give_ext bs)
 ·exact he.ext0 (give_ext bs)
theorem givePV_enc {base : Nat} {h : Heap} (hs : HeapOk P E base h) (bs : List Nat) {x : PV} {v : Value} (he : Enc E x v) : Enc (E.give bs) (givePV P h bs x) v := by
 unfold givePV
 split
 ·cases he with
  | agg hl hx =>
   refine .agg (by simpa using hl) fun i a b => ?_
   simp only [List.getElem_map]
   exact giveC_enc hs bs (hx i (by simpa using a) b)
 ·exact giveC_enc hs bs he
theorem giveH_get (h : Heap) (bs : List Nat) : ∀ (i : Nat) (l : List HObj), (giveH P h bs i l).length = l.length ∧ ∀ j o, (giveH P h bs i l)[j]? = some o → ∃ o0, l[j]? = some o0 ∧ o = (if bs.contains (i + j) = true then .gone else giveO P h bs o0)
 | i, [] => ⟨rfl, fun j o h => by simp [giveH] at h⟩
 | i, o :: l => by
  obtain ⟨a1, a2⟩ := giveH_get h bs (i + 1) l
  refine ⟨by simp [giveH, a1], fun j o' h' => ?_⟩
  cases j with
  | zero =>
   simp only [giveH, List.getElem?_cons_zero] at h'
   exact ⟨o, rfl, (Option.some.inj h').symm⟩
  | succ j =>
   simp only [giveH, List.getElem?_cons_succ] at h'
   obtain ⟨o0, h1, h2⟩ := a2 j o' h'
   refine ⟨o0, by simpa using h1, ?_⟩
   rw [show i + (j + 1) = i + 1 + j by omega]
   exact h2
theorem Rel.give (h : Rel P T w0 V E s a) (bs : List Nat) : Rel P T w0 V (E.give bs) (s.give P bs) a := by
 obtain ⟨g1, g2⟩ := giveH_get (P := P) s.h bs 0 s.h
 refine ⟨⟨by show E.n = (giveH P s.h bs 0 s.h).length; rw [g1]; exact h.heap.n, fun b o ho => ?_, fun b b' c hb hb' e e' => ?_, h.heap.low, fun c hc => ⟨(h.heap.below c hc).1, fun b hb e => ?_⟩⟩, by show (s.fr.map _).length = _; rw [List.length_map]; exact h.len, fun i h1 h2 => ?_, h.below, h.defers, h.V, h.T, h.hand.of (Nat.le_refl _) (fun _ _ => rfl) (fun c hc => .inl (give_O hc)) (fun _ _ _ => rfl) (Nat.le_refl _)⟩
 ·obtain ⟨o0, h1, h2⟩ := g2 b o ho
  rw [Nat.zero_add] at h2
  by_cases hb : b ∈ bs
  ·rw [if_pos (by simpa using hb)] at h2
   rw [h2]
   exact .gone (if_pos hb)
  ·rw [if_neg (by simpa using hb)] at h2
   have eo : (E.give bs).own b = E.own b := if_neg hb
   have ev : (E.give bs).ver b = E.ver b := if_neg hb
   have hob := h.heap.obj b o0 h1
   rw [h2]
   cases hob with
   | cells ho hbb hh hl hx =>
    refine .cells (by rw [eo]; exact ho) hbb hh (by simpa using hl) fun i a b => ?_
    simp only [List.getElem_map]
    exact giveC_enc h.heap bs (hx i (by simpa using a) b)
   | buf ho hw hk h0 hx hxe =>
    exact (ObjOk.buf (P := P) (E := E) ho hw hk h0 hx hxe).keep0 (give_ext bs) eo rfl rfl ev fun _ _ => rfl
   | gone ho => exact .gone (by rw [eo]; exact ho)
 ·have e1 : (if b ∈ bs then none else E.own b) = some c := e
  have e2 : (if b' ∈ bs then none else E.own b') = some c := e'
  split at e1
  ·cases e1
  ·split at e2
   ·cases e2
   ·exact h.heap.apart b b' c hb hb' e1 e2
 ·have e1 : (if b ∈ bs then none else E.own b) = some c := e
  split at e1
  ·cases e1
  ·exact (h.heap.below c hc).2 b hb e1
 ·have h3 : i < s.fr.length := by have : i < (s.fr.map (givePV P s.h bs)).length := h1; simpa using this
  have h4 : i < (s.fr.map (givePV P s.h bs)).length := h1
  have e : (s.fr.map (givePV P s.h bs))[i]'h4 = givePV P s.h bs s.fr[i] := List.getElem_map ..
  exact (show Enc _ ((s.fr.map (givePV P s.h bs))[i]'h4) _ from by rw [e]; exact givePV_enc h.heap bs (h.fr i h3 h2))
theorem give_ok {d : Cf} {C : FuncId → List PV → Option PV} (hC : ∀ g args r, C g args = some r → FunOk P T g args r) (hTb : ∀ w w', T w → Below w.heap.size w w' → T w') (h : Rel P T w0 V E s a) {o : Oper} {K : St → Option PV} {r : PV} (hd : denGive P d C o s K = some r)
  {next : Act → World → Prop} {Q : Exit → Act → World → Prop} (hn : ∀ E' s' a', Rel P T w0 V E' s' a' → K s' = some r → next a' E'.w) : o.wp P a E.w next Q := by
 unfold denGive at hd
 split at hd
 ·rename_i c hop
  obtain ⟨callee, as, ts⟩ := c
  dsimp only at hd
  have al : (as.toList.map s.ρ).length = (as.map a.eval).toList.length := by simp
  have ae : ∀ i (h1 : i < (as.toList.map s.ρ).length) (h2 : i < (as.map a.eval).toList.length), Enc E (as.toList.map s.ρ)[i] (as.map a.eval).toList[i] := fun i h1 h2 => by
   simp only [List.getElem_map, Array.toList_map]
   exact h.ρ _
  split at hd
  ·rename_i f
   split at hd
   ·rename_i g fs cs hf
    have hfe := h.ρ f
    rw [hf] at hfe
    generalize hfv : a.eval f = fv at hfe
    cases hfe with
    | sc hok =>
     simp only [scOk, Bool.and_eq_true] at hok
     split at hd
     ·rename_i fn hfn
      split at hd
      ·rename_i hb
       split at hd
       ·cases hd
       ·rename_i ys hys
        obtain ⟨ret, hret, hd⟩ := Option.bind_eq_some_iff.1 hd
        split at hd
        ·rename_i hsh
         generalize hbs : (as.toList.map s.ρ).flatMap bufsOf = bs at hd
         obtain ⟨l1, l2, _⟩ := outL_ok h.heap (V := (E.give bs).U) (fun c hc => give_U hc) hys al ae (fun b hb c hbn ho => give_own h.heap (by rw [← hbs]; exact hb) hbn ho)
         have hr := exec_call (a := a) hop hfv hok.1 hok.2 hfn hb.1 hb.2 E.w
         have hg := h.give bs
         unfold Oper.wp
         rw [hr]
         show Calls P g (as.map a.eval) E.w _
         refine ((hC g ys ret hret).plain E.w (E.give bs).U (as.map a.eval) (hTb _ _ h.T h.below) (fun c hc => ?_) (by simpa using l1) (fun i h1 h2 => by
          have := l2 i h1 (by simpa using h2)
          simpa using this)).mono ?_
         ·rcases hc with hc | ⟨b, hbn, ho⟩
          ·exact (hg.heap.below c hc).1
          ·have hb' : b < (s.give P bs).h.length := by have := hg.heap.n; have : b < (E.give bs).n := hbn; omega
           exact ((hg.heap.obj b _ (List.getElem?_eq_getElem hb')).lt ho).2
         ·rintro e w' ⟨v, rfl, hv, hro, hbw⟩
          have hv2 : Enc ((E.give bs).withW w') ret v := ret_env hv hro rfl fun c hc => hc
          exact hn _ _ _ ((hg.world hbw).same ((reb_ok _ ret hsh).2.1 _ _ hv2) o.dst) hd
        ·cases hd
      ·cases hd
     ·cases hd
   ·cases hd
  ·cases hd
 ·cases hd
/-- One operation, whose turn it is. -/
theorem exec_okV {d : Cf} {C : FuncId → List PV → Option PV} (hC : ∀ g args r, C g args = some r → FunOk P T g args r) (hTb : ∀ w w', T w → Below w.heap.size w w' → T w') (h : Rel P T w0 V E s a) {o : Oper} {K : St → Option PV} {r : PV} (hd : denExec P d C false o s K = some r)
  {next : Act → World → Prop} {Q : Exit → Act → World → Prop} (hn : ∀ E' s' a', Ext0 E E' → (∀ wr, wrX s o = some wr → VerS wr E E') → Rel P T w0 V E' s' a' → K s' = some r → next a' E'.w) : o.wp P a E.w next Q := by
 have args_ok : ∀ (as : Array Operand), (as.toList.map s.ρ).length = (as.map a.eval).size ∧ ∀ i (h1 : i < (as.toList.map s.ρ).length) (h2 : i < (as.map a.eval).size), Enc E (as.toList.map s.ρ)[i] (as.map a.eval)[i] := fun as =>
  ⟨by simp, fun i h1 h2 => by
   simp only [List.getElem_map, Array.getElem_map, Array.getElem_toList]
   exact h.ρ _⟩
 have plain : wrX s o = none → denOp P s.ρ s.h o.op (fun x h => K (St.put { s with h := h } o.dst x)) = some r → o.wp P a E.w next Q := by
  intro hwx hd
  obtain ⟨E', x, v, h', h1, h2, h3, h4, h5, h6⟩ := denOp_ok h.heap h.ρ hd
  exact upon_mem h1 (hn _ _ _ h2.e0 (fun wr hw => by rw [hwx] at hw; cases hw) (h.step h2 h3 h5 h4 o.dst) h6)
 unfold denExec at hd
 split at hd
 ·rename_i c hop
  obtain ⟨callee, as, ts⟩ := c
  dsimp only at hd
  obtain ⟨al, ae⟩ := args_ok as
  split at hd
  ·rename_i f
   split at hd
   ·rename_i g fs cs hf
    have hfe := h.ρ f
    rw [hf] at hfe
    generalize hfv : a.eval f = fv at hfe
    cases hfe with
    | sc hok =>
     simp only [scOk, Bool.and_eq_true] at hok
     obtain ⟨fn, h1, h2, h3, h4, _⟩ := denCall_ok hC hTb h al ae hd
     have hr := exec_call (a := a) hop hfv hok.1 hok.2 h1 h2 h3 E.w
     unfold Oper.wp
     rw [hr]
     show Calls P g (as.map a.eval) E.w _
     refine h4.mono ?_
     rintro e w' ⟨v, rfl, x, hs', hk, hbl⟩
     exact hn (E.withW w') _ _ ⟨Nat.le_refl _, fun _ _ => rfl, hbl.size, fun c hc hu => ⟨hu, hbl.block c hc⟩, fun b hb => ⟨Nat.le_refl _, fun _ => rfl⟩, fun b c hb ho hs e => ⟨ho, hbl.block c hs⟩⟩ (fun wr hw b hb hnb => rfl) hs' hk
   ·cases hd
  ·rw [if_neg (by decide)] at hd
   obtain ⟨E', x, v, h', h1, h2, h3, h4, h5, h6, h7⟩ := append_ok h.heap al ae hd o.type (as.map fun | .const _ => true | _ => false)
   exact upon_mem (.inl ((builtin_run hop E.w).trans h1)) (hn _ _ _ h2.e0 (fun wr hw b hb hnb => h7 b hb fun ver e => hnb (by
    unfold wrX at hw
    rw [hop] at hw
    dsimp only at hw
    rw [e] at hw
    cases hw
    exact List.mem_singleton.2 rfl)) (h.step h2 h3 h5 h4 o.dst) h6)
  ·rename_i b hb
   split at hd
   ·rename_i x hx
    obtain ⟨v, h1, h2⟩ := builtinH_ok h.heap al ae hx o.type (as.map fun | .const _ => true | _ => false)
    exact upon_mem (.inl ((builtin_run hop E.w).trans (h1 E.w))) (hn E _ _ (Ext.refl E).e0 (fun wr hw b hb hnb => rfl) (h.same h2 o.dst) hd)
   ·cases hd
  ·cases hd
 ·rename_i t len ps hop
  rw [if_neg (by decide)] at hd
  split at hd
  ·have hps : (ps.toList.map fun p => (p.1, s.ρ p.2)).length = (ps.toList.map fun p => (p.1, a.eval p.2)).length := by simp
   obtain ⟨E', x, v, h', h1, h2, h3, h4, h5, h6, h7⟩ := lit_ok (qs := ps.toList.map fun p => (p.1, a.eval p.2)) h.heap hps (fun i a1 a2 => by
    simp only [List.getElem_map]
    exact ⟨trivial, h.ρ _⟩) hd
   exact upon_mem (.inl (lit_run hop h1)) (hn _ _ _ h2.e0 (fun wr hw b hb hnb => h7 b hb) (h.step h2 h3 h5 h4 o.dst) h6)
  ·generalize hbs : (ps.toList.map fun p => s.ρ p.2).flatMap bufsOf = bs at hd
   have hg := h.give bs
   have hps : (ps.toList.map fun p => (p.1, givePV P s.h bs (s.ρ p.2))).length = (ps.toList.map fun p => (p.1, a.eval p.2)).length := by simp
   obtain ⟨E', x, v, h', h1, h2, h3, h4, h5, h6, h7⟩ := lit_ok (qs := ps.toList.map fun p => (p.1, a.eval p.2)) hg.heap hps (fun i a1 a2 => by
    simp only [List.getElem_map]
    exact ⟨trivial, givePV_enc h.heap bs (h.ρ _)⟩) hd
   refine upon_mem (.inl (lit_run hop h1)) (hn _ _ _ ((give_ext bs).trans h2.e0) (fun wr hw b hb hnb => (h7 b hb).trans (if_neg fun hm => hnb ?_)) (hg.step h2 h3 h5 h4 o.dst) h6)
   unfold wrX at hw
   rw [hop] at hw
   dsimp only at hw
   rw [hbs] at hw
   cases hw
   exact hm
 ·rename_i hx1 hx2
  refine plain ?_ hd
  unfold wrX
  split
  ·rename_i c hc; exact absurd hc (hx1 c)
  ·rename_i t l ps hc; exact absurd hc (hx2 t l ps)
  ·rfl
theorem exec_ok {d : Cf} {C : FuncId → List PV → Option PV} (hC : ∀ g args r, C g args = some r → FunOk P T g args r) (hTb : ∀ w w', T w → Below w.heap.size w w' → T w') (h : Rel P T w0 V E s a) {o : Oper} {K : St → Option PV} {r : PV} (hd : denExec P d C false o s K = some r)
  {next : Act → World → Prop} {Q : Exit → Act → World → Prop} (hn : ∀ E' s' a', Rel P T w0 V E' s' a' → K s' = some r → next a' E'.w) : o.wp P a E.w next Q :=
 exec_okV hC hTb h hd fun E' s' a' _ _ h' k' => hn E' s' a' h' k'
end
end Go.Den
