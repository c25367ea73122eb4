/- Regions that draw their order: what leaves memory alone is taken first, calls one by one; stores and their like at the end. -/
import Derived.Test.YtkhbkbkambflbaaGreatDoorDenMe
import Derived.OrdersHeld
import Derived.StillTail
namespace Go.Den
open Go Go.RowKit
set_option linter.unusedVariables false
section
variable {P : Program} {ops : Array Oper} {md : Region.Mode} {Q : Exit → Act → World → Prop} {S S' : World → Prop} {n : Nat} {L : Array Bool → Act → World → Prop}

def NoP (Q : Exit → Act → World → Prop) : Exit → Act → World → Prop := fun e a w => match e with
 | .panic _ => False
 | e => Q e a w
theorem noP_imp (e : Exit) (a : Act) (w : World) (h : NoP Q e a w) : Q e a w := by
 cases e <;> first | exact h | exact (h : False).elim
def wpAnyM (P : Program) (md : Region.Mode) (ops : Array Oper) (Q : Exit → Act → World → Prop) (n : Nat) (L : Array Bool → Act → World → Prop) (S : World → Prop) : Nat → Array Bool → Act → World → Prop
 | 0, listed, a, w => L listed a w
 | f + 1, listed, a, w => Region.ready md ops listed ≠ [] ∧ ∀ i ∈ Region.ready md ops listed, i < n ∧ wpOp P ops Q i (fun a' w' => S w' ∧ wpAnyM P md ops Q n L S f (listed.setIfInBounds i true) a' w') a w
theorem wpAnyM_mono (h : ∀ w, S' w → S w) : ∀ (f : Nat) (listed : Array Bool) (a : Act) (w : World), wpAnyM P md ops Q n L S' f listed a w → wpAnyM P md ops Q n L S f listed a w
 | 0, _, _, _, hh => hh
 | f + 1, _, _, _, hh => ⟨hh.1, fun i hi => ⟨(hh.2 i hi).1, wpOp_mono (fun a' w' h' => ⟨h _ h'.1, wpAnyM_mono h f _ a' w' h'.2⟩) (hh.2 i hi).2⟩⟩
theorem wpAny_of_M {g : Nat} (hL : ∀ listed a w, L listed a w → wpAny P md ops Q g listed a w) : ∀ (f : Nat) (listed : Array Bool) (a : Act) (w : World), wpAnyM P md ops Q n L S f listed a w → wpAny P md ops Q (f + g) listed a w
 | 0, listed, a, w, h => by rw [Nat.zero_add]; exact hL _ _ _ h
 | f + 1, listed, a, w, h => by
  rw [show f + 1 + g = (f + g) + 1 by omega]
  exact ⟨fun h0 => absurd h0 h.1, fun i hi => wpOp_mono (fun a' w' h' => wpAny_of_M hL f _ a' w' h'.2) (h.2 i hi).2⟩
/-- Whether operations are left for the end. -/
def TailOk (md : Region.Mode) (ops : Array Oper) (n : Nat) : Prop := n = ops.size ∨ (n < ops.size ∧ Region.sinkB md ops n = true ∧ Region.chainB md ops n = true)
theorem ready_head (ht : TailOk md ops n) {listed : Array Bool} (inv : HeadInv md ops n listed) {i : Nat} (hin : i < n) (hun : listed.getD i true = false) {j : Nat} (hj : j ∈ Region.ready md ops listed) : j < n := by
 rcases Nat.lt_or_ge j n with h | h
 ·exact h
 ·rcases ht with ht | ⟨hn, hs, hc⟩
  ·obtain ⟨_, oj, hoj, _⟩ := mem_ready.1 hj
   have := (Array.getElem?_eq_some_iff.1 hoj).1
   omega
  ·exact absurd hj (tail_waits hs hc hn inv _ i rfl hin hun j h)
theorem wpAnyM_first {i : Nat} {oi : Oper} {v : Value} (hi : ops[i]? = some oi) (hsel : ∀ (j : Nat) (o : Oper) cs b, ops[j]? = some o → o.op ≠ .select cs b)
  (hQ : ∀ c a w, Q (.panic c) (a.put oi.dst v) w → Q (.panic c) a w) (ht : TailOk md ops n) (hin : i < n) (hdone : ∀ listed a w, L listed a w → ∀ j ∈ Region.ready md ops listed, n ≤ j) :
  ∀ (f : Nat) (listed : Array Bool) (a : Act) (w : World), HeadInv md ops n listed →
   (∀ j oj, ops[j]? = some oj → j ≠ i → listed.getD j true = false → (∀ e ∈ oj.after, Region.binds md e = true → e.on ≠ i) → oi.apart ops oj = true) →
   i ∈ Region.ready md ops listed → YieldsIf P ops S oi v a → S w →
   wpAnyM P md ops Q n L S f (listed.setIfInBounds i true) (a.put oi.dst v) w → wpAnyM P md ops Q n L S (f + 1) listed a w := by
 intro f
 induction f with
 | zero =>
  intro listed a w inv _ hr hy hS H
  have hun := (mem_ready.1 hr).1
  refine ⟨fun h => (by rw [h] at hr; cases hr), fun j hj => ?_⟩
  have hjn := ready_head ht inv hin hun hj
  refine ⟨hjn, ?_⟩
  by_cases hji : j = i
  ·subst hji; exact hy.wpOp hi hS ⟨hS, H⟩
  ·have := hdone _ _ _ H j (ready_mono hj hji)
   omega
 | succ f ih =>
  intro listed a w inv hfree hr hy hS H
  have hun := (mem_ready.1 hr).1
  refine ⟨fun h => (by rw [h] at hr; cases hr), fun j hj => ?_⟩
  have hjn := ready_head ht inv hin hun hj
  refine ⟨hjn, ?_⟩
  by_cases hji : j = i
  ·subst hji; exact hy.wpOp hi hS ⟨hS, H⟩
  ·have h1 := (H.2 j (ready_mono hj hji)).2
   obtain ⟨hjun, oj, hoj, hall⟩ := mem_ready.1 hj
   have hnot : ∀ e ∈ oj.after, Region.binds md e = true → e.on ≠ i := fun e he hb heq => by
    have h1 := hall e he hb
    rw [heq, getD_both hun] at h1
    cases h1
   have h2 := wpOp_putIf hoj (hfree j oj hoj hji hjun hnot) (fun cs b => hsel i oi cs b hi) (fun cs b => hsel j oj cs b hoj) hQ hy h1
   have hfree' : ∀ k ok, ops[k]? = some ok → k ≠ i → (listed.setIfInBounds j true).getD k true = false →
     (∀ e ∈ ok.after, Region.binds md e = true → e.on ≠ i) → oi.apart ops ok = true := fun k ok hk hki hun hno => by
    refine hfree k ok hk hki ?_ hno
    by_cases hjk : j = k
    ·subst hjk; exact hjun
    ·rw [getD_set_ne true hjk] at hun; exact hun
   refine wpOp_mono (fun a' w' h3 => ⟨h3.2.1, ih (listed.setIfInBounds j true) a' w' (inv.set hj hjn) hfree' (ready_mono hr (Ne.symm hji)) h3.1 h3.2.1 ?_⟩) h2
   rw [Array.setIfInBounds_comm _ _ hji]
   exact h3.2.2
end
section
variable {P : Program} {T : World → Prop} {w0 : Bs} {V : Nat → Prop} {E : Env} {s : St} {a : Act}

theorem wanted_some {o : Oper} {ops : Array Oper} {j : Nat} {want : Bool} (hg : o.guard = some (j, want)) {g : Tmp} (hd : (ops[j]?).bind (·.dst) = some g) {b : Bool} (hb : a.tmps[g]? = some (.bool b)) : Region.wanted o (yielded ops a.tmps) = (b == want) := by
 unfold Region.wanted yielded
 rw [hg]
 dsimp only
 rw [hd]
 simp only [Option.bind_some, hb]
 cases b <;> cases want <;> rfl
theorem wanted_undef {o : Oper} {ops : Array Oper} {j : Nat} {want : Bool} (hg : o.guard = some (j, want)) {g : Tmp} (hd : (ops[j]?).bind (·.dst) = some g) (hb : a.tmps[g]? = some undef) : Region.wanted o (yielded ops a.tmps) = false := by
 unfold Region.wanted yielded
 rw [hg]
 dsimp only
 rw [hd]
 simp only [Option.bind_some, hb, undef]
 cases want <;> rfl
theorem enc_undef : Enc E (.tup []) undef := .tup (vs := #[]) rfl (fun i h1 => absurd h1 (Nat.not_lt_zero _))
theorem Rel.skipped (h : Rel P T w0 V E s a) {t : Tmp} (ht : s.fr.getD t .top = .tup []) : a.tmps[t]? = some undef := by
 have hlt : t < s.fr.length := by
  rcases Nat.lt_or_ge t s.fr.length with h | h
  ·exact h
  ·rw [List.getD, List.getElem?_eq_none h] at ht
   cases ht
 have h2 : t < a.tmps.size := by rw [← h.len]; exact hlt
 have e1 : s.fr[t] = .tup [] := by simpa [hlt] using ht
 have e2 := h.fr t hlt h2
 rw [e1] at e2
 rw [Array.getElem?_eq_getElem h2]
 generalize a.tmps[t] = v at e2
 cases e2 with
 | tup hl _ => rw [Array.eq_empty_of_size_eq_zero hl.symm]; rfl
theorem wanted_none {o : Oper} {ops : Array Oper} (hg : o.guard = none) : Region.wanted o (yielded ops a.tmps) = true := by
 unfold Region.wanted
 rw [hg]
/-- An operation with its guard: it is skipped, or it is carried out. -/
theorem oper_cases {d : Cf} {C : FuncId → List PV → Option PV} {quiet : Bool} {ops : Array Oper} {o : Oper} {K : St → Option PV} {r : PV} (h : Rel P T w0 V E s a) (hd : denOper P d C quiet ops o s K = some r) :
  (Region.wanted o (yielded ops a.tmps) = false ∧ ∃ s2, Rel P T w0 V E s2 (a.put o.dst undef) ∧ K s2 = some r) ∨ (Region.wanted o (yielded ops a.tmps) = true ∧ ∃ s2, Rel P T w0 V E s2 a ∧ denExec P d C quiet o s2 K = some r) := by
 unfold denOper at hd
 split at hd
 ·rename_i hg
  exact .inr ⟨wanted_none hg, s, h, hd⟩
 ·rename_i j want hg
  split at hd
  ·cases hd
  ·rename_i g hj
   split at hd
   ·rename_i b hb
    obtain ⟨h2, hv⟩ := h.fix hb
    have hw := wanted_some hg hj hv
    rw [hw]
    cases b
    ·rw [if_neg (by decide)] at hd
     cases want
     ·rw [if_neg (by decide)] at hd
      exact .inr ⟨rfl, _, h2, hd⟩
     ·rw [if_pos (by decide)] at hd
      exact .inl ⟨rfl, _, h2.same enc_undef o.dst, hd⟩
    ·rw [if_pos rfl] at hd
     cases want
     ·rw [if_neg (by decide)] at hd
      exact .inl ⟨rfl, _, h2.same enc_undef o.dst, hd⟩
     ·rw [if_pos rfl] at hd
      exact .inr ⟨rfl, _, h2, hd⟩
   ·rename_i hb
    exact .inl ⟨wanted_undef hg hj (h.skipped hb), _, h.same enc_undef o.dst, hd⟩
   ·cases hd
theorem guarded_cases {ops : Array Oper} {o : Oper} {X K : St → Option PV} {r : PV} (h : Rel P T w0 V E s a) (hd : guarded ops o s X K = some r) :
  (Region.wanted o (yielded ops a.tmps) = false ∧ ∃ s2, Rel P T w0 V E s2 (a.put o.dst undef) ∧ K s2 = some r) ∨ (Region.wanted o (yielded ops a.tmps) = true ∧ ∃ s2, Rel P T w0 V E s2 a ∧ X s2 = some r) := by
 unfold guarded at hd
 split at hd
 ·rename_i hg
  exact .inr ⟨wanted_none hg, s, h, hd⟩
 ·rename_i j want hg
  split at hd
  ·cases hd
  ·rename_i g hj
   split at hd
   ·rename_i b hb
    obtain ⟨h2, hv⟩ := h.fix hb
    have hw := wanted_some hg hj hv
    rw [hw]
    cases b
    ·rw [if_neg (by decide)] at hd
     cases want
     ·rw [if_neg (by decide)] at hd
      exact .inr ⟨rfl, _, h2, hd⟩
     ·rw [if_pos (by decide)] at hd
      exact .inl ⟨rfl, _, h2.same enc_undef o.dst, hd⟩
    ·rw [if_pos rfl] at hd
     cases want
     ·rw [if_neg (by decide)] at hd
      exact .inl ⟨rfl, _, h2.same enc_undef o.dst, hd⟩
     ·rw [if_pos rfl] at hd
      exact .inr ⟨rfl, _, h2, hd⟩
   ·rename_i hb
    exact .inl ⟨wanted_undef hg hj (h.skipped hb), _, h.same enc_undef o.dst, hd⟩
   ·cases hd
theorem tame_ok {d : Cf} {C : FuncId → List PV → Option PV} (h : Rel P T w0 V E s a) {o : Oper} (hq : tamesOp o = true) {K : St → Option PV} {r : PV} {quiet : Bool} (hd : denExec P d C quiet o s K = some r) :
  ∃ x v, (∀ W, readsOk W s.ρ o.op = true → ∀ w, Keep E W w → (execOp a.eval o).run P w = .ok (.value v) w) ∧ Enc E x v ∧ K (s.put o.dst x) = some r := by
 have args_ok : ∀ (as : Array Operand), (as.toList.map s.ρ).length = (as.map a.eval).size ∧ ∀ i (h1 : i < (as.toList.map s.ρ).length) (h2 : i < (as.map a.eval).size), Enc E (as.toList.map s.ρ)[i] (as.map a.eval)[i] := fun as =>
  ⟨by simp, fun i h1 h2 => by
   simp only [List.getElem_map, Array.getElem_map, Array.getElem_toList]
   exact h.ρ _⟩
 unfold denExec at hd
 split at hd
 ·rename_i c hop
  obtain ⟨callee, as, ts⟩ := c
  dsimp only at hd
  obtain ⟨al, ae⟩ := args_ok as
  split at hd
  ·unfold tamesOp at hq; rw [hop] at hq; cases hq
  ·unfold tamesOp at hq; rw [hop] at hq; cases hq
  ·rename_i b hb
   split at hd
   ·rename_i x hx
    obtain ⟨v, h1, h2⟩ := builtinH_ok h.heap al ae hx o.type (as.map fun | .const _ => true | _ => false)
    exact ⟨x, v, fun _ _ w _ => (builtin_run hop w).trans (h1 w), h2, hd⟩
   ·cases hd
  ·cases hd
 ·rename_i hop
  unfold tamesOp quietOp at hq
  rw [hop] at hq
  cases hq
 ·have hr : readOp o.op = true := by
   obtain ⟨dst, op, type, pos, after, guard⟩ := o
   cases op <;> first | rfl | (cases hq; done) | (rename_i h1 h2; exact absurd rfl (h1 _)) | (rename_i h1 h2; exact absurd rfl (h2 _ _ _))
  obtain ⟨x, v, h1, h2, h3⟩ := denOp_read h.heap h.ρ hr hd
  exact ⟨x, v, h1, h2, h3⟩
theorem call_ok {d : Cf} {C : FuncId → List PV → Option PV} (hC : ∀ g args r, C g args = some r → FunOk P T g args r) (hTb : ∀ w w', T w → Below w.heap.size w w' → T w') (h : Rel P T w0 V E s a) {o : Oper} (hq : callsOp o = true) {K : St → Option PV} {r : PV} (hd : denExec P d C false o s K = some r)
  {next : Act → World → Prop} {Q : Exit → Act → World → Prop} (hn : ∀ w' x v, Rel P T w0 V (E.withW w') (s.put o.dst x) (a.put o.dst v) → K (s.put o.dst x) = some r → Below E.w.heap.size E.w w' → next (a.put o.dst v) w') : o.wp P a E.w next Q := by
 have args_ok : ∀ (as : Array Operand), (as.toList.map s.ρ).length = (as.map a.eval).size ∧ ∀ i (h1 : i < (as.toList.map s.ρ).length) (h2 : i < (as.map a.eval).size), Enc E (as.toList.map s.ρ)[i] (as.map a.eval)[i] := fun as =>
  ⟨by simp, fun i h1 h2 => by
   simp only [List.getElem_map, Array.getElem_map, Array.getElem_toList]
   exact h.ρ _⟩
 unfold denExec at hd
 split at hd
 ·rename_i c hop
  obtain ⟨callee, as, ts⟩ := c
  dsimp only at hd
  obtain ⟨al, ae⟩ := args_ok as
  split at hd
  ·rename_i f
   split at hd
   ·rename_i g fs cs hf
    have hfe := h.ρ f
    rw [hf] at hfe
    generalize hfv : a.eval f = fv at hfe
    cases hfe with
    | sc hok =>
     simp only [scOk, Bool.and_eq_true] at hok
     obtain ⟨fn, h1, h2, h3, h4, _⟩ := denCall_ok hC hTb h al ae hd
     have hr := exec_call (a := a) hop hfv hok.1 hok.2 h1 h2 h3 E.w
     unfold Oper.wp
     rw [hr]
     show Calls P g (as.map a.eval) E.w _
     refine h4.mono ?_
     rintro e w' ⟨v, rfl, x, hs', hk, hb⟩
     exact hn _ _ _ hs' hk hb
   ·cases hd
  ·unfold callsOp at hq; rw [hop] at hq; cases hq
  ·unfold callsOp at hq; rw [hop] at hq; cases hq
  ·unfold callsOp at hq; rw [hop] at hq; cases hq
 ·rename_i hop
  unfold callsOp at hq; rw [hop] at hq; cases hq
 ·rename_i h1 h2
  unfold callsOp at hq
  split at hq
  ·rename_i c hop
   exact absurd hop (h1 _)
  ·cases hq
/-- The head of a region that draws. -/
theorem plan_ok {d : Cf} {C : FuncId → List PV → Option PV} (hC : ∀ g args r, C g args = some r → FunOk P T g args r) (hTb : ∀ w w', T w → Below w.heap.size w w' → T w') {ops : Array Oper} {n : Nat} {Q : Exit → Act → World → Prop} {K : St → Option PV} {r : PV} {L' : Act → World → Prop}
  (hsel : Region.noSelect ops = true) (ht : TailOk .any ops n) (hn : ∀ E' s' a', Rel P T w0 V E' s' a' → K s' = some r → L' a' E'.w) : ∀ (f : Nat) (l : List Nat) {E : Env} {s : St} {a : Act} {listed : Array Bool},
  planFrom ops n f listed = some l → HeadInv .any ops n listed → Rel P T w0 V E s a → denPlan P d C ops l K s = some r →
  wpAnyM P .any ops (NoP Q) n (fun listed' a' w' => Region.seqB .any ops (ops.size - n) n listed' = true ∧ L' a' w') (fun w => Below E.w.heap.size E.w w ∧ T w) f listed a E.w
 | 0, l, E, s, a, listed, hp, inv, h, hd => by
  unfold planFrom at hp
  split at hp
  ·rename_i hs
   cases hp
   exact ⟨hs, hn _ _ _ h hd⟩
  ·cases hp
 | f + 1, l, E, s, a, listed, hp, inv, h, hd => by
  have hdone : ∀ (listed' : Array Bool) (a' : Act) (w' : World), Region.seqB .any ops (ops.size - n) n listed' = true ∧ L' a' w' → ∀ j ∈ Region.ready .any ops listed', n ≤ j := fun _ _ _ h' => seqB_ready h'.1
  have hS : Below E.w.heap.size E.w E.w ∧ T E.w := ⟨Below.refl _ _, hTb _ _ h.T h.below⟩
  unfold planFrom at hp
  split at hp
  ·rename_i i hfi
   obtain ⟨l', hl', rfl⟩ := Option.map_eq_some_iff.1 hp
   have hmem := List.mem_of_find?_eq_some hfi
   have hcond := List.find?_some hfi
   simp only [Bool.and_eq_true, decide_eq_true_eq] at hcond
   obtain ⟨hin, htm, hfr⟩ := hcond
   obtain ⟨_, oi, hoi, _⟩ := mem_ready.1 hmem
   rw [hoi] at htm
   have htm' : tamesOp oi = true := htm
   unfold denPlan at hd
   rw [hoi] at hd
   dsimp only at hd
   rcases oper_cases h hd with ⟨hw, s2, h2, hk⟩ | ⟨hw, s2, h2, hk⟩
   ·exact wpAnyM_first hoi (Region.noSelect_spec hsel) (fun _ _ _ hf => hf) ht hin hdone f listed a E.w inv (Region.free_spec hoi hfr) hmem (.inr ⟨hw, rfl⟩) hS
     (plan_ok hC hTb hsel ht hn f l' hl' (inv.set hmem hin) h2 hk)
   ·obtain ⟨x, v, h3, h4, h5⟩ := tame_ok h2 htm' hk
    exact wpAnyM_first hoi (Region.noSelect_spec hsel) (fun _ _ _ hf => hf) ht hin hdone f listed a E.w inv (Region.free_spec hoi hfr) hmem (.inl ⟨hw, fun w hw' => h3 [] (readsOk_nil _ _) w fun b hb _ _ => hw'.1.block b hb⟩) hS
     (plan_ok hC hTb hsel ht hn f l' hl' (inv.set hmem hin) (h2.same h4 oi.dst) h5)
  ·split at hp
   ·rename_i i hri
    split at hp
    ·rename_i hc
     simp only [Bool.and_eq_true, decide_eq_true_eq] at hc
     obtain ⟨hin, hcl⟩ := hc
     obtain ⟨l', hl', rfl⟩ := Option.map_eq_some_iff.1 hp
     have hmem : i ∈ Region.ready .any ops listed := by rw [hri]; exact List.mem_singleton.2 rfl
     obtain ⟨_, oi, hoi, _⟩ := mem_ready.1 hmem
     rw [hoi] at hcl
     have hcl' : callsOp oi = true := hcl
     unfold denPlan at hd
     rw [hoi] at hd
     dsimp only at hd
     refine ⟨fun h0 => (by rw [h0] at hmem; cases hmem), fun j hj => ?_⟩
     rw [hri] at hj
     have hji : j = i := by simpa using hj
     subst hji
     refine ⟨hin, ?_⟩
     unfold wpOp
     rw [hoi]
     dsimp only
     rcases oper_cases h hd with ⟨hw, s2, h2, hk⟩ | ⟨hw, s2, h2, hk⟩
     ·rw [if_neg (by rw [hw]; decide)]
      exact ⟨hS, plan_ok hC hTb hsel ht hn f l' hl' (inv.set hmem hin) h2 hk⟩
     ·rw [if_pos hw]
      refine .inl (call_ok hC hTb h2 hcl' hk fun w' x v h' hk' hb => ?_)
      refine ⟨⟨hb, hTb _ _ hS.2 hb⟩, wpAnyM_mono (fun w hw' => ⟨hb.trans (hw'.1.mono hb.size), hw'.2⟩) f _ _ _ (plan_ok hC hTb hsel ht hn f l' hl' (inv.set hmem hin) h' hk')⟩
    ·cases hp
   ·cases hp
theorem dropSlots_get (ds : List Tmp) : ∀ (k : Nat) (l : List PV), (dropSlots ds k l).length = l.length ∧ ∀ i (h1 : i < (dropSlots ds k l).length) (h2 : i < l.length), (dropSlots ds k l)[i] = .top ∨ ((k + i) ∉ ds ∧ (dropSlots ds k l)[i] = l[i])
 | k, [] => ⟨rfl, fun i h1 => absurd h1 (Nat.not_lt_zero _)⟩
 | k, x :: xs => by
  obtain ⟨h1, h2⟩ := dropSlots_get ds (k + 1) xs
  refine ⟨by simp [dropSlots, h1], fun i a1 a2 => ?_⟩
  cases i with
  | zero =>
   simp only [dropSlots, List.getElem_cons_zero]
   split
   ·exact .inl rfl
   ·rename_i hc
    exact .inr ⟨by simpa using hc, rfl⟩
  | succ i =>
   simp only [dropSlots, List.getElem_cons_succ]
   have := h2 i (by simpa [dropSlots] using a1) (by simpa using a2)
   rwa [show k + 1 + i = k + (i + 1) by omega] at this
/-- Slots outside of ds are as they were. -/
structure Agree (ds : List Tmp) (a a' : Act) : Prop where
 size : a'.tmps.size = a.tmps.size
 get : ∀ t, t ∉ ds → a'.tmps[t]? = a.tmps[t]?
theorem Agree.refl (ds : List Tmp) (a : Act) : Agree ds a a := ⟨rfl, fun _ _ => rfl⟩
theorem Agree.trans {ds : List Tmp} {a b c : Act} (h : Agree ds a b) (k : Agree ds b c) : Agree ds a c := ⟨k.size.trans h.size, fun t ht => (k.get t ht).trans (h.get t ht)⟩
theorem Agree.mono {ds es : List Tmp} {a b : Act} (h : Agree ds a b) (hs : ∀ t, t ∈ ds → t ∈ es) : Agree es a b := ⟨h.size, fun t ht => h.get t fun hh => ht (hs t hh)⟩
theorem Agree.put (a : Act) (dst : Option Tmp) (v : Value) {ds : List Tmp} (hd : ∀ t, dst = some t → t ∈ ds) : Agree ds a (a.put dst v) := by
 cases dst with
 | none => exact .refl ds a
 | some d =>
  refine ⟨by simp [Act.put], fun t ht => ?_⟩
  have hne : d ≠ t := fun e => ht (e ▸ hd d rfl)
  show (a.tmps.setIfInBounds d v)[t]? = _
  exact Array.getElem?_setIfInBounds_ne hne
/-- Slots are forgotten; others are as they were. -/
theorem Rel.forget (h : Rel P T w0 V E s a) {a' : Act} {w' : World} {s' : St} {ds : List Tmp} (hb : Below E.w.heap.size E.w w') (ha : Agree ds a a') (h' : Rel P T w0 V (E.withW w') s' a') : Rel P T w0 V (E.withW w') (s.forget ds) a' := by
 have h2 := h.world hb
 obtain ⟨e1, e2⟩ := dropSlots_get ds 0 s.fr
 refine ⟨h2.heap, by rw [show (s.forget ds).fr = dropSlots ds 0 s.fr from rfl, e1, h.len, ha.size], fun i a1 a2 => ?_, h2.below, h'.defers, h2.V, h2.T, h2.hand⟩
 have i2 : i < s.fr.length := by rw [← e1]; exact a1
 rcases e2 i a1 i2 with e | ⟨hni, e⟩
 ·show Enc _ (dropSlots ds 0 s.fr)[i] _
  rw [e]; exact .top
 ·show Enc _ (dropSlots ds 0 s.fr)[i] _
  rw [e]
  rw [Nat.zero_add] at hni
  have e3 := ha.get i hni
  have i3 : i < a.tmps.size := by rw [← ha.size]; exact a2
  rw [Array.getElem?_eq_getElem a2, Array.getElem?_eq_getElem i3] at e3
  rw [Option.some.inj e3]
  exact h2.fr i i2 i3
/-- What a slot has is known from elsewhere. -/
theorem Rel.know (h : Rel P T w0 V E s a) {t : Tmp} {x : PV} (hx : ∀ (h1 : t < a.tmps.size), Enc E x a.tmps[t]) : Rel P T w0 V E (s.put (some t) x) a := by
 refine ⟨h.heap, by simp [St.put, h.len], fun i h1 h2 => ?_, h.below, h.defers, h.V, h.T, by rw [put_m]; exact h.hand⟩
 have h1' : i < (s.fr.set t x).length := h1
 show Enc E ((s.fr.set t x)[i]'h1') _
 rw [List.getElem_set]
 split
 ·rename_i e; subst e; exact hx h2
 ·exact h.fr i (by simpa [St.put] using h1) h2
theorem boolOf_spec {x r : PV} (h : boolOf x = some r) : ∃ b, x = .sc (.bool b) ∧ r = .sc (.bool b) := by
 unfold boolOf at h
 split at h
 ·rename_i b; cases h; exact ⟨b, rfl, rfl⟩
 ·cases h
def pickOp (o : Oper) : Bool := match o.op with
 | .pick _ _ _ => true
 | _ => false
theorem pick_calls {o : Oper} (h : pickOp o = true) : callsOp o = false := by
 unfold pickOp at h
 unfold callsOp
 split at h
 ·rename_i hop; rw [hop]
 ·cases h
theorem pick_mem {o : Oper} (h : pickOp o = true) : memOp P s o = false := by
 unfold pickOp at h
 unfold memOp
 split at h
 ·rename_i hop; rw [hop]
 ·cases h
def qnOp (o : Oper) : Bool := quietOp o && (o.guard.isSome || pickOp o)
theorem qn_quiet {l : List Oper} (h : l.all qnOp = true) : l.all quietOp = true := by
 rw [List.all_eq_true] at h ⊢
 intro o ho
 have := h o ho
 unfold qnOp at this
 rw [Bool.and_eq_true] at this
 exact this.1
theorem cutPick_spec {g : Tmp} : ∀ {l xs l' : List Oper} {pd : Tmp}, cutPick g l = some (xs, pd, l') → l = xs ++ l' ∧ xs.all qnOp = true
 | [], _, _, _, h => by cases h
 | o :: l, xs, l', pd, h => by
  have more : quietOp o = true → (match cutPick g l, o.guard with
   | some (xs, pd', l'), some _ => some (o :: xs, pd', l')
   | _, _ => none) = some (xs, pd, l') → o :: l = xs ++ l' ∧ xs.all qnOp = true := by
   intro hq h
   split at h
   ·rename_i xs0 pd0 l0 _ hc hgu
    cases h
    obtain ⟨e1, e2⟩ := cutPick_spec hc
    exact ⟨by rw [e1]; rfl, by simp [qnOp, hq, e2, hgu]⟩
   ·cases h
  unfold cutPick at h
  split at h
  ·rename_i hq
   split at h
   ·split at h
    ·rename_i hop _ _
     cases h; exact ⟨rfl, by simp [qnOp, hq, pickOp, hop]⟩
    ·exact more hq h
   ·exact more hq h
  ·cases h
def qnH (d : Cf) (o : Oper) : Bool := qnOp o && !handT d o
theorem qnH_qn {d : Cf} {l : List Oper} (h : l.all (qnH d) = true) : l.all qnOp = true := by
 rw [List.all_eq_true] at h ⊢
 intro o ho
 have := h o ho
 unfold qnH at this
 rw [Bool.and_eq_true] at this
 exact this.1
theorem groupOf_spec {d : Cf} {ops : Array Oper} {o : Oper} {rest xs rest' : List Oper} {pd : Tmp} (h : groupOf d ops s o rest = some (xs, pd, rest')) : quietOp o = true ∧ rest = xs ++ rest' ∧ xs.all (qnH d) = true := by
 unfold groupOf at h
 split at h
 ·split at h
  ·split at h
   ·rename_i hc
    rw [Bool.and_eq_true] at hc
    split at h
    ·rename_i ys pd2 l2 hcut
     split at h
     ·cases h
     ·rename_i hany
      obtain ⟨c1, c2⟩ := cutPick_spec hcut
      cases h
      refine ⟨hc.1, c1, ?_⟩
      rw [List.all_eq_true] at c2 ⊢
      intro x hx
      unfold qnH
      rw [Bool.and_eq_true]
      refine ⟨c2 x hx, ?_⟩
      cases hh : handT d x
      ·rfl
      ·exfalso
       apply hany
       rw [List.any_eq_true]
       exact ⟨x, List.mem_cons_of_mem _ hx, hh⟩
    ·cases h
   ·cases h
  ·cases h
 ·cases h
theorem mem_dsts {o : Oper} {l : List Oper} (h : o ∈ l) (t : Tmp) (ht : o.dst = some t) : t ∈ dstsOf l := List.mem_filterMap.2 ⟨o, h, ht⟩
theorem dsts_sub {l l' : List Oper} (h : ∀ o, o ∈ l → o ∈ l') (t : Tmp) (ht : t ∈ dstsOf l) : t ∈ dstsOf l' := by
 obtain ⟨o, ho, e⟩ := List.mem_filterMap.1 ht
 exact List.mem_filterMap.2 ⟨o, h o ho, e⟩
theorem tames_or_calls {o : Oper} (h : quietOp o = true) : tamesOp o = true ∨ callsOp o = true := by
 obtain ⟨dst, op, type, pos, after, guard⟩ := o
 cases op with
 | call c =>
  obtain ⟨callee, as, ts⟩ := c
  cases callee with
  | value f => exact .inr rfl
  | builtin b => cases b <;> first | exact .inl rfl | cases h
  | invoke _ _ => cases h
 | _ => exact .inl h
/-- One quiet operation, in the text's order. -/
theorem qstep {d : Cf} {C : FuncId → List PV → Option PV} (hC : ∀ g args r, C g args = some r → FunOk P T g args r) (hTb : ∀ w w', T w → Below w.heap.size w w' → T w') {ops : Array Oper} {Q : Exit → Act → World → Prop} {K : St → Option PV} {r : PV} {o : Oper} {rest2 : List Oper} (hq : quietOp o = true)
  (h : Rel P T w0 V E s a) (hd : denOper P d C false ops o s K = some r) (hn : ∀ w' s' a', Below E.w.heap.size E.w w' → Agree (dstsOf [o]) a a' → Rel P T w0 V (E.withW w') s' a' → K s' = some r → wpList P ops Q rest2 a' w') : wpList P ops Q (o :: rest2) a E.w := by
 have hag : ∀ v, Agree (dstsOf [o]) a (a.put o.dst v) := fun v => .put a o.dst v fun t ht => mem_dsts (List.mem_singleton.2 rfl) t ht
 unfold wpList
 rcases oper_cases h hd with ⟨hw, s2, h2, hk⟩ | ⟨hw, s2, h2, hk⟩
 ·rw [if_neg (by rw [hw]; decide)]
  exact hn E.w s2 _ (Below.refl _ _) (hag _) h2 hk
 ·rw [if_pos hw]
  rcases tames_or_calls hq with ht | hc
  ·obtain ⟨x, v, h3, h4, h5⟩ := tame_ok h2 ht hk
   refine .inl (upon_mem (.inl (h3 [] (readsOk_nil _ _) E.w (Keep.refl _ _))) ?_)
   exact hn E.w _ _ (Below.refl _ _) (hag _) (h2.same h4 o.dst) h5
  ·exact .inl (call_ok hC hTb h2 hc hk fun w' x v h' hk' hb => hn w' _ _ hb (hag _) h' hk')
theorem giveOp_calls {d : Cf} {o : Oper} (h : giveOp P d s o = true) : callsOp o = true := by
 unfold giveOp at h
 unfold callsOp
 split at h
 ·rename_i c hc
  split at h
  ·rename_i f hf
   first | rfl | rw [hf]
  ·cases h
 ·cases h
theorem handOp_calls {d : Cf} {o : Oper} (h : handOp P d s o = true) : callsOp o = true := by
 unfold handOp at h
 unfold callsOp
 split at h
 ·rename_i c hc
  split at h
  ·rename_i f hf
   first | rfl | rw [hf]
  ·cases h
 ·cases h
theorem qn_hand {d : Cf} {o : Oper} (h : qnOp o = true) : (!false && o.guard.isNone && handOp P d s o) = false := by
 unfold qnOp at h
 simp only [Bool.and_eq_true, Bool.or_eq_true] at h
 cases hg : handOp P d s o with
 | false => simp
 | true =>
  have := handOp_calls hg
  rcases h.2 with h2 | h2
  ·cases e : o.guard with
   | none => rw [e] at h2; cases h2
   | some x => simp
  ·rw [pick_calls h2] at this; cases this
theorem qn_give {d : Cf} {o : Oper} (h : qnOp o = true) : (!false && o.guard.isNone && giveOp P d s o) = false := by
 unfold qnOp at h
 simp only [Bool.and_eq_true, Bool.or_eq_true] at h
 cases hg : giveOp P d s o with
 | false => simp
 | true =>
  have := giveOp_calls hg
  rcases h.2 with h2 | h2
  ·cases e : o.guard with
   | none => rw [e] at h2; cases h2
   | some x => simp
  ·rw [pick_calls h2] at this; cases this
theorem qn_mem {o : Oper} (h : qnOp o = true) : (!false && o.guard.isNone && memOp P s o) = false := by
 unfold qnOp at h
 simp only [Bool.and_eq_true, Bool.or_eq_true] at h
 rcases h.2 with h2 | h2
 ·cases e : o.guard with
  | none => rw [e] at h2; cases h2
  | some x => simp
 ·rw [pick_mem h2]; simp
/-- Quiet operations, in the text's order. -/
theorem quietF_ok {d : Cf} {C : FuncId → List PV → Option PV} (hC : ∀ g args r, C g args = some r → FunOk P T g args r) (hTb : ∀ w w', T w → Below w.heap.size w w' → T w') {ops : Array Oper} {Q : Exit → Act → World → Prop} : ∀ (f : Nat) (l l2 : List Oper) {K : St → Option PV} {r : PV} {E : Env} {s : St} {a : Act},
  l.all (qnH d) = true → Rel P T w0 V E s a → denOpsF P d C false ops f l K s = some r → (∀ w' s' a', Below E.w.heap.size E.w w' → Agree (dstsOf l) a a' → Rel P T w0 V (E.withW w') s' a' → K s' = some r → wpList P ops Q l2 a' w') → wpList P ops Q (l ++ l2) a E.w
 | 0, [], l2, K, r, E, s, a, _, h, hd, hn => hn E.w s a (Below.refl _ _) (.refl _ _) h (by unfold denOpsF at hd; exact hd)
 | f + 1, [], l2, K, r, E, s, a, _, h, hd, hn => hn E.w s a (Below.refl _ _) (.refl _ _) h (by unfold denOpsF at hd; exact hd)
 | 0, o :: rest, l2, K, r, E, s, a, _, h, hd, hn => by unfold denOpsF at hd; cases hd
 | f + 1, o :: rest, l2, K, r, E, s, a, hall, h, hd, hn => by
  rw [List.all_cons, Bool.and_eq_true] at hall
  have hqh := hall.1
  unfold qnH at hqh
  rw [Bool.and_eq_true, Bool.not_eq_true'] at hqh
  have hqo : quietOp o = true := (Bool.and_eq_true _ _ ▸ hqh.1 : quietOp o = true ∧ _).1
  unfold denOpsF at hd
  split at hd
  ·rename_i xs pd rest' hg
   obtain ⟨_, e, hxs⟩ := groupOf_spec hg
   subst e
   have hrest' : rest'.all (qnH d) = true := by
    have := hall.2
    rw [List.all_append, Bool.and_eq_true] at this
    exact this.2
   obtain ⟨r1, hd1, hd2⟩ := Option.bind_eq_some_iff.1 hd
   rw [List.cons_append, List.append_assoc]
   refine qstep hC hTb hqo h hd1 fun w1 s1 a1 hb1 ha1 h1 hk1 => ?_
   refine quietF_ok hC hTb f xs (rest' ++ l2) hxs h1 hk1 fun w2 s2 a2 hb2 ha2 h2 hk2 => ?_
   obtain ⟨b, hsb, rfl⟩ := boolOf_spec hk2
   have hb : Below E.w.heap.size E.w w2 := hb1.trans (hb2.mono hb1.size)
   have ha : Agree (dstsOf (o :: xs)) a a2 := (ha1.mono fun t ht => dsts_sub (fun o' ho' => by rw [List.mem_singleton.1 ho']; exact List.mem_cons_self) t ht).trans (ha2.mono fun t ht => dsts_sub (fun o' ho' => List.mem_cons_of_mem _ ho') t ht)
   have h3 := (h.forget hb ha h2).know (t := pd) (x := .sc (.bool b)) fun hp => by
    have hp' : pd < s2.fr.length := by rw [h2.len]; exact hp
    have := h2.fr pd hp' hp
    have e1 : s2.fr[pd] = .sc (.bool b) := by simpa [hp'] using hsb
    rwa [e1] at this
   refine quietF_ok hC hTb f rest' l2 (E := E.withW w2) hrest' h3 hd2 fun w3 s3 a3 hb3 ha3 h4 hk4 => ?_
   refine hn w3 s3 a3 (hb.trans (hb3.mono hb.size)) ?_ h4 hk4
   exact (ha.mono fun t ht => dsts_sub (fun o' ho' => by
    rcases List.mem_cons.1 ho' with e | e
    ·rw [e]; exact List.mem_cons_self
    ·exact List.mem_cons_of_mem _ (List.mem_append_left _ e)) t ht).trans (ha3.mono fun t ht => dsts_sub (fun o' ho' => List.mem_cons_of_mem _ (List.mem_append_right _ ho')) t ht)
  ·rw [List.cons_append]
   rw [if_neg (by rw [qn_hand hqh.1]; decide), if_neg (by rw [qn_give hqh.1]; decide), if_neg (by rw [qn_mem hqh.1]; decide)] at hd
   refine qstep hC hTb hqo h hd fun w1 s1 a1 hb1 ha1 h1 hk1 => ?_
   refine quietF_ok hC hTb f rest l2 (E := E.withW w1) hall.2 h1 hk1 fun w2 s2 a2 hb2 ha2 h2 hk2 => ?_
   refine hn w2 s2 a2 (hb1.trans (hb2.mono hb1.size)) ?_ h2 hk2
   exact (ha1.mono fun t ht => dsts_sub (fun o' ho' => by rw [List.mem_singleton.1 ho']; exact List.mem_cons_self) t ht).trans (ha2.mono fun t ht => dsts_sub (fun o' ho' => List.mem_cons_of_mem _ ho') t ht)
end
end Go.Den
