/- Regions, loops' heads, code. -/
import Derived.Test.YtkhbkbkambflbaaGreatDoorDenT
namespace Go.Den
open Go Go.RowKit
set_option linter.unusedVariables false
section
variable {P : Program} {T : World → Prop} {w0 : Bs} {V : Nat → Prop} {E : Env} {s : St} {a : Act}

/-- The operations of a region whose order is the text's. -/
theorem opsF_ok {d : Cf} {C : FuncId → List PV → Option PV} (hC : ∀ g args r, C g args = some r → FunOk P T g args r) (hTb : ∀ w w', T w → Below w.heap.size w w' → T w') {ops : Array Oper} {Q : Exit → Act → World → Prop} : ∀ (f : Nat) (l l2 : List Oper) {K : St → Option PV} {r : PV} {E : Env} {s : St} {a : Act},
  Rel P T w0 V E s a → denOpsF P d C false ops f l K s = some r → (∀ E' s' a', Rel P T w0 V E' s' a' → K s' = some r → wpList P ops Q l2 a' E'.w) → wpList P ops Q (l ++ l2) a E.w
 | 0, [], l2, K, r, E, s, a, h, hd, hn => hn E s a h (by unfold denOpsF at hd; exact hd)
 | f + 1, [], l2, K, r, E, s, a, h, hd, hn => hn E s a h (by unfold denOpsF at hd; exact hd)
 | 0, o :: rest, l2, K, r, E, s, a, h, hd, hn => by unfold denOpsF at hd; cases hd
 | f + 1, o :: rest, l2, K, r, E, s, a, h, hd, hn => by
  unfold denOpsF at hd
  split at hd
  ·rename_i xs pd rest' hg
   obtain ⟨hq, e, hxs⟩ := groupOf_spec hg
   subst e
   obtain ⟨r1, hd1, hd2⟩ := Option.bind_eq_some_iff.1 hd
   rw [List.cons_append, List.append_assoc]
   refine qstep hC hTb hq h hd1 fun w1 s1 a1 hb1 ha1 h1 hk1 => ?_
   refine quietF_ok hC hTb f xs (rest' ++ l2) (E := E.withW w1) hxs h1 hk1 fun w2 s2 a2 hb2 ha2 h2 hk2 => ?_
   obtain ⟨b, hsb, rfl⟩ := boolOf_spec hk2
   have hb : Below E.w.heap.size E.w w2 := hb1.trans (hb2.mono hb1.size)
   have ha : Agree (dstsOf (o :: xs)) a a2 := (ha1.mono fun t ht => dsts_sub (fun o' ho' => by rw [List.mem_singleton.1 ho']; exact List.mem_cons_self) t ht).trans (ha2.mono fun t ht => dsts_sub (fun o' ho' => List.mem_cons_of_mem _ ho') t ht)
   have h3 := (h.forget hb ha h2).know (t := pd) (x := .sc (.bool b)) fun hp => by
    have hp' : pd < s2.fr.length := by rw [h2.len]; exact hp
    have := h2.fr pd hp' hp
    have e1 : s2.fr[pd] = .sc (.bool b) := by simpa [hp'] using hsb
    rwa [e1] at this
   exact opsF_ok hC hTb f rest' l2 (E := E.withW w2) h3 hd2 hn
  ·rw [List.cons_append]
   unfold wpList
   split at hd
   ·rename_i hgv
    simp only [Bool.and_eq_true, Option.isNone_iff_eq_none] at hgv
    rw [if_pos (wanted_none hgv.1.2)]
    exact .inl (hand_ok hC hTb h hd fun E' s' a' h' hk' => opsF_ok hC hTb f rest l2 h' hk' hn)
   split at hd
   ·rename_i hgv
    simp only [Bool.and_eq_true, Option.isNone_iff_eq_none] at hgv
    rw [if_pos (wanted_none hgv.1.2)]
    exact .inl (give_ok hC hTb h hd fun E' s' a' h' hk' => opsF_ok hC hTb f rest l2 h' hk' hn)
   split at hd
   ·rename_i hgv
    simp only [Bool.and_eq_true, Option.isNone_iff_eq_none] at hgv
    rw [if_pos (wanted_none hgv.1.2)]
    exact .inl (memO_ok h hgv.2 hd fun E' s' a' h' hk' => opsF_ok hC hTb f rest l2 h' hk' hn)
   rcases oper_cases h hd with ⟨hw, s2, h2, hk⟩ | ⟨hw, s2, h2, hk⟩
   ·rw [if_neg (by rw [hw]; decide)]
    exact opsF_ok hC hTb f rest l2 h2 hk hn
   ·rw [if_pos hw]
    exact .inl (exec_ok hC hTb h2 hk fun E' s' a' h' hk' => opsF_ok hC hTb f rest l2 h' hk' hn)
theorem opsH_ok {d : Cf} {C : FuncId → List PV → Option PV} (hC : ∀ g args r, C g args = some r → FunOk P T g args r) (hTb : ∀ w w', T w → Below w.heap.size w w' → T w') {ops : Array Oper} {Q : Exit → Act → World → Prop} {K : St → Option PV} {r : PV} : ∀ (l : List Oper) {E : Env} {s : St} {a : Act},
  (∀ E' s' a', Rel P T w0 V E' s' a' → K s' = some r → Q .normal a' E'.w) → Rel P T w0 V E s a → denOpsH P d C ops l K s = some r → wpList P ops Q l a E.w
 | [], E, s, a, hn, h, hd => by unfold wpList; exact hn E s a h (by unfold denOpsH at hd; exact hd)
 | o :: rest, E, s, a, hn, h, hd => by
  unfold denOpsH at hd
  unfold wpList
  split at hd
  ·rename_i hgv
   simp only [Bool.and_eq_true, Option.isNone_iff_eq_none] at hgv
   rw [if_pos (wanted_none hgv.1)]
   exact .inl (hand_ok hC hTb h hd fun E' s' a' h' hk' => opsH_ok hC hTb rest hn h' hk')
  split at hd
  ·rcases guarded_cases h hd with ⟨hw, s2, h2, hk⟩ | ⟨hw, s2, h2, hk⟩
   ·rw [if_neg (by rw [hw]; decide)]
    exact opsH_ok hC hTb rest hn h2 hk
   ·rw [if_pos hw]
    exact .inl (hand_ok hC hTb h2 hk fun E' s' a' h' hk' => opsH_ok hC hTb rest hn h' hk')
  rcases oper_cases h hd with ⟨hw, s2, h2, hk⟩ | ⟨hw, s2, h2, hk⟩
  ·rw [if_neg (by rw [hw]; decide)]
   exact opsH_ok hC hTb rest hn h2 hk
  ·rw [if_pos hw]
   exact .inl (exec_ok hC hTb h2 hk fun E' s' a' h' hk' => opsH_ok hC hTb rest hn h' hk')
theorem ops_ok {d : Cf} {C : FuncId → List PV → Option PV} (hC : ∀ g args r, C g args = some r → FunOk P T g args r) (hTb : ∀ w w', T w → Below w.heap.size w w' → T w') {ops : Array Oper} {Q : Exit → Act → World → Prop} {K : St → Option PV} {r : PV}
  (hn : ∀ E' s' a', Rel P T w0 V E' s' a' → K s' = some r → Q .normal a' E'.w) (l : List Oper) {E : Env} {s : St} {a : Act} (h : Rel P T w0 V E s a) (hd : denOps P d C false ops l K s = some r) : wpList P ops Q l a E.w := by
 unfold denOps at hd
 split at hd
 ·exact opsH_ok hC hTb l hn h hd
 ·have := opsF_ok (Q := Q) hC hTb (l.length + 1) l [] h hd (fun E' s' a' h' hk => by unfold wpList; exact hn E' s' a' h' hk)
  rwa [List.append_nil] at this
/-- One operation in a region that draws its order. -/
theorem quiet_ok {d : Cf} {C : FuncId → List PV → Option PV} (hC : ∀ g args r, C g args = some r → FunOk P T g args r) (hTb : ∀ w w', T w → Below w.heap.size w w' → T w') (h : Rel P T w0 V E s a) {o : Oper} (hq : quietOp o = true) {K : St → Option PV} {r : PV} (hd : denExec P d C true o s K = some r)
  {next : Act → Prop} (hn : ∀ x v, Rel P T w0 V E (s.put o.dst x) (a.put o.dst v) → K (s.put o.dst x) = some r → next (a.put o.dst v)) : o.quiet P a (fun w => Below E.w.heap.size E.w w ∧ T w) next := by
 have keep : ∀ w, Below E.w.heap.size E.w w → Keep E [] w := fun w hb c hc _ _ => hb.block c hc
 have args_ok : ∀ (as : Array Operand), (as.toList.map s.ρ).length = (as.map a.eval).size ∧ ∀ i (h1 : i < (as.toList.map s.ρ).length) (h2 : i < (as.map a.eval).size), Enc E (as.toList.map s.ρ)[i] (as.map a.eval)[i] := fun as =>
  ⟨by simp, fun i h1 h2 => by
   simp only [List.getElem_map, Array.getElem_map, Array.getElem_toList]
   exact h.ρ _⟩
 have val : ∀ {x : PV} {v : Value}, (∀ w, Keep E [] w → (execOp a.eval o).run P w = .ok (.value v) w) → Enc E x v → K (s.put o.dst x) = some r → o.quiet P a (fun w => Below E.w.heap.size E.w w ∧ T w) next := by
  intro x v h1 h2 h3
  refine ⟨v, fun w hw => ?_, hn _ _ (h.same h2 o.dst) h3⟩
  unfold Oper.quietAt
  rw [h1 w (keep w hw.1)]
  exact ⟨rfl, rfl⟩
 have plain : readOp o.op = true → denOp P s.ρ s.h o.op (fun x h => K (St.put { s with h := h } o.dst x)) = some r → o.quiet P a (fun w => Below E.w.heap.size E.w w ∧ T w) next := by
  intro hr hd
  obtain ⟨x, v, h1, h2, h3⟩ := denOp_read h.heap h.ρ hr hd
  exact val (h1 [] (readsOk_nil _ _)) h2 h3
 unfold denExec at hd
 split at hd
 ·rename_i c hop
  obtain ⟨callee, as, ts⟩ := c
  dsimp only at hd
  obtain ⟨al, ae⟩ := args_ok as
  split at hd
  ·rename_i f
   split at hd
   ·rename_i g fs cs hf
    have hfe := h.ρ f
    rw [hf] at hfe
    generalize hfv : a.eval f = fv at hfe
    cases hfe with
    | sc hok =>
     simp only [scOk, Bool.and_eq_true] at hok
     obtain ⟨fn, h1, h2, h3, _, h5⟩ := denCall_ok hC hTb h al ae hd
     obtain ⟨x, v, h6, h7, h8⟩ := h5 rfl
     refine ⟨v, fun w hw => ?_, hn _ _ (h.same h6 o.dst) h7⟩
     unfold Oper.quietAt
     rw [exec_call (a := a) hop hfv hok.1 hok.2 h1 h2 h3 w]
     refine ⟨rfl, (h8 w hw.1 hw.2).mono ?_⟩
     rintro e w' ⟨rfl, hb⟩
     exact ⟨rfl, hw.1.trans (hb.mono hw.1.size), hTb _ _ hw.2 hb⟩
   ·cases hd
  ·rw [if_pos rfl] at hd; cases hd
  ·rename_i b hb
   split at hd
   ·rename_i x hx
    obtain ⟨v, h1, h2⟩ := builtinH_ok h.heap al ae hx o.type (as.map fun | .const _ => true | _ => false)
    exact val (fun w _ => (builtin_run hop w).trans (h1 w)) h2 hd
   ·cases hd
  ·cases hd
 ·rw [if_pos rfl] at hd; cases hd
 ·refine plain ?_ hd
  obtain ⟨dst, op, type, pos, after, guard⟩ := o
  cases op <;> first | rfl | (cases hq; done) | (rename_i h1 h2; exact absurd rfl (h1 _)) | (rename_i h1 h2; exact absurd rfl (h2 _ _ _))
/-- One quiet operation with its guard. -/
theorem qstepQ {d : Cf} {C : FuncId → List PV → Option PV} (hC : ∀ g args r, C g args = some r → FunOk P T g args r) (hTb : ∀ w w', T w → Below w.heap.size w w' → T w') {ops : Array Oper} {K : St → Option PV} {r : PV} {N : Act → Prop} {o : Oper} {rest2 : List Oper} (hq : quietOp o = true)
  (h : Rel P T w0 V E s a) (hd : denOper P d C true ops o s K = some r) (hn : ∀ s' a', Agree (dstsOf [o]) a a' → Rel P T w0 V E s' a' → K s' = some r → wpQuiet P ops (fun w => Below E.w.heap.size E.w w ∧ T w) N rest2 a') : wpQuiet P ops (fun w => Below E.w.heap.size E.w w ∧ T w) N (o :: rest2) a := by
 have hag : ∀ v, Agree (dstsOf [o]) a (a.put o.dst v) := fun v => .put a o.dst v fun t ht => mem_dsts (List.mem_singleton.2 rfl) t ht
 unfold wpQuiet
 rcases oper_cases h hd with ⟨hw, s2, h2, hk⟩ | ⟨hw, s2, h2, hk⟩
 ·rw [if_neg (by rw [hw]; decide)]
  exact hn s2 _ (hag _) h2 hk
 ·rw [if_pos hw]
  exact quiet_ok hC hTb h2 hq hk fun x v h' hk' => hn _ _ (hag _) h' hk'
theorem quietOpsF_ok {d : Cf} {C : FuncId → List PV → Option PV} (hC : ∀ g args r, C g args = some r → FunOk P T g args r) (hTb : ∀ w w', T w → Below w.heap.size w w' → T w') {ops : Array Oper} {N : Act → Prop} : ∀ (f : Nat) (l l2 : List Oper) {K : St → Option PV} {r : PV} {s : St} {a : Act},
  l.all quietOp = true → Rel P T w0 V E s a → denOpsF P d C true ops f l K s = some r → (∀ s' a', Agree (dstsOf l) a a' → Rel P T w0 V E s' a' → K s' = some r → wpQuiet P ops (fun w => Below E.w.heap.size E.w w ∧ T w) N l2 a') → wpQuiet P ops (fun w => Below E.w.heap.size E.w w ∧ T w) N (l ++ l2) a
 | 0, [], l2, K, r, s, a, _, h, hd, hn => hn s a (.refl _ _) h (by unfold denOpsF at hd; exact hd)
 | f + 1, [], l2, K, r, s, a, _, h, hd, hn => hn s a (.refl _ _) h (by unfold denOpsF at hd; exact hd)
 | 0, o :: rest, l2, K, r, s, a, _, h, hd, hn => by unfold denOpsF at hd; cases hd
 | f + 1, o :: rest, l2, K, r, s, a, hall, h, hd, hn => by
  rw [List.all_cons, Bool.and_eq_true] at hall
  unfold denOpsF at hd
  split at hd
  ·rename_i xs pd rest' hg
   obtain ⟨_, e, hxs⟩ := groupOf_spec hg
   subst e
   have hrest' : rest'.all quietOp = true := by
    have := hall.2
    rw [List.all_append, Bool.and_eq_true] at this
    exact this.2
   obtain ⟨r1, hd1, hd2⟩ := Option.bind_eq_some_iff.1 hd
   rw [List.cons_append, List.append_assoc]
   refine qstepQ hC hTb hall.1 h hd1 fun s1 a1 ha1 h1 hk1 => ?_
   refine quietOpsF_ok hC hTb f xs (rest' ++ l2) (qn_quiet (qnH_qn hxs)) h1 hk1 fun s2 a2 ha2 h2 hk2 => ?_
   obtain ⟨b, hsb, rfl⟩ := boolOf_spec hk2
   have ha : Agree (dstsOf (o :: xs)) a a2 := (ha1.mono fun t ht => dsts_sub (fun o' ho' => by rw [List.mem_singleton.1 ho']; exact List.mem_cons_self) t ht).trans (ha2.mono fun t ht => dsts_sub (fun o' ho' => List.mem_cons_of_mem _ ho') t ht)
   have h3 := (h.forget (w' := E.w) (Below.refl _ _) ha h2).know (t := pd) (x := .sc (.bool b)) fun hp => by
    have hp' : pd < s2.fr.length := by rw [h2.len]; exact hp
    have := h2.fr pd hp' hp
    have e1 : s2.fr[pd] = .sc (.bool b) := by simpa [hp'] using hsb
    rwa [e1] at this
   refine quietOpsF_ok hC hTb f rest' l2 hrest' h3 hd2 fun s3 a3 ha3 h4 hk4 => ?_
   refine hn s3 a3 ?_ h4 hk4
   exact (ha.mono fun t ht => dsts_sub (fun o' ho' => by
    rcases List.mem_cons.1 ho' with e | e
    ·rw [e]; exact List.mem_cons_self
    ·exact List.mem_cons_of_mem _ (List.mem_append_left _ e)) t ht).trans (ha3.mono fun t ht => dsts_sub (fun o' ho' => List.mem_cons_of_mem _ (List.mem_append_right _ ho')) t ht)
  ·rw [List.cons_append]
   rw [if_neg (by simp), if_neg (by simp), if_neg (by simp)] at hd
   refine qstepQ hC hTb hall.1 h hd fun s1 a1 ha1 h1 hk1 => ?_
   refine quietOpsF_ok hC hTb f rest l2 hall.2 h1 hk1 fun s2 a2 ha2 h2 hk2 => ?_
   refine hn s2 a2 ?_ h2 hk2
   exact (ha1.mono fun t ht => dsts_sub (fun o' ho' => by rw [List.mem_singleton.1 ho']; exact List.mem_cons_self) t ht).trans (ha2.mono fun t ht => dsts_sub (fun o' ho' => List.mem_cons_of_mem _ ho') t ht)
theorem quietOps_ok {d : Cf} {C : FuncId → List PV → Option PV} (hC : ∀ g args r, C g args = some r → FunOk P T g args r) (hTb : ∀ w w', T w → Below w.heap.size w w' → T w') {ops : Array Oper} {K : St → Option PV} {r : PV} {N : Act → Prop}
  (hn : ∀ s' a', Rel P T w0 V E s' a' → K s' = some r → N a') (l : List Oper) {s : St} {a : Act} (hq : l.all quietOp = true) (h : Rel P T w0 V E s a) (hd : denOps P d C true ops l K s = some r) : wpQuiet P ops (fun w => Below E.w.heap.size E.w w ∧ T w) N l a := by
 have hd : denOpsF P d C true ops (l.length + 1) l K s = some r := hd
 have := quietOpsF_ok (N := N) hC hTb (l.length + 1) l [] hq h hd (fun s' a' _ h' hk => by unfold wpQuiet; exact hn s' a' h' hk)
 rwa [List.append_nil] at this
theorem planN_ok {d : Cf} {C : FuncId → List PV → Option PV} (hm : P.follows .mixedOrders = true) (hC : ∀ g args r, C g args = some r → FunOk P T g args r) (hTb : ∀ w w', T w → Below w.heap.size w w' → T w') (h : Rel P T w0 V E s a) {id : Nat} {ops : Array Oper} {Q : Exit → Act → World → Prop} {K : St → Option PV} {r : PV} {n : Nat} {l : List Nat}
  (hl : planOf ops n = some l) (hd : denPlan P d C ops l (fun s' => denOps P d C false ops (ops.toList.drop n) K s') s = some r) (hn : ∀ E' s' a', Rel P T w0 V E' s' a' → K s' = some r → Q .normal a' E'.w) : (Code.region id ops true).wp P Q a E.w := by
 unfold planOf at hl
 split at hl
 ·rename_i hc
  simp only [Bool.and_eq_true, Bool.or_eq_true, decide_eq_true_eq] at hc
  have ht : TailOk .any ops n := hc.2.imp (fun h => h) fun ⟨h1, h2⟩ => ⟨h1, h2⟩
  have hnle : n ≤ ops.size := by rcases ht with h1 | ⟨h1, _⟩ <;> omega
  have inv : HeadInv .any ops n (Array.replicate ops.size false) :=
   ⟨by simp, fun j oj _ hl => (by rw [getD_replicate_false] at hl; cases hl), fun t _ ht => getD_in (by simpa using ht) (getD_replicate_false _ _)⟩
  have hdrew : Below E.w.heap.size E.w { E.w with drawn := E.w.drawn + 1 } := (Below.refl _ _).drew
  refine Code.wp_mono noP_imp (wp_region_any hm ?_)
  have H := plan_ok (Q := Q) (n := n) (L' := fun a' w' => wpList P ops (NoP Q) (ops.toList.drop n) a' w') hC hTb hc.1 ht (fun E' s' a' h' hk => ops_ok (Q := NoP Q) hC hTb (fun E2 s2 a2 h2 hk2 => hn E2 s2 a2 h2 hk2) _ h' hk) n l hl inv (h.world hdrew) hd
  have := wpAny_of_M (Q := NoP Q) (g := ops.size - n) (fun listed a' w' hL => by
   have := wpAny_of_seq (md := .any) (Q' := NoP Q) (ops.toList.drop n) n listed a' w' (fun j => by simp [List.getElem?_drop]) (by simpa using hL.1) hL.2
   simpa using this) _ _ _ _ H
  rw [show n + (ops.size - n) = ops.size by omega] at this
  exact this
 ·cases hl
theorem region_ok {d : Cf} {C : FuncId → List PV → Option PV} (hm : P.follows .mixedOrders = true) (hC : ∀ g args r, C g args = some r → FunOk P T g args r) (hTb : ∀ w w', T w → Below w.heap.size w w' → T w') (h : Rel P T w0 V E s a) {id : Nat} {ops : Array Oper} {draw : Bool} {Q : Exit → Act → World → Prop} {K : St → Option PV} {r : PV}
  (hd : denRegion P d C ops draw K s = some r) (hn : ∀ E' s' a', Rel P T w0 V E' s' a' → K s' = some r → Q .normal a' E'.w) : (Code.region id ops draw).wp P Q a E.w := by
 unfold denRegion at hd
 cases draw
 ·rw [if_neg (by decide)] at hd
  exact wp_region_list (ops_ok hC hTb hn ops.toList h hd)
 ·rw [if_pos rfl] at hd
  split at hd
  ·rename_i hc
   rw [Bool.and_eq_true] at hc
   have hq : ops.toList.all quietOp = true := by
    rw [List.all_eq_true] at hc ⊢
    intro o ho
    have := hc.2 o ho
    unfold calmOp at this
    rw [Bool.and_eq_true, Bool.and_eq_true] at this
    exact this.1.1
   refine wp_region_quiet (C := fun w => Below E.w.heap.size E.w w ∧ T w) hm hc.1 ⟨(Below.refl _ _).drew, hTb _ _ (hTb _ _ h.T h.below) (Below.refl _ _).drew⟩ (quietOps_ok hC hTb (fun s' a' h' hk w' hw' => ?_) ops.toList hq h hd)
   exact hn _ _ _ (h'.world hw'.1) hk
  ·split at hd
   ·rename_i l hl
    exact planN_ok hm hC hTb h hl hd hn
   ·split at hd
    ·rename_i l hl
     exact planN_ok hm hC hTb h hl hd hn
    split at hd
    ·rename_i hr
     split at hd
     ·rename_i l hp
      exact planR_region hm hC hTb hn h hr hp hd
     ·cases hd
    ·split at hd
     ·rename_i l1 l2 hp
      split at hd
      ·rename_i hA
       exact planB_ok hm hC hTb hn h hp hA hd
      ·cases hd
     ·cases hd
/-- The code. -/
theorem gateK_eq (k : Nat) (F : St → Option PV) (s : St) : gateK k F s = F s := by cases k <;> rfl
theorem gate_eq (h : Option (List Nat × Nat)) (k : Nat) (F : St → Option PV) (s : St) : gate h k F s = F (tidy h s) := by
 cases h with
 | none => rfl
 | some x => exact gateK_eq k F _
theorem denC_ok {d : Cf} {C : FuncId → List PV → Option PV} (hm : P.follows .mixedOrders = true) (hC : ∀ g args r, C g args = some r → FunOk P T g args r) (hTb : ∀ w w', T w → Below w.heap.size w w' → T w') {hint : Nat → Option (List Nat × Nat)} {k : Nat} {r : PV} :
  ∀ (c : Code) {X : Nat → St → Option PV} {R K : St → Option PV} {E : Env} {s : St} {a : Act} {Q : Exit → Act → World → Prop}, Rel P T w0 V E s a → denC P d C hint (lpN k) k c X R K s = some r →
   (∀ E' s' a', Rel P T w0 V E' s' a' → K s' = some r → Q .normal a' E'.w) → (∀ id E' s' a', Rel P T w0 V E' s' a' → X id s' = some r → Q (.exit id) a' E'.w) → (∀ E' s' a', Rel P T w0 V E' s' a' → R s' = some r → Q .ret a' E'.w) → c.wp P Q a E.w := by
 intro c
 induction c with
 | skip => intro X R K E s a Q h hd hN hX hR; exact wp_skip (hN _ _ _ h hd)
 | label l => intro X R K E s a Q h hd hN hX hR; exact wp_label (hN _ _ _ h hd)
 | region id ops draw => intro X R K E s a Q h hd hN hX hR; exact region_ok hm hC hTb h hd hN
 | seq x y ihx ihy =>
  intro X R K E s a Q h hd hN hX hR
  rw [denC] at hd
  refine wp_seq (ihx h hd (fun E' s' a' h' hd' => ?_) hX hR)
  rw [gate_eq] at hd'
  obtain ⟨E2, h2, hw2⟩ := tidy_ok h' (hint (1000000 + firstId y))
  rw [← hw2]
  exact ihy h2 hd' hN hX hR
 | cond c t e iht ihe =>
  intro X R K E s a Q h hd hN hX hR
  cases c with
  | tmp x =>
   simp only [denC] at hd
   split at hd
   ·rename_i b hb
    obtain ⟨h2, hv⟩ := h.fix hb
    have hev : a.eval (.tmp x) = .bool b := by
     show a.tmps.getD x undef = .bool b
     rw [Array.getD_eq_getD_getElem?, hv]
     rfl
    refine wp_cond hev ?_
    cases b
    ·rw [if_neg (by decide)] at hd
     exact ihe h2 hd hN hX hR
    ·rw [if_pos rfl] at hd
     exact iht h2 hd hN hX hR
   ·cases hd
  | const v =>
   cases v with
   | bool b =>
    simp only [denC] at hd
    refine wp_cond (t := b) rfl ?_
    cases b
    ·rw [if_neg (by decide)] at hd
     exact ihe h hd hN hX hR
    ·rw [if_pos rfl] at hd
     exact iht h hd hN hX hR
   | _ => simp [denC] at hd
  | global g => simp [denC] at hd
  | func f => simp [denC] at hd
 | block id c ih =>
  intro X R K E s a Q h hd hN hX hR
  rw [denC] at hd
  refine wp_block (ih h hd hN (fun j E' s' a' h' hd' => ?_) hR)
  show (if j = id then Q .normal a' E'.w else Q (.exit j) a' E'.w)
  by_cases hj : j = id
  ·rw [if_pos hj] at hd' ⊢
   exact hN _ _ _ h' hd'
  ·rw [if_neg hj] at hd' ⊢
   exact hX _ _ _ _ h' hd'
 | exit id => intro X R K E s a Q h hd hN hX hR; exact wp_exit (hX _ _ _ _ h hd)
 | loop c ih =>
  intro X R K E s a Q h hd hN hX hR
  rw [denC, lpN] at hd
  obtain ⟨E1, h1, hw1⟩ := tidy_ok h (hint (firstId c))
  rw [← hw1]
  refine wp_loop_ghost (fun n a w => ∃ E s, Rel P T w0 V E s a ∧ E.w = w ∧ loopN (tidy (hint (firstId c))) (fun L s2 => denC P d C hint (lpN k) k c X R L s2) n s = some r) k ⟨E1, _, h1, rfl, hd⟩ ?_
  rintro n a w ⟨E2, s2, h2, rfl, hd2⟩
  cases n with
  | zero => cases hd2
  | succ n =>
   rw [loopN] at hd2
   refine ih h2 hd2 (fun E' s' a' h' hd' => ?_) (fun id E' s' a' h' hd' => hX id _ _ _ h' hd') (fun E' s' a' h' hd' => hR _ _ _ h' hd')
   obtain ⟨E3, h3, hw3⟩ := tidy_ok h' (hint (firstId c))
   exact ⟨n, Nat.lt_succ_self n, E3, _, h3, hw3, hd'⟩
 | ret => intro X R K E s a Q h hd hN hX hR; exact wp_ret (hR _ _ _ h hd)
 | rangeFunc f ps as c iha ihc => intro X R K E s a Q h hd; cases hd
 | scope c ih => intro X R K E s a Q h hd; cases hd
 | goto l => intro X R K E s a Q h hd; cases hd
 | refuse why => intro X R K E s a Q h hd; cases hd
end
end Go.Den
