/- Functions: what the plain reading answers, the function answers. -/
import Derived.Test.YtkhbkbkambflbaaGreatDoorDenM
namespace Go.Den
open Go Go.RowKit
set_option linter.unusedVariables false
section
variable {P : Program} {T : World → Prop} {w0 : Bs} {V : Nat → Prop} {E : Env} {s : St} {a : Act}

theorem resV_ok (h : Rel P T w0 V E s a) {rv : ResultVar} {x : PV} (hd : resV P s rv = some x) :
  ∃ v, (match rv with | .tmp t => pure (a.tmps.getD t undef) | .cell b t => do loadVar t (← asAddr (a.tmps.getD b undef)) : Sem Value).run P E.w = .ok v E.w ∧ Enc E x v := by
 cases rv with
 | tmp t =>
  obtain rfl := Option.some.inj hd
  exact ⟨_, rfl, h.ρ (.tmp t)⟩
 | cell b t =>
  simp only [resV] at hd
  split at hd
  ·rename_i cs hcs
   obtain ⟨blk, off, hv, hV, hW0, g, hg⟩ := behind_ok h.heap (h.ρ (.tmp b)) hcs
   obtain ⟨v, hr, he⟩ := readVar_run hV hg hd
   refine ⟨v, ?_, he⟩
   have e : a.tmps.getD b undef = .pointer (some ⟨blk, off, none⟩) := hv
   dsimp only
   rw [e]
   exact hr [] (fun _ h => by cases h) E.w (Keep.refl E [])
  ·cases hd
theorem resL_ok (h : Rel P T w0 V E s a) : ∀ {rs : List ResultVar} {xs : List PV}, resL P s rs = some xs → ∃ vs : List Value,
  (rs.mapM fun | .tmp t => pure (a.tmps.getD t undef) | .cell b t => do loadVar t (← asAddr (a.tmps.getD b undef)) : Sem (List Value)).run P E.w = .ok vs E.w ∧ xs.length = vs.length ∧ ∀ i (h1 : i < xs.length) (h2 : i < vs.length), Enc E xs[i] vs[i]
 | [], xs, hd => by
  obtain rfl := Option.some.inj hd
  exact ⟨[], rfl, rfl, fun i h1 => by simp at h1⟩
 | rv :: rs, xs, hd => by
  rw [resL] at hd
  split at hd
  ·rename_i x ys h1 h2
   obtain rfl := Option.some.inj hd
   obtain ⟨v, r1, e1⟩ := resV_ok h h1
   obtain ⟨vs, r2, l2, e2⟩ := resL_ok h h2
   refine ⟨v :: vs, ?_, by simp [l2], fun i a1 a2 => ?_⟩
   ·rw [List.mapM_cons, Sem.run_bind, r1, Result.andThen_ok, Sem.run_bind, r2, Result.andThen_ok]
    rfl
   ·cases i with
    | zero => exact e1
    | succ i => exact e2 i (by simpa using a1) (by simpa using a2)
  ·cases hd
theorem retV_ok (h : Rel P T w0 V E s a) (hm : s.m = none) {d : Cf} {fn : Func} {r : PV} (hd : retV P d fn s = some r) {R : Ending → World → Prop} (hR : ∀ v, Enc (bare E.w V) r v → RetOk r → R (.returned v) E.w) (hV : ∀ c, V c → c < w0.heap.size) :
  a.defers = [] ∧ ∃ v, (results fn a.tmps).run P E.w = .ok v E.w ∧ R (.returned v) E.w := by
 refine ⟨h.defers, ?_⟩
 unfold retV at hd
 rw [hm] at hd
 dsimp only at hd
 split at hd
 ·cases hd
 ·rename_i xs hxs
  obtain ⟨vs, r1, l1, e1⟩ := resL_ok h hxs
  have hVE : ∀ c, ¬ E.U c → ¬ V c := fun c hc hv => hc (.inl (by rw [h.V]; exact hv))
  have hown : ∀ b c, b < E.n → E.own b = some c → ¬ V c := fun b c hb ho hv => by
   have hb' : b < s.h.length := by have := h.heap.n; omega
   have := ((h.heap.obj b s.h[b] (List.getElem?_eq_getElem hb')).lt ho).1
   have := hV c hv
   omega
  have hrun : (results fn a.tmps).run P E.w = .ok (if h : vs.toArray.size = 1 then vs.toArray[0] else .tuple vs.toArray) E.w := by
   unfold results
   rw [Array.mapM_eq_mapM_toList, Sem.run_bind, Sem.run_map]
   exact congrArg (fun z : Result (List Value) => (z.andThen fun a w' => .ok a.toArray w').andThen fun a w' => Sem.run P (pure (if h : a.size = 1 then a[0] else Value.tuple a)) w') r1
  split at hd
  ·cases hd
  ·rename_i y hy
   obtain rfl := Option.some.inj hd
   obtain ⟨m1, m2, m3⟩ := outL_ok h.heap (V := V) hVE hy l1 e1 (fun b _ c hb => hown b c hb)
   obtain ⟨v, rfl⟩ : ∃ v, vs = [v] := by
    match vs, m1 with
    | [v], _ => exact ⟨v, rfl⟩
   exact ⟨v, hrun, hR v (m2 0 (by simp) (by simp)) (.inl (by simpa using m3))⟩
  ·rename_i ys hne hy
   obtain rfl := Option.some.inj hd
   obtain ⟨m1, m2, m3⟩ := outL_ok h.heap (V := V) hVE hy l1 e1 (fun b _ c hb => hown b c hb)
   have h1 : ¬ vs.toArray.size = 1 := by
    intro h1
    match ys, m1 with
    | [y], _ => exact hne y rfl
    | [], m => simp at m; simp [← m] at h1
    | _ :: _ :: _, m => simp at m; simp [← m] at h1
   rw [dif_neg h1] at hrun
   exact ⟨_, hrun, hR _ (.tup (by simpa using m1) fun i a1 a2 => by
    have := m2 i a1 (by simpa using a2)
    simpa using this) (.inr ⟨ys, rfl, m3⟩)⟩
theorem below_mid {w0 a b : World} {B : Nat} (h1 : Below B w0 a) (h2 : Below B w0 b) (hs : a.heap.size ≤ b.heap.size) : Below B a b :=
 ⟨h2.os.trans h1.os.symm, h2.tape.trans h1.tape.symm, h2.output.trans h1.output.symm, hs, fun k hk => (h2.block k hk).trans (h1.block k hk).symm⟩
theorem retH_ok (h : Rel P T w0 V E s a) {m : Nat} (hm : s.m = some m) {d : Cf} {fn : Func} {r : PV} (hd : retV P d fn s = some r) {E0 : Env} (hE : w0.ew = E0.w) (hO : w0.own0 = E0.O) (hB : w0.blk0 = E0.blk) (hV : V = E0.V) (hb0 : Below w0.heap.size w0 E0.w) {R : Ending → World → Prop} (hR : ∀ v E' objs ret, HandRes P w0 E0 m r (.returned v) E.w v E' objs ret → R (.returned v) E.w) :
  a.defers = [] ∧ ∃ v, (results fn a.tmps).run P E.w = .ok v E.w ∧ R (.returned v) E.w := by
 refine ⟨h.defers, ?_⟩
 unfold retV at hd
 rw [hm] at hd
 dsimp only at hd
 unfold retH at hd
 split at hd
 ·cases hd
 ·rename_i xs hxs
  split at hd
  ·cases hd
  ·rename_i ys hys
   dsimp only at hd
   obtain ⟨vs, r1, l1, e1⟩ := resL_ok h hxs
   have hrun : (results fn a.tmps).run P E.w = .ok (if h : vs.toArray.size = 1 then vs.toArray[0] else .tuple vs.toArray) E.w := by
    unfold results
    rw [Array.mapM_eq_mapM_toList, Sem.run_bind, Sem.run_map]
    exact congrArg (fun z : Result (List Value) => (z.andThen fun a w' => .ok a.toArray w').andThen fun a w' => Sem.run P (pure (if h : a.size = 1 then a[0] else Value.tuple a)) w') r1
   generalize hbs : xs.flatMap bufsOf = bs at hd
   have hg := h.give bs
   obtain ⟨m1, m2⟩ := outPL_ok h.heap (V2 := (E.give bs).U) (fun c hc => give_U hc) hys l1 e1 (fun b hb c hbn ho => give_own h.heap (by rw [← hbs]; exact hb) hbn ho)
   have hn := hg.heap.n
   have hst : (s.give P bs).m = s.m := rfl
   have hL0 : Pick (s.give P bs).h.length (((xs.flatMap fun x => if isPtr x = true then refsOf x else []).foldl (addNew (s.give P bs).h.length) (List.range (min m (s.give P bs).h.length)))) := addNews_pick _ (range_pick _ _)
   have hL := closeL_pick hL0
   have hH : Heads (List.range (min m (s.give P bs).h.length)) (closeL (s.give P bs).h (((xs.flatMap fun x => if isPtr x = true then refsOf x else []).foldl (addNew (s.give P bs).h.length) (List.range (min m (s.give P bs).h.length))))) := heads_news _ (heads_news _ (heads_news _ (heads_news _ ⟨[], by simp⟩)))
   generalize closeL (s.give P bs).h (((xs.flatMap fun x => if isPtr x = true then refsOf x else []).foldl (addNew (s.give P bs).h.length) (List.range (min m (s.give P bs).h.length)))) = L at hd hL hH
   rw [← hn] at hL
   have hheap := heap_tidied hg.heap hL (V2 := (E.give bs).V) fun c hc => .inl hc
   have hm0 : w0.m = some m := h.hand.m.symm.trans hm
   -- each result
   have one : ∀ i (h1 : i < ys.length) (h2 : i < vs.length), Enc ((E.give bs).tidied L) (renA L ys[i]) vs[i] ∧ retsE (renA L ys[i]) = true := fun i h1 h2 => by
    rcases m2 i h1 h2 with ⟨b, off, e, he⟩ | e | ⟨he, hp⟩
    ·rw [e]
     have he2 := he.ext0 (give_ext bs)
     generalize vs[i] = v at he2
     cases he2 with
     | ptr hbn =>
      unfold renA
      dsimp only
      split
      ·rename_i j hj
       have hj' := posOf_spec hj
       have e2 : ((E.give bs).tidied L).blk j = (E.give bs).blk b := by
        show (E.give bs).blk (L.getD j 0) = _
        rw [List.getD_eq_getElem?_getD, hj']
        rfl
       refine ⟨?_, rfl⟩
       rw [← e2]
       exact .ptr (E := (E.give bs).tidied L) (List.getElem?_eq_some_iff.1 hj').1
      ·exact ⟨.top, rfl⟩
    ·rw [e]; exact ⟨.top, rfl⟩
    ·have e2 : renA L ys[i] = ys[i] := by
      unfold renA
      split
      ·rename_i b off e; rw [e] at hp; cases hp
      ·rfl
     rw [e2]
     refine ⟨he.plainE_env (E := bare E.w (E.give bs).U) (E2 := (E.give bs).tidied L) rfl (fun c hc => tidied_U hL fun hu => hc (.inl hu)) hp, ?_⟩
     unfold retsE
     rw [hp]
     rfl
   have fin : ∀ (v : Value) (ret : PV), (results fn a.tmps).run P E.w = .ok v E.w → r = .tup [.hp (L.map fun c => encO (tidyAt L (s.give P bs).h (s.give P bs).h[c]?)), ret] → Enc ((E.give bs).tidied L) ret v → RetsOk ret → ∃ v, (results fn a.tmps).run P E.w = .ok v E.w ∧ R (.returned v) E.w := fun v ret h1 h2 h3 h4 => by
    refine ⟨v, h1, hR v ((E.give bs).tidied L) _ ret ⟨h2, rfl, rfl, h.V.trans hV, ?_, h3, h4, below_mid hb0 h.below (by rw [← hE]; exact h.hand.size), fun j hj => ?_, fun c hc => ?_, fun c hc ho => ?_, by rw [← hE]; exact h.hand.size⟩⟩
    ·rw [List.map_map]
     have e : (decO ∘ fun (c : Nat) => encO (tidyAt L (s.give P bs).h (s.give P bs).h[c]?)) = fun (c : Nat) => tidyAt L (s.give P bs).h (s.give P bs).h[c]? := funext fun c => dec_enc _ _ _
     rw [e]
     exact hheap
    ·obtain ⟨j1, j2⟩ := h.hand.blk j (by rw [hm0]; exact hj)
     have hn2 : (E.give bs).n = E.n := rfl
     have hg2 := heads_get hH (j := j) (by omega)
     refine ⟨(List.getElem?_eq_some_iff.1 hg2).1, ?_⟩
     rw [← hB, ← j2]
     show (E.give bs).blk (L.getD j 0) = _
     rw [List.getD_eq_getElem?_getD, hg2]
     rfl
    ·have := h.hand.own c (give_O (tidied_O hL hc))
     rw [hO, hE] at this
     exact this
    ·have := h.hand.same c (by rw [hE]; exact hc) (by rw [hO]; exact ho)
     rw [hE] at this
     exact this
   obtain rfl := Option.some.inj hd
   clear hd
   split at fin
   ·rename_i y
    obtain ⟨v, rfl⟩ : ∃ v, vs = [v] := by
     match vs, m1 with
     | [v], _ => exact ⟨v, rfl⟩
    obtain ⟨o1, o2⟩ := one 0 (by simp) (by simp)
    exact fin v _ hrun rfl o1 (.inl o2)
   ·rename_i hne
    have h1 : ¬ vs.toArray.size = 1 := by
     intro h1
     have h3 : ys.length = 1 := by rw [m1]; simpa using h1
     obtain ⟨y, e⟩ := List.length_eq_one_iff.1 h3
     exact hne y e
    rw [dif_neg h1] at hrun
    refine fin _ _ hrun rfl (.tup (by simpa using m1) fun i a1 a2 => ?_) (.inr ⟨_, rfl, ?_⟩)
    ·have := (one i (by simpa using a1) (by simpa using a2)).1
     simpa using this
    ·rw [List.all_eq_true]
     intro x hx
     obtain ⟨i, hi, rfl⟩ := List.getElem_of_mem hx
     have hi2 : i < ys.length := by simpa using hi
     have := (one i hi2 (by omega)).2
     simpa using this
theorem body_ok {d : Cf} {C : FuncId → List PV → Option PV} (hm : P.follows .mixedOrders = true) (hC : ∀ g args r, C g args = some r → FunOk P T g args r) (hTb : ∀ w w', T w → Below w.heap.size w w' → T w') {hint : Nat → Option (List Nat × Nat)} {k : Nat} {f : FuncId} {fn : Func} (hf : P.funcs[f]? = some fn) {args : List PV} {r : PV}
  (hd : denBody P d C hint (lpN k) k fn args = some r) : FunOk P T f args r := by
 unfold denBody at hd
 split at hd
 ·cases hd
 ·rename_i c hc
  have slots : ∀ {E : Env} {as : List PV} {vs : Array Value}, as.length = vs.size → (∀ i (h1 : i < as.length) (h2 : i < vs.size), Enc E as[i] vs[i]) → (as ++ List.replicate (fn.ntmps - as.length) PV.top).length = (vs ++ Array.replicate (fn.ntmps - vs.size) undef).size ∧ ∀ i (h1 : i < (as ++ List.replicate (fn.ntmps - as.length) PV.top).length) (h2 : i < (vs ++ Array.replicate (fn.ntmps - vs.size) undef).size), Enc E (as ++ List.replicate (fn.ntmps - as.length) PV.top)[i] (vs ++ Array.replicate (fn.ntmps - vs.size) undef)[i] := fun {E as vs} hl he => by
   refine ⟨by simp [hl], fun i h1 h2 => ?_⟩
   by_cases hi : i < as.length
   ·have h3 : i < vs.size := by omega
    simp only [List.getElem_append_left hi, Array.getElem_append_left h3]
    exact he i hi h3
   ·simp only [List.getElem_append_right (show as.length ≤ i by omega), List.getElem_replicate]
    exact .top
  split at hd
  ·rename_i objs as
   refine ⟨fun w V vs hT hV hl he => ?_, fun objs' as' e => ?_⟩
   ·exfalso
    have h0 := he 0 (by simp) (by rw [← hl]; simp)
    simp only [List.getElem_cons_zero] at h0
    cases h0
   ·obtain ⟨e1, rfl⟩ := List.cons.inj e
    obtain rfl : objs = objs' := by injection e1
    intro w0 E vs hT hheap hb hl he
    refine calls_of_wp hf hc ?_
    obtain ⟨s1, s2⟩ := slots hl he
    have h0 : Rel P T { toWorld := w0, m := some objs.length, blk0 := E.blk, own0 := E.O, ew := E.w } E.V E ⟨as ++ List.replicate (fn.ntmps - as.length) .top, objs.map decO, some objs.length⟩ { tmps := vs ++ Array.replicate (fn.ntmps - vs.size) undef, defers := [] } :=
     ⟨hheap, s1, s2, hb, rfl, rfl, hT, ⟨rfl, fun j hj => ⟨by rw [hheap.n]; simpa using hj, rfl⟩, fun c hc => .inl hc, fun _ _ _ => rfl, Nat.le_refl _⟩⟩
    have ret : ∀ E' s' a', Rel P T { toWorld := w0, m := some objs.length, blk0 := E.blk, own0 := E.O, ew := E.w } E.V E' s' a' → retV P d fn s' = some r → a'.defers = [] ∧ ∃ v, (results fn a'.tmps).run P E'.w = .ok v E'.w ∧ (fun e w' => ∃ v E' objs' ret, HandRes P w0 E objs.length r e w' v E' objs' ret) (.returned v) E'.w := fun E' s' a' h' hd' =>
     retH_ok (R := fun e w' => ∃ v E' objs' ret, HandRes P w0 E objs.length r e w' v E' objs' ret) h' (h'.hand.m) hd' rfl rfl rfl rfl hb fun v E' o ret hr => ⟨v, E', o, ret, hr⟩
    exact denC_ok hm hC hTb c h0 hd ret (fun _ _ _ _ _ h => by cases h) ret
  ·rename_i hne
   refine FunOk.of (fun w V vs hT hV hl he => ?_) fun objs as e => hne objs as e
   refine calls_of_wp hf hc ?_
   obtain ⟨s1, s2⟩ := slots hl he
   have h0 : Rel P T { toWorld := w, m := none, blk0 := fun _ => 0, own0 := fun _ => False, ew := w } V (bare w V) ⟨args ++ List.replicate (fn.ntmps - args.length) .top, [], none⟩ { tmps := vs ++ Array.replicate (fn.ntmps - vs.size) undef, defers := [] } :=
    ⟨⟨rfl, fun b o h => by simp at h, fun b b' c hb => absurd hb (Nat.not_lt_zero _), Nat.le_refl _, fun c hc => ⟨hV c hc, fun b hb => absurd hb (Nat.not_lt_zero _)⟩⟩, s1, s2, Below.refl _ _, rfl, rfl, hT,
     ⟨rfl, fun j hj => absurd hj (Nat.not_lt_zero _), fun c hc => by obtain ⟨b, hb, _⟩ := hc; exact absurd hb (Nat.not_lt_zero _), fun _ _ _ => rfl, Nat.le_refl _⟩⟩
   have ret : ∀ E' s' a', Rel P T { toWorld := w, m := none, blk0 := fun _ => 0, own0 := fun _ => False, ew := w } V E' s' a' → retV P d fn s' = some r → a'.defers = [] ∧ ∃ v, (results fn a'.tmps).run P E'.w = .ok v E'.w ∧ (fun e w' => ∃ v, e = Ending.returned v ∧ Enc (bare w' V) r v ∧ RetOk r ∧ Below w.heap.size w w') (.returned v) E'.w := fun E' s' a' h' hd' =>
    retV_ok (R := fun e w' => ∃ v, e = Ending.returned v ∧ Enc (bare w' V) r v ∧ RetOk r ∧ Below w.heap.size w w') h' h'.hand.m hd' (fun v h1 h2 => ⟨v, rfl, h1, h2, h'.below⟩) hV
   exact denC_ok hm hC hTb c h0 hd ret (fun _ _ _ _ _ h => by cases h) ret
/-- WHAT THE PLAIN READING ANSWERS, THE FUNCTION ANSWERS. -/
theorem den_ok (hm : P.follows .mixedOrders = true) (hTb : ∀ w w', T w → Below w.heap.size w w' → T w') {d : Cf} {ext : FuncId → Option (List PV → Option PV)} (hext : ∀ f g args r, ext f = some g → g args = some r → FunOk P T f args r) {hint : FuncId → Nat → Option (List Nat × Nat)} :
  ∀ (k : Nat) (f : FuncId) (args : List PV) (r : PV), den P d ext hint k f args = some r → FunOk P T f args r
 | 0, _, _, _, h => by cases h
 | k + 1, f, args, r, h => by
  rw [den] at h
  split at h
  ·rename_i g hg
   exact hext f g args r hg h
  ·split at h
   ·rename_i fn hf
    exact body_ok hm (fun g args r h => den_ok hm hTb hext k g args r h) hTb hf h
   ·cases h
end
end Go.Den
