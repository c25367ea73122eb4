/- Functions: what the plain reading answers, the function answers. -/
import Derived.Test.YtcfhllbobapaiaaDoorDenM
namespace Go.Den
open Go Go.RowKit
set_option linter.unusedVariables false
section
variable {P : Program} {T : World → Prop} {w0 : World} {V : Nat → Prop} {E : Env} {s : St} {a : Act}

theorem resV_ok (h : Rel P T w0 V E s a) {rv : ResultVar} {x : PV} (hd : resV P s rv = some x) :
    ∃ v, (match rv with | .tmp t => pure (a.tmps.getD t undef) | .cell b t => do loadVar t (← asAddr (a.tmps.getD b undef)) : Sem Value).run P E.w = .ok v E.w ∧ Enc E x v := by
  cases rv with
  | tmp t =>
    obtain rfl := Option.some.inj hd
    exact ⟨_, rfl, h.ρ (.tmp t)⟩
  | cell b t =>
    simp only [resV] at hd
    split at hd
    · rename_i cs hcs
      obtain ⟨blk, off, hv, hV, hW0, g, hg⟩ := behind_ok h.heap (h.ρ (.tmp b)) hcs
      obtain ⟨v, hr, he⟩ := readVar_run hV hg hd
      refine ⟨v, ?_, he⟩
      have e : a.tmps.getD b undef = .pointer (some ⟨blk, off, none⟩) := hv
      dsimp only
      rw [e]
      exact hr [] (fun _ h => by cases h) E.w (Keep.refl E [])
    · cases hd
theorem resL_ok (h : Rel P T w0 V E s a) : ∀ {rs : List ResultVar} {xs : List PV}, resL P s rs = some xs → ∃ vs : List Value,
    (rs.mapM fun | .tmp t => pure (a.tmps.getD t undef) | .cell b t => do loadVar t (← asAddr (a.tmps.getD b undef)) : Sem (List Value)).run P E.w = .ok vs E.w ∧ xs.length = vs.length ∧ ∀ i (h1 : i < xs.length) (h2 : i < vs.length), Enc E xs[i] vs[i]
  | [], xs, hd => by
    obtain rfl := Option.some.inj hd
    exact ⟨[], rfl, rfl, fun i h1 => by simp at h1⟩
  | rv :: rs, xs, hd => by
    rw [resL] at hd
    split at hd
    · rename_i x ys h1 h2
      obtain rfl := Option.some.inj hd
      obtain ⟨v, r1, e1⟩ := resV_ok h h1
      obtain ⟨vs, r2, l2, e2⟩ := resL_ok h h2
      refine ⟨v :: vs, ?_, by simp [l2], fun i a1 a2 => ?_⟩
      · rw [List.mapM_cons, Sem.run_bind, r1, Result.andThen_ok, Sem.run_bind, r2, Result.andThen_ok]
        rfl
      · cases i with
        | zero => exact e1
        | succ i => exact e2 i (by simpa using a1) (by simpa using a2)
    · cases hd
theorem retV_ok (h : Rel P T w0 V E s a) {d : Nat} {fn : Func} {r : PV} (hd : retV P d fn s = some r) {R : Ending → World → Prop} (hR : ∀ v, Enc (bare E.w V) r v → RetOk r → R (.returned v) E.w) (hV : ∀ c, V c → c < w0.heap.size) :
    a.defers = [] ∧ ∃ v, (results fn a.tmps).run P E.w = .ok v E.w ∧ R (.returned v) E.w := by
  refine ⟨h.defers, ?_⟩
  unfold retV at hd
  split at hd
  · cases hd
  · rename_i xs hxs
    obtain ⟨vs, r1, l1, e1⟩ := resL_ok h hxs
    have hVE : ∀ c, ¬ E.U c → ¬ V c := fun c hc hv => hc (.inl (by rw [h.V]; exact hv))
    have hown : ∀ b c, b < E.n → E.own b = some c → ¬ V c := fun b c hb ho hv => by
      have hb' : b < s.h.length := by have := h.heap.n; omega
      have := ((h.heap.obj b s.h[b] (List.getElem?_eq_getElem hb')).lt ho).1
      have := hV c hv
      omega
    have hrun : (results fn a.tmps).run P E.w = .ok (if h : vs.toArray.size = 1 then vs.toArray[0] else .tuple vs.toArray) E.w := by
      unfold results
      rw [Array.mapM_eq_mapM_toList, Sem.run_bind, Sem.run_map]
      exact congrArg (fun z : Result (List Value) => (z.andThen fun a w' => .ok a.toArray w').andThen fun a w' => Sem.run P (pure (if h : a.size = 1 then a[0] else Value.tuple a)) w') r1
    split at hd
    · cases hd
    · rename_i y hy
      obtain rfl := Option.some.inj hd
      obtain ⟨m1, m2, m3⟩ := outL_ok h.heap (V := V) hVE hy l1 e1 (fun b _ c hb => hown b c hb)
      obtain ⟨v, rfl⟩ : ∃ v, vs = [v] := by
        match vs, m1 with
        | [v], _ => exact ⟨v, rfl⟩
      exact ⟨v, hrun, hR v (m2 0 (by simp) (by simp)) (.inl (by simpa using m3))⟩
    · rename_i ys hne hy
      obtain rfl := Option.some.inj hd
      obtain ⟨m1, m2, m3⟩ := outL_ok h.heap (V := V) hVE hy l1 e1 (fun b _ c hb => hown b c hb)
      have h1 : ¬ vs.toArray.size = 1 := by
        intro h1
        match ys, m1 with
        | [y], _ => exact hne y rfl
        | [], m => simp at m; simp [← m] at h1
        | _ :: _ :: _, m => simp at m; simp [← m] at h1
      rw [dif_neg h1] at hrun
      exact ⟨_, hrun, hR _ (.tup (by simpa using m1) fun i a1 a2 => by
        have := m2 i a1 (by simpa using a2)
        simpa using this) (.inr ⟨ys, rfl, m3⟩)⟩
theorem body_ok {d : Nat} {C : FuncId → List PV → Option PV} (hm : P.follows .mixedOrders = true) (hC : ∀ g args r, C g args = some r → FunOk P T g args r) (hTb : ∀ w w', T w → Below w.heap.size w w' → T w') {hint : Nat → Option (List Nat × Nat)} {k : Nat} {f : FuncId} {fn : Func} (hf : P.funcs[f]? = some fn) {args : List PV} {r : PV}
    (hd : denBody P d C hint (lpN k) k fn args = some r) : FunOk P T f args r := by
  intro w V vs hT hV hl he
  unfold denBody at hd
  split at hd
  · cases hd
  · rename_i c hc
    refine calls_of_wp hf hc ?_
    have h0 : Rel P T w V (bare w V) ⟨args ++ List.replicate (fn.ntmps - args.length) .top, []⟩ { tmps := vs ++ Array.replicate (fn.ntmps - vs.size) undef, defers := [] } := by
      refine ⟨⟨rfl, fun b o h => by simp at h, fun b b' c hb => absurd hb (Nat.not_lt_zero _), Nat.le_refl _, fun c hc => ⟨hV c hc, fun b hb => absurd hb (Nat.not_lt_zero _)⟩⟩, by simp [hl], fun i h1 h2 => ?_, Below.refl _ _, rfl, rfl, hT⟩
      by_cases hi : i < args.length
      · have h3 : i < vs.size := by omega
        simp only [List.getElem_append_left hi, Array.getElem_append_left h3]
        exact he i hi h3
      · simp only [List.getElem_append_right (show args.length ≤ i by omega), List.getElem_replicate]
        exact .top
    have ret : ∀ E' s' a', Rel P T w V E' s' a' → retV P d fn s' = some r → a'.defers = [] ∧ ∃ v, (results fn a'.tmps).run P E'.w = .ok v E'.w ∧ (fun e w' => ∃ v, e = Ending.returned v ∧ Enc (bare w' V) r v ∧ RetOk r ∧ Below w.heap.size w w') (.returned v) E'.w := fun E' s' a' h' hd' =>
      retV_ok (R := fun e w' => ∃ v, e = Ending.returned v ∧ Enc (bare w' V) r v ∧ RetOk r ∧ Below w.heap.size w w') h' hd' (fun v h1 h2 => ⟨v, rfl, h1, h2, h'.below⟩) hV
    exact denC_ok hm hC hTb c h0 hd ret (fun _ _ _ _ _ h => by cases h) ret
/-- WHAT THE PLAIN READING ANSWERS, THE FUNCTION ANSWERS. -/
theorem den_ok (hm : P.follows .mixedOrders = true) (hTb : ∀ w w', T w → Below w.heap.size w w' → T w') {d : Nat} {ext : FuncId → Option (List PV → Option PV)} (hext : ∀ f g args r, ext f = some g → g args = some r → FunOk P T f args r) {hint : FuncId → Nat → Option (List Nat × Nat)} :
    ∀ (k : Nat) (f : FuncId) (args : List PV) (r : PV), den P d ext hint k f args = some r → FunOk P T f args r
  | 0, _, _, _, h => by cases h
  | k + 1, f, args, r, h => by
    rw [den] at h
    split at h
    · rename_i g hg
      exact hext f g args r hg h
    · split at h
      · rename_i fn hf
        exact body_ok hm (fun g args r h => den_ok hm hTb hext k g args r h) hTb hf h
      · cases h
end
end Go.Den
