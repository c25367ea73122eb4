/- Values that leave a function, or come to one; the builtins that change nothing. -/
import Derived.Test.YtkhbkbkambflbaaGreatDoorDenG
namespace Go.Den
open Go Go.RowKit
set_option linter.unusedVariables false
section
variable {P : Program}

theorem outC_ok {E : Env} {base : Nat} {h : Heap} (hs : HeapOk P E base h) {x : PV} {v : Value} (he : Enc E x v) {y : PV} (ho : outC P h x = some y) {V : Nat → Prop} (hV : ∀ c, ¬ E.U c → ¬ V c)
  (hB : ∀ b, b ∈ bufOf x → ∀ c, b < E.n → E.own b = some c → ¬ V c) : Enc (bare E.w V) y v ∧ y.plain = true := by
 have hU : ∀ c, ¬ E.U c → ¬ (bare E.w V).U c := fun c hc hh => hV c hc (bare_U hh)
 unfold outC at ho
 split at ho
 ·rename_i b ver
  split at ho
  ·rename_i e0 ver' xs hb
   split at ho
   ·rename_i hc
    subst hc
    obtain rfl := Option.some.inj ho
    cases he with
    | buf hbn hv h1 hh =>
     have hob := hs.obj b _ hb
     obtain ⟨a1, a2⟩ := frozen_enc (k := sizeT P e0) hob rfl (E2 := bare E.w V) rfl hU (fun c hc hh => hB b (by simp [bufOf]) c hbn hc (bare_U hh))
     rw [hh a1]
     exact ⟨a2, rfl⟩
   ·cases ho
  ·cases ho
 ·obtain rfl := Option.some.inj ho
  exact ⟨Enc.plain_env (E := E) (E2 := bare E.w V) rfl hU he rfl, rfl⟩
 ·obtain rfl := Option.some.inj ho
  exact ⟨Enc.plain_env (E := E) (E2 := bare E.w V) rfl hU he rfl, rfl⟩
 ·obtain rfl := Option.some.inj ho
  exact ⟨Enc.plain_env (E := E) (E2 := bare E.w V) rfl hU he rfl, rfl⟩
 ·cases ho
theorem outCs_ok {E : Env} {base : Nat} {h : Heap} (hs : HeapOk P E base h) {V : Nat → Prop} (hV : ∀ c, ¬ E.U c → ¬ V c) : ∀ {cs ys : List PV}, (∀ b, b ∈ cs.flatMap bufOf → ∀ c, b < E.n → E.own b = some c → ¬ V c) → outCs P h cs = some ys →
  ys.length = cs.length ∧ ∀ i (h1 : i < cs.length) (h2 : i < ys.length) v, Enc E cs[i] v → Enc (bare E.w V) ys[i] v ∧ ys[i].plain = true
 | [], ys, _, ho => by
  obtain rfl := Option.some.inj ho
  exact ⟨rfl, fun i h1 => absurd h1 (Nat.not_lt_zero _)⟩
 | x :: cs, ys, hB, ho => by
  unfold outCs at ho
  split at ho
  ·rename_i y zs h1 h2
   obtain rfl := Option.some.inj ho
   obtain ⟨l1, l2⟩ := outCs_ok hs hV (cs := cs) (fun b hb => hB b (by rw [List.flatMap_cons]; exact List.mem_append_right _ hb)) h2
   refine ⟨by simp [l1], fun i a b v he => ?_⟩
   cases i with
   | zero => exact outC_ok hs he h1 hV fun b hb => hB b (by rw [List.flatMap_cons]; exact List.mem_append_left _ hb)
   | succ i => exact l2 i (by simpa using a) (by simpa using b) v he
  ·cases ho
theorem noBuf_none {xs : List PV} (h : xs.all noBuf = true) : xs.flatMap bufsOf = [] := by
 rw [List.flatMap_eq_nil_iff]
 intro x hx
 exact List.isEmpty_iff.1 (List.all_eq_true.1 h x hx)
theorem outV_ok {E : Env} {base : Nat} {h : Heap} (hs : HeapOk P E base h) {x : PV} {v : Value} (he : Enc E x v) {d : Nat} {t : TypeId} {y : PV} (ho : outV P d h t x = some y) {V : Nat → Prop} (hV : ∀ c, ¬ E.U c → ¬ V c)
  (hB : ∀ b, b ∈ bufsOf x → ∀ c, b < E.n → E.own b = some c → ¬ V c) : Enc (bare E.w V) y v ∧ y.plainE = true := by
 have hU : ∀ c, ¬ E.U c → ¬ (bare E.w V).U c := fun c hc hh => hV c hc (bare_U hh)
 unfold outV at ho
 split at ho
 ·obtain rfl := Option.some.inj ho
  exact ⟨Enc.plain_env (E := E) (E2 := bare E.w V) rfl hU he rfl, rfl⟩
 ·rename_i cs
  split at ho
  ·rename_i ys hc
   obtain rfl := Option.some.inj ho
   cases he with
   | agg hl hx =>
    obtain ⟨l1, l2⟩ := outCs_ok hs hV (fun b hb => hB b hb) hc
    refine ⟨.agg (l1.trans hl) fun i a b => (l2 i (by omega) a _ (hx i (by omega) b)).1, ?_⟩
    simp only [PV.plainE, PV.known, PV.cells, Bool.true_and, List.all_eq_true]
    intro y hy
    obtain ⟨i, hi, rfl⟩ := List.getElem_of_mem hy
    exact (l2 i (by omega) hi _ (hx i (by omega) (by omega))).2
  ·cases ho
 ·obtain rfl := Option.some.inj ho
  exact ⟨Enc.plain_env (E := E) (E2 := bare E.w V) rfl hU he rfl, rfl⟩
 ·split at ho
  ·obtain rfl := Option.some.inj ho
   cases he
   exact ⟨.lst0, rfl⟩
  ·cases ho
 ·rename_i b ver
  split at ho
  ·rename_i e0 ver' xs k hb hsh
   split at ho
   ·rename_i hc
    obtain ⟨rfl, hke⟩ := hc
    obtain rfl := Option.some.inj ho
    cases he with
    | buf hbn hv h1 hh =>
     have hob := hs.obj b _ hb
     have hbb : ∀ c, E.own b = some c → ¬ (bare E.w V).U c := fun c hc hh => by
      exact hB b (by simp [bufsOf, bufOf]) c hbn hc (bare_U hh)
     obtain ⟨a1, a2⟩ := frozen_enc hob hke (E2 := bare E.w V) rfl hU hbb
     rw [hh a1]
     exact ⟨a2, rfl⟩
   ·cases ho
  ·cases ho
 ·cases ho
theorem outL_ok {E : Env} {base : Nat} {h : Heap} (hs : HeapOk P E base h) {d : Nat} {V : Nat → Prop} (hV : ∀ c, ¬ E.U c → ¬ V c) : ∀ {ts : List TypeId} {xs ys : List PV} {vs : List Value}, outL P d h ts xs = some ys → xs.length = vs.length → (∀ i (h1 : i < xs.length) (h2 : i < vs.length), Enc E xs[i] vs[i]) →
  (∀ b, b ∈ xs.flatMap bufsOf → ∀ c, b < E.n → E.own b = some c → ¬ V c) → ys.length = vs.length ∧ (∀ i (h1 : i < ys.length) (h2 : i < vs.length), Enc (bare E.w V) ys[i] vs[i]) ∧ ys.all PV.plainE = true
 | [], [], ys, vs, ho, hl, _, _ => by
  obtain rfl := Option.some.inj ho
  exact ⟨hl, fun i h1 _ => by simp at h1, rfl⟩
 | [], _ :: _, _, _, ho, _, _, _ => by cases ho
 | _ :: _, [], _, _, ho, _, _, _ => by cases ho
 | t :: ts, x :: xs, ys, [], ho, hl, _, _ => by cases hl
 | t :: ts, x :: xs, ys, v :: vs, ho, hl, he, hB => by
  rw [outL] at ho
  split at ho
  ·rename_i y zs h1 h2
   obtain rfl := Option.some.inj ho
   have hB1 : ∀ b, b ∈ bufsOf x → ∀ c, b < E.n → E.own b = some c → ¬ V c := fun b hb => hB b (by rw [List.flatMap_cons]; exact List.mem_append_left _ hb)
   have hB2 : ∀ b, b ∈ xs.flatMap bufsOf → ∀ c, b < E.n → E.own b = some c → ¬ V c := fun b hb => hB b (by rw [List.flatMap_cons]; exact List.mem_append_right _ hb)
   obtain ⟨a1, a2⟩ := outV_ok hs (he 0 (by simp) (by simp)) h1 hV hB1
   obtain ⟨b1, b2, b3⟩ := outL_ok hs hV (ts := ts) (xs := xs) (vs := vs) h2 (by simpa using hl) (fun i c1 c2 => by
    have := he (i + 1) (by simp; omega) (by simp; omega)
    simpa using this) hB2
   refine ⟨by simp [b1], fun i c1 c2 => ?_, by rw [List.all_cons, a2, b3]; rfl⟩
   cases i with
   | zero => exact a1
   | succ i => exact b2 i (by simpa using c1) (by simpa using c2)
  ·cases ho
mutual
/-- Plain values alone: no memory in them. -/
theorem flat_env : ∀ (s : Sh) (x : PV), s.flat = true → hasSh s x = true → ∀ {E E2 : Env} {v : Value}, Enc E x v → Enc E2 x v
 | .int k, x, _, h, E, E2, v, he => by
  cases x with
  | sc u => cases he with | sc h => exact .sc h
  | _ => simp [hasSh, PV.isInt] at h
 | .bool, x, _, h, E, E2, v, he => by
  cases x with
  | sc u => cases he with | sc h => exact .sc h
  | _ => simp [hasSh, PV.isBool] at h
 | .str, x, _, h, E, E2, v, he => by
  cases x with
  | sc u => cases he with | sc h => exact .sc h
  | _ => simp [hasSh, PV.isStr] at h
 | .agg l, x, hf, h, E, E2, v, he => by
  cases x with
  | agg cs =>
   rw [hasSh] at h
   rw [Sh.flat] at hf
   cases he with
   | agg hl hx => exact .agg hl fun i a b => flatL_env l cs hf h i a (hx i a b)
  | _ => simp [hasSh] at h
 | .tup l, x, hf, h, E, E2, v, he => by
  cases x with
  | tup cs =>
   rw [hasSh] at h
   rw [Sh.flat] at hf
   cases he with
   | tup hl hx => exact .tup hl fun i a b => flatL_env l cs hf h i a (hx i a b)
  | _ => simp [hasSh] at h
 | .lst _, _, hf, _, _, _, _, _ => by simp [Sh.flat] at hf
 | .any, _, hf, _, _, _, _, _ => by simp [Sh.flat] at hf
theorem flatL_env : ∀ (l : List Sh) (cs : List PV), Sh.flatL l = true → hasShL l cs = true → ∀ (i : Nat) (h : i < cs.length) {E E2 : Env} {v : Value}, Enc E cs[i] v → Enc E2 cs[i] v
 | [], [], _, _, i, h, _, _, _, _ => by simp at h
 | [], _ :: _, _, h, _, _, _, _, _, _ => by simp [hasShL] at h
 | _ :: _, [], _, h, _, _, _, _, _, _ => by simp [hasShL] at h
 | s :: l, x :: cs, hf, h, i, hi, E, E2, v, he => by
  rw [hasShL, Bool.and_eq_true] at h
  rw [Sh.flatL, Bool.and_eq_true] at hf
  cases i with
  | zero => exact flat_env s x hf.1 h.1 he
  | succ i => exact flatL_env l cs hf.2 h.2 i _ he
end
theorem builtin_ok {E : Env} {b : Builtin} {ts : Array TypeId} {args : List PV} {vs : Array Value} (hl : args.length = vs.size) (he : ∀ i (h1 : i < args.length) (h2 : i < vs.size), Enc E args[i] vs[i]) {x : PV} (hd : denBuiltin P b ts args = some x) (ty : TypeId) (consts : Array Bool) :
  ∃ v, (∀ w, (builtin b ts ty consts vs).run P w = .ok (.value v) w) ∧ Enc E x v := by
 unfold denBuiltin at hd
 split at hd
 ·rename_i x0
  obtain ⟨v, rfl⟩ : ∃ v, vs = #[v] := by
   have h1 : vs.size = 1 := by simpa using hl.symm
   exact ⟨vs[0], by
    apply Array.ext
    ·simp [h1]
    ·intro i a b
     simp at b
     subst b
     rfl⟩
  have h0 : Enc E x0 v := he 0 (by simp) (by simp)
  have fin : ∀ {t : TypeId} {d : TypeDesc}, ts[0]? = some t → P.underlying t = some d → ∀ {n : Nat}, (∀ w : World, (match d, v with
   | .string, .string s => pure (goInt s.size)
   | .array n _, _ => pure (goInt n)
   | .slice _, .slice _ n _ => pure (goInt n)
   | _, _ => stuck "" : Sem Value).run P w = .ok (goInt n) w) → (match d, v with
   | .string, .string _ => true
   | .array _ _, _ => true
   | .slice _, .slice _ _ _ => true
   | _, _ => false) = true → ∀ w, (builtin .len ts ty consts #[v]).run P w = .ok (.value (goInt n)) w := by
   intro t d ht hu n hr hk w
   show (do pure (Next.value (← Builtin.len_ ts ty #[v])) : Sem Next).run P w = _
   have : (Builtin.len_ ts ty #[v]).run P w = .ok (goInt n) w := by
    unfold Builtin.len_
    simp only [ht, List.getElem?_toArray, List.getElem?_cons_zero, Sem.run_bind, run_underlying hu, Result.andThen_ok]
    cases d <;> cases v <;> first | exact hr w | cases hk
   rw [Sem.run_bind, this]
   rfl
  have ty0 : ∀ {d : TypeDesc}, (ts[0]?).bind P.underlying = some d → ∃ t, ts[0]? = some t ∧ P.underlying t = some d := fun {d} h => by
   cases ht : ts[0]? with
   | none => rw [ht] at h; cases h
   | some t => rw [ht] at h; exact ⟨t, rfl, h⟩
  split at hd
  ·rename_i s hu
   obtain rfl := Option.some.inj hd
   obtain ⟨t, ht, hu⟩ := ty0 hu
   obtain rfl := h0.sc_iff
   exact ⟨_, fin ht hu (n := s.size) (fun w => rfl) rfl, .sc rfl⟩
  ·rename_i n _ hu
   obtain rfl := Option.some.inj hd
   obtain ⟨t, ht, hu⟩ := ty0 hu
   exact ⟨_, fin ht hu (n := n) (fun w => by cases v <;> rfl) (by cases v <;> rfl), .sc rfl⟩
  ·rename_i k n f hu
   obtain rfl := Option.some.inj hd
   obtain ⟨t, ht, hu⟩ := ty0 hu
   cases h0 with
   | lst0 => exact ⟨_, fin ht hu (n := 0) (fun w => rfl) rfl, .sc rfl⟩
   | lst _ _ _ _ _ _ _ => exact ⟨_, fin ht hu (n := n) (fun w => rfl) rfl, .sc rfl⟩
  ·rename_i hu
   obtain rfl := Option.some.inj hd
   obtain ⟨t, ht, hu⟩ := ty0 hu
   cases h0
   exact ⟨_, fin ht hu (n := 0) (fun w => rfl) rfl, .sc rfl⟩
  ·cases hd
 ·rename_i k a k' c
  obtain ⟨u, v, rfl⟩ : ∃ u v, vs = #[u, v] := by
   have h1 : vs.size = 2 := by simpa using hl.symm
   exact ⟨vs[0], vs[1], by
    apply Array.ext
    ·simp [h1]
    ·intro i a b
     have hi : i = 0 ∨ i = 1 := by simp at b; omega
     rcases hi with rfl | rfl <;> rfl⟩
  have h0 : Enc E (.sc (.int k a)) u := he 0 (by simp) (by simp)
  have h1 : Enc E (.sc (.int k' c)) v := he 1 (by simp) (by simp)
  obtain rfl := h0.sc_iff
  obtain rfl := h1.sc_iff
  obtain rfl := Option.some.inj hd
  refine ⟨_, fun w => ?_, .sc (v := .int k (if c > a then c else a)) rfl⟩
  show (do pure (Next.value (← Builtin.max_ ts ty #[.int k a, .int k' c])) : Sem Next).run P w = _
  simp [Builtin.max_, Builtin.max2]
 ·rename_i k a k' c
  obtain ⟨u, v, rfl⟩ : ∃ u v, vs = #[u, v] := by
   have h1 : vs.size = 2 := by simpa using hl.symm
   exact ⟨vs[0], vs[1], by
    apply Array.ext
    ·simp [h1]
    ·intro i a b
     have hi : i = 0 ∨ i = 1 := by simp at b; omega
     rcases hi with rfl | rfl <;> rfl⟩
  have h0 : Enc E (.sc (.int k a)) u := he 0 (by simp) (by simp)
  have h1 : Enc E (.sc (.int k' c)) v := he 1 (by simp) (by simp)
  obtain rfl := h0.sc_iff
  obtain rfl := h1.sc_iff
  obtain rfl := Option.some.inj hd
  refine ⟨_, fun w => ?_, .sc (v := .int k (if c < a then c else a)) rfl⟩
  show (do pure (Next.value (← Builtin.min_ ts ty #[.int k a, .int k' c])) : Sem Next).run P w = _
  simp [Builtin.min_, Builtin.min2]
 ·cases hd
theorem builtinH_ok {E : Env} {base : Nat} {h : Heap} (hs : HeapOk P E base h) {b : Builtin} {ts : Array TypeId} {args : List PV} {vs : Array Value} (hl : args.length = vs.size) (he : ∀ i (h1 : i < args.length) (h2 : i < vs.size), Enc E args[i] vs[i]) {x : PV} (hd : denBuiltinH P h b ts args = some x) (ty : TypeId) (consts : Array Bool) :
  ∃ v, (∀ w, (builtin b ts ty consts vs).run P w = .ok (.value v) w) ∧ Enc E x v := by
 unfold denBuiltinH at hd
 split at hd
 ·rename_i n hln
  obtain rfl := Option.some.inj hd
  unfold lenOf at hln
  split at hln
  ·rename_i c ver
   split at hln
   ·rename_i e e0 ver' xs hu hc
    split at hln
    ·rename_i hv
     subst hv
     obtain rfl := Option.some.inj hln
     obtain ⟨v, rfl⟩ : ∃ v, vs = #[v] := by
      have h1 : vs.size = 1 := by simpa using hl.symm
      exact ⟨vs[0], by
       apply Array.ext
       ·simp [h1]
       ·intro i a b
        simp at b
        subst b
        rfl⟩
     have h0 : Enc E (.buf c ver) v := he 0 (by simp) (by simp)
     have hob := hs.obj _ _ hc
     obtain ⟨A, cap, rfl⟩ : ∃ A cap, v = .slice A xs.length cap := by
      cases h0 with
      | buf hbn hvv h1 hh =>
       cases hob with
       | buf hown hw hk h0' hxx hxe =>
        rw [hh rfl]
        rcases hw.form.2 with ⟨e1, e2⟩ | ⟨g, cap, e1, _⟩
        ·exact ⟨none, 0, by rw [e1, e2]⟩
        ·exact ⟨_, cap, e1⟩
     obtain ⟨t, ht, hu⟩ : ∃ t, ts[0]? = some t ∧ P.underlying t = some (.slice e) := by
      cases ht : ts[0]? with
      | none => rw [ht] at hu; cases hu
      | some t => rw [ht] at hu; exact ⟨t, rfl, hu⟩
     refine ⟨goInt xs.length, fun w => ?_, .sc rfl⟩
     show (do pure (Next.value (← Builtin.len_ ts ty #[.slice A xs.length cap])) : Sem Next).run P w = _
     have : (Builtin.len_ ts ty #[.slice A xs.length cap]).run P w = .ok (goInt xs.length) w := by
      unfold Builtin.len_
      simp only [ht, List.getElem?_toArray, List.getElem?_cons_zero, Sem.run_bind, run_underlying hu, Result.andThen_ok]
      rfl
     rw [Sem.run_bind, this]
     rfl
    ·cases hln
   ·cases hln
  ·cases hln
 ·exact builtin_ok hl he hd ty consts
end
end Go.Den
