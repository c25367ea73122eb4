/- Operations that only read, one by one. -/
import Derived.Test.YtkhbkbkambflbaaGreatDoorDenD
import Derived.Laws.StructEq
namespace Go.Den
open Go
section
variable {P : Program}

theorem exec_v {s : Sem Value} {v : Value} {w w' : World} (h : s.run P w = .ok v w') : (do pure (Next.value (← s)) : Sem Next).run P w = .ok (.value v) w' := by
 simp [h]
theorem sc_val {E : Env} {x : PV} {v u : Value} (he : Enc E x v) (hx : x = .sc u) : v = u := by
 subst hx; exact he.sc_iff
theorem eqFs_ok {E : Env} {F : TypeId → PV → PV → Option Bool} {D : Nat} (hF : ∀ t p q a b r, Enc E p a → Enc E q b → F t p q = some r → ∀ w, (Op.equalIn D t a b).run P w = .ok r w)
  {xs ys : List PV} {us vs : Array Value} (hx : Enc E (.agg xs) (.agg us)) (hy : Enc E (.agg ys) (.agg vs)) : ∀ (fs : List Field) (r : Bool), eqFs P F xs ys fs = some r → ∀ w, (Op.eqFields D us vs fs).run P w = .ok r w
 | [], r, h, w => by
  obtain rfl := Option.some.inj h
  simp [Op.eqFields]
 | f :: fs, r, h, w => by
  rw [eqFs] at h
  split at h
  ·cases h
  ·rename_i hn
   split at h
   ·rename_i p q h1 h2
    split at h
    ·rename_i r1 r2 e1 e2
     obtain rfl := Option.some.inj h
     cases hx with
     | agg hl1 hx =>
     cases hy with
     | agg hl2 hy =>
     obtain ⟨a, ha, ea⟩ := part_run hl1 hx h1
     obtain ⟨b, hb, eb⟩ := part_run hl2 hy h2
     have hr := hF _ _ _ _ _ _ ea eb e1 w
     have ih := eqFs_ok hF (.agg hl1 hx) (.agg hl2 hy) fs r2 e2 w
     rw [Op.eqFields]
     simp only [if_pos (show f.name ≠ "_" by simpa using hn), Sem.run_bind, ha, hb, hr, Result.andThen_ok]
     cases r1
     ·simp
     ·simpa using ih
    ·cases h
   ·cases h
theorem eqP_ok {E : Env} : ∀ (d : Nat) (t : TypeId) (p q : PV) (a b : Value) (r : Bool), Enc E p a → Enc E q b → eqP P d t p q = some r → ∀ D, d ≤ D → ∀ w, (Op.equalIn D t a b).run P w = .ok r w
 | 0, _, _, _, _, _, _, _, _, h, _, _, _ => by cases h
 | d + 1, t, p, q, a, b, r, hp, hq, h, D, hD, w => by
  obtain ⟨D, rfl⟩ : ∃ m, D = m + 1 := ⟨D - 1, by omega⟩
  unfold eqP at h
  split at h
  ·rename_i ht
   obtain rfl := hp.sc_iff
   obtain rfl := hq.sc_iff
   obtain rfl := Option.some.inj h
   exact run_equalIn_bool' w D t _ _ ht
  ·rename_i k0 k m k' n ht
   obtain rfl := hp.sc_iff
   obtain rfl := hq.sc_iff
   split at h
   ·rename_i e
    subst e
    obtain rfl := Option.some.inj h
    exact run_equalIn_int w D t _ _ _ _ ht
   ·cases h
  ·rename_i ht
   obtain rfl := hp.sc_iff
   obtain rfl := hq.sc_iff
   obtain rfl := Option.some.inj h
   exact run_equalIn_string w D t _ _ ht
  ·rename_i fs xs ys ht
   split at h
   ·rename_i hs
    have hx := hp
    have hy := hq
    cases hp with
    | agg hl1 hp =>
    cases hq with
    | agg hl2 hq =>
    have hf : P.fieldsOf t = fs := by simp [Program.fieldsOf, ht]
    rw [run_equalIn_struct (P := P) w D t _ _ (by rw [hf]; exact ht) hs, hf]
    exact eqFs_ok (fun t p q a b r h1 h2 h3 => eqP_ok d t p q a b r h1 h2 h3 D (by omega)) hx hy _ _ h w
   ·cases h
  ·cases h
theorem eq_run {E : Env} {t : TypeId} {x y : Operand} {p q : PV} {a b : Value} (hp : Enc E p a) (hq : Enc E q b) (hg : P.eqGuardType P.depth t = false) {r : Bool} (h : eqP P 6 t p q = some r) (w : World) :
  (do eqGuard .eql t x y a b; binOp .eql t a b : Sem Value).run P w = .ok (.bool r) w ∧ (do eqGuard .neq t x y a b; binOp .neq t a b : Sem Value).run P w = .ok (.bool (!r)) w := by
 have hr := eqP_ok 6 t p q a b r hp hq h 10000 (by omega) w
 unfold eqP at h
 split at h
 ·obtain rfl := hp.sc_iff
  obtain rfl := hq.sc_iff
  have e : ∀ u v : Bool, (Op.equal t (.bool u) (.bool v)).run P w = (Op.equalIn 10000 t (.bool u) (.bool v)).run P w := fun _ _ => rfl
  constructor
  ·show (binOp .eql t (.bool _) (.bool _)).run P w = _
   simp only [binOp, Sem.run_bind, e, hr, Result.andThen_ok, Sem.run_pure]
  ·show (binOp .neq t (.bool _) (.bool _)).run P w = _
   simp only [binOp, Sem.run_bind, e, hr, Result.andThen_ok, Sem.run_pure]
 ·rename_i k0 k m k' n ht
  obtain rfl := hp.sc_iff
  obtain rfl := hq.sc_iff
  split at h
  ·rename_i e
   subst e
   obtain rfl := Option.some.inj h
   constructor
   ·show (binOp .eql t (.int k m) (.int k n)).run P w = _
    unfold binOp
    dsimp only
    rw [if_neg (by simp)]
    simp [Op.intCmp]
   ·show (binOp .neq t (.int k m) (.int k n)).run P w = _
    unfold binOp
    dsimp only
    rw [if_neg (by simp)]
    simp [Op.intCmp, bne]
  ·cases h
 ·obtain rfl := hp.sc_iff
  obtain rfl := hq.sc_iff
  obtain rfl := Option.some.inj h
  exact ⟨rfl, rfl⟩
 ·rename_i fs xs ys ht
  cases hp
  cases hq
  constructor
  ·rw [Sem.run_bind, run_eqGuard_agg w _ _ _ _ _ _ hg, Result.andThen_ok, run_eql_struct, hr]
   rfl
  ·rw [Sem.run_bind, run_eqGuard_agg w _ _ _ _ _ _ hg, Result.andThen_ok, run_neq_struct, hr]
   rfl
 ·cases h
theorem ptr_nil_run {t : TypeId} (ht : isPtrT P t = true) (p : Option Addr) (w : World) : (binOp .eql t (.pointer p) (.pointer none)).run P w = .ok (.bool p.isNone) w ∧ (binOp .neq t (.pointer p) (.pointer none)).run P w = .ok (.bool (!p.isNone)) w := by
 obtain ⟨e, he⟩ : ∃ e, P.underlying t = some (.pointer e) := by
  unfold isPtrT at ht
  split at ht
  ·rename_i e he; exact ⟨e, he⟩
  ·cases ht
 have h : (Op.equal t (.pointer p) (.pointer none)).run P w = .ok p.isNone w := by
  show (Op.equalIn 10000 t (.pointer p) (.pointer none)).run P w = _
  unfold Op.equalIn
  rw [Sem.run_bind, run_underlying he, Result.andThen_ok]
  cases p <;> rfl
 constructor
 ·simp only [binOp, Sem.run_bind, h, Result.andThen_ok, Sem.run_pure]
 ·simp only [binOp, Sem.run_bind, h, Result.andThen_ok, Sem.run_pure]
theorem bin_ok {E : Env} {op : BinOp} {t : TypeId} {x y : Operand} {p q : PV} {a b : Value} (hp : Enc E p a) (hq : Enc E q b) {K : PV → Option PV} {r : PV} (hd : denBin P op t p q K = some r) :
  ∃ z v, (∀ w, (do eqGuard op t x y a b; binOp op t a b : Sem Value).run P w = .ok v w) ∧ Enc E z v ∧ K z = some r := by
 have guard : (∀ cs, a ≠ .agg cs) → a ≠ .nilIface → ∀ w, (eqGuard op t x y a b).run P w = .ok () w := by
  intro h1 h2 w
  unfold eqGuard
  cases op <;> first | rfl | skip
  all_goals
   cases a <;> first | rfl | exact absurd rfl h2 | (rename_i cs; exact absurd rfl (h1 cs)) | (cases b <;> rfl)
 have fin : (∀ cs, a ≠ .agg cs) → a ≠ .nilIface → ∀ {v : Value}, (∀ w, (binOp op t a b).run P w = .ok v w) → ∀ w, (do eqGuard op t x y a b; binOp op t a b : Sem Value).run P w = .ok v w := by
  intro h1 h2 v h w
  rw [Sem.run_bind, guard h1 h2, Result.andThen_ok, h]
 unfold denBin at hd
 split at hd
 ·-- shl
  rename_i k m k' n
  obtain rfl := hp.sc_iff
  obtain rfl := hq.sc_iff
  split at hd
  ·rename_i h0
   refine ⟨_, _, fin (fun _ h => by cases h) (fun h => by cases h) (fun w => ?_), .sc rfl, hd⟩
   show (Op.shift .shl k m k' n).run P w = _
   unfold Op.shift
   rw [if_neg (by omega)]
   rfl
  ·cases hd
 ·rename_i k m k' n
  obtain rfl := hp.sc_iff
  obtain rfl := hq.sc_iff
  split at hd
  ·rename_i h0
   refine ⟨_, _, fin (fun _ h => by cases h) (fun h => by cases h) (fun w => ?_), .sc rfl, hd⟩
   show (Op.shift .shr k m k' n).run P w = _
   unfold Op.shift
   rw [if_neg (by omega)]
   rfl
  ·cases hd
 ·rename_i k m k' n
  obtain rfl := hp.sc_iff
  obtain rfl := hq.sc_iff
  split at hd
  ·rename_i h0
   obtain ⟨rfl, h0⟩ := h0
   refine ⟨_, _, fin (fun _ h => by cases h) (fun h => by cases h) (fun w => ?_), .sc rfl, hd⟩
   unfold binOp
   dsimp only
   rw [if_neg (by simp)]
   unfold Op.intDiv
   rw [if_neg h0]
   rfl
  ·cases hd
 ·rename_i k m k' n
  obtain rfl := hp.sc_iff
  obtain rfl := hq.sc_iff
  split at hd
  ·rename_i h0
   obtain ⟨rfl, h0⟩ := h0
   refine ⟨_, _, fin (fun _ h => by cases h) (fun h => by cases h) (fun w => ?_), .sc rfl, hd⟩
   unfold binOp
   dsimp only
   rw [if_neg (by simp)]
   unfold Op.intDiv
   rw [if_neg h0]
   rfl
  ·cases hd
 ·rename_i op' k m k' n h1 h2 h3 h4
  obtain rfl := hp.sc_iff
  obtain rfl := hq.sc_iff
  split at hd
  ·rename_i h0
   subst h0
   split at hd
   ·rename_i v hv
    unfold intBin at hv
    cases op <;> first | (cases hv; done) | exact absurd rfl h1 | exact absurd rfl h2 | exact absurd rfl h3 | exact absurd rfl h4 | skip
    all_goals
     injection hv with hv
     subst hv
     refine ⟨_, _, fin (fun _ h => by cases h) (fun h => by cases h) (fun w => ?_), .sc rfl, hd⟩
     unfold binOp
     dsimp only
     rw [if_neg (by simp)]
     first | rfl | (simp [Op.intArith]; done) | (simp [Op.intCmp]; done) | (simp [intBits_and, intBits_or, intBits_xor, intBits_andNot]; done)
   ·cases hd
  ·cases hd
 ·rename_i m n
  obtain rfl := hp.sc_iff
  obtain rfl := hq.sc_iff
  split at hd
  ·rename_i h0
   refine ⟨_, _, fin (fun _ h => by cases h) (fun h => by cases h) (fun w => ?_), .sc rfl, hd⟩
   unfold binOp
   dsimp only
   unfold Op.stringOp
   dsimp only
   rw [if_neg (by simp [IntKind.max, IntKind.signed, IntKind.bits]; omega)]
   rfl
  ·cases hd
 ·rename_i m n
  obtain rfl := hp.sc_iff
  obtain rfl := hq.sc_iff
  exact ⟨_, _, fin (fun _ h => by cases h) (fun h => by cases h) (fun w => rfl), .sc rfl, hd⟩
 ·rename_i m n
  obtain rfl := hp.sc_iff
  obtain rfl := hq.sc_iff
  exact ⟨_, _, fin (fun _ h => by cases h) (fun h => by cases h) (fun w => rfl), .sc rfl, hd⟩
 ·split at hd
  ·rename_i ht
   obtain rfl := hp.sc_iff
   obtain rfl := hq.sc_iff
   exact ⟨_, _, fin (fun _ h => by cases h) (fun h => by cases h) (fun w => (ptr_nil_run ht none w).1), .sc rfl, hd⟩
  ·cases hd
 ·split at hd
  ·rename_i ht
   obtain rfl := hp.sc_iff
   obtain rfl := hq.sc_iff
   exact ⟨_, _, fin (fun _ h => by cases h) (fun h => by cases h) (fun w => (ptr_nil_run ht none w).2), .sc rfl, hd⟩
  ·cases hd
 ·split at hd
  ·rename_i ht
   obtain rfl := hq.sc_iff
   cases hp with
   | ptr hb => exact ⟨_, _, fin (fun _ h => by cases h) (fun h => by cases h) (fun w => (ptr_nil_run ht (some _) w).1), .sc rfl, hd⟩
  ·cases hd
 ·split at hd
  ·rename_i ht
   obtain rfl := hq.sc_iff
   cases hp with
   | ptr hb => exact ⟨_, _, fin (fun _ h => by cases h) (fun h => by cases h) (fun w => (ptr_nil_run ht (some _) w).2), .sc rfl, hd⟩
  ·cases hd
 ·split at hd
  ·rename_i hg
   split at hd
   ·rename_i b0 hb0
    exact ⟨_, .bool b0, fun w => (eq_run (x := x) (y := y) hp hq hg hb0 w).1, .sc rfl, hd⟩
   ·cases hd
  ·cases hd
 ·split at hd
  ·rename_i hg
   split at hd
   ·rename_i b0 hb0
    exact ⟨_, .bool (!b0), fun w => (eq_run (x := x) (y := y) hp hq hg hb0 w).2, .sc rfl, hd⟩
   ·cases hd
  ·cases hd
 ·cases hd
end
end Go.Den
