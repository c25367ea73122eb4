/- The row of a law that answers true: what it is handed opens, and reads behind the call as it read. -/
import Derived.Test.YtkhbkbkambflbaaGreatDoorDenO
import Derived.ProofKit
import Derived.SizedLaws
namespace Go.Den
open Go Go.RowKit Go.ChangeShapes Go.WideShapes Go.ChangeAt
set_option linter.unusedVariables false
section
variable {P : Program}
/-- What a law is handed, as plain values. -/
def Handed (P : Program) (W : World) : List TypeId → List Value → List PV → Prop
  | [], [], [] => True
  | t :: ts, v :: vs, x :: xs => Enc (bare W fun _ => False) x v ∧ (∃ cs, x = ofCells P t cs ∧ Ty P t cs) ∧ Handed P W ts vs xs
  | _, _, _ => False
theorem open_arg {H : Type} {enc : TypeId × Value → H} {W : World} {l : List TypeId} (hg : goodAll P l = true) {t : TypeId} (ht : t ∈ l) {base : Nat} {v : Value} (hv : Value.okWide P W .any base t v) {d : DataW H} {p : List MemPlace} (h : DataW.Trod enc P W 0 (fun _ => true) true t v d p) (hwt : ∀ n, n ∈ d.weights P t → n ≤ reachBytes) :
    ∃ x, Enc (bare W fun _ => False) x v ∧ ∃ cs, x = ofCells P t cs ∧ Ty P t cs := by
  obtain ⟨fuel, hf⟩ := h
  obtain ⟨xs, hx⟩ := open_cells hg fuel t _ d p ht hf hwt
  refine ⟨ofCells P t xs, ?_, xs, rfl, hx.ty⟩
  have one : v.oneCell' = true → (P.underlying t).any isAggD = false → Enc (bare W fun _ => False) (ofCells P t xs) v := fun h1 h2 => by
    have hc := oneCell_cells h1
    have hl := hx.len
    rw [hc] at hl
    obtain ⟨x, rfl⟩ : ∃ x, xs = [x] := by
      match xs, hl with
      | [x], _ => exact ⟨x, rfl⟩
    unfold ofCells
    rw [if_neg (by rw [h2]; decide)]
    have := hx.enc 0 (by simp) (by rw [hc]; simp)
    simp only [hc] at this
    exact this
  have hgs := List.all_eq_true.1 hg t ht
  unfold goodStep at hgs
  cases hu : P.underlying t with
  | none => rw [hu] at hgs; cases hgs
  | some ty =>
    rw [hu] at hgs
    cases ty <;> first | (cases hgs; done) | skip
    case bool =>
      obtain ⟨b, rfl⟩ := okWide_bool hu hv
      exact one rfl (by rw [hu]; rfl)
    case int k =>
      obtain ⟨n, rfl⟩ := okWide_int hu hv
      exact one rfl (by rw [hu]; rfl)
    case string =>
      obtain ⟨s, rfl⟩ := okWide_string hu hv
      exact one rfl (by rw [hu]; rfl)
    case slice e =>
      obtain ⟨a, b, c, rfl⟩ := okWide_slice hu hv
      exact one rfl (by rw [hu]; rfl)
    case struct fs =>
      obtain ⟨cs, rfl, hcs⟩ := okWide_struct hu hv
      unfold ofCells
      rw [if_pos (by rw [hu]; rfl)]
      have hc : (Value.agg cs).cells = cs := rfl
      refine .agg (by have := hx.len; simpa [hc] using this) fun i h1 h2 => ?_
      have := hx.enc i h1 (by simpa [hc] using h2)
      simpa [hc] using this
    case array n e =>
      obtain ⟨cs, rfl⟩ : ∃ cs, v = .agg cs := by
        unfold Value.okWide at hv
        rw [hu] at hv
        obtain ⟨cs, h, _⟩ := hv
        exact ⟨cs, h⟩
      unfold ofCells
      rw [if_pos (by rw [hu]; rfl)]
      have hc : (Value.agg cs).cells = cs := rfl
      refine .agg (by have := hx.len; simpa [hc] using this) fun i h1 h2 => ?_
      have := hx.enc i h1 (by simpa [hc] using h2)
      simpa [hc] using this
theorem open_all {H : Type} {enc : TypeId × Value → H} {W : World} {l : List TypeId} (hg : goodAll P l = true) {base : Nat} : ∀ (ts : List TypeId) (vs : List Value) (ds : List (DataW H)) (ps : List MemPlace), (∀ t, t ∈ ts → t ∈ l) → DataW.TrodAll enc P W 0 (fun _ => true) true ts vs ds ps →
    (∀ (j : Nat) t v, ts[j]? = some t → vs[j]? = some v → Value.okWide P W .any base t v) → (∀ n, n ∈ DataW.weightsEach P ts ds → n ≤ reachBytes) → ∃ xs, Handed P W ts vs xs
  | [], [], [], _, _, _, _, _ => ⟨[], trivial⟩
  | t :: ts, v :: vs, d :: ds, ps, hl, h, hv, hw => by
    obtain ⟨p, q, h1, h2, _⟩ := h
    obtain ⟨x, hx, hx2⟩ := open_arg hg (hl t List.mem_cons_self) (hv 0 t v rfl rfl) h1 fun n hn => hw n (by rw [DataW.weightsEach]; exact List.mem_append_left _ hn)
    obtain ⟨xs, hxs⟩ := open_all hg ts vs ds q (fun t ht => hl t (List.mem_cons_of_mem _ ht)) h2 (fun j t v ht hv' => hv (j + 1) t v (by simpa using ht) (by simpa using hv')) fun n hn => hw n (by rw [DataW.weightsEach]; exact List.mem_append_right _ hn)
    exact ⟨x :: xs, hx, hx2, hxs⟩
  | [], _ :: _, _, _, _, h, _, _ => by simp [DataW.TrodAll] at h
  | [], [], _ :: _, _, _, h, _, _ => by simp [DataW.TrodAll] at h
  | _ :: _, [], _, _, _, h, _, _ => by simp [DataW.TrodAll] at h
  | _ :: _, _ :: _, [], _, _, h, _, _ => by simp [DataW.TrodAll] at h
theorem weights_app {H : Type} {us : List TypeId} {gs : List (DataW H)} : ∀ {ts : List TypeId} {ds : List (DataW H)}, ∀ n, n ∈ DataW.weightsEach P ts ds → n ∈ DataW.weightsEach P (ts ++ us) (ds ++ gs)
  | t :: ts, d :: ds, n, h => by
    rw [List.cons_append, List.cons_append, DataW.weightsEach]
    rw [DataW.weightsEach] at h
    rcases List.mem_append.1 h with h | h
    · exact List.mem_append_left _ h
    · exact List.mem_append_right _ (weights_app n h)
  | [], _, n, h => by simp [DataW.weightsEach] at h
  | _ :: _, [], n, h => by simp [DataW.weightsEach] at h
theorem carry_all {H : Type} {enc : TypeId × Value → H} {W W' : World} (hlo : laidOutB P = true) (hb : Below W.heap.size W W') : ∀ (ts : List TypeId) (vs : List Value) (ds : List (DataW H)) (ps : List MemPlace), (ts.all fun t => P.readableRec t && decide (t < P.types.size)) = true → DataW.TrodAll enc P W 0 (fun _ => true) true ts vs ds ps →
    DataW.TrodAll enc P W' 0 (fun b => decide (b < W.heap.size)) true ts vs ds ps
  | [], [], [], _, _, h => h
  | t :: ts, v :: vs, d :: ds, ps, hr, h => by
    obtain ⟨p, q, h1, h2, e⟩ := h
    rw [List.all_cons, Bool.and_eq_true, Bool.and_eq_true, decide_eq_true_eq] at hr
    refine ⟨p, q, Below.trod hlo hr.1.1 hr.1.2 h1 hb ?_, carry_all hlo hb ts vs ds q hr.2 h2, e⟩
    obtain ⟨m, hm⟩ := h1
    exact DataW.trod_lt m _ _ _ hm
  | [], _ :: _, _, _, _, h => by simp [DataW.TrodAll] at h
  | [], [], _ :: _, _, _, h => by simp [DataW.TrodAll] at h
  | _ :: _, [], _, _, _, h => by simp [DataW.TrodAll] at h
  | _ :: _, _ :: _, [], _, _, h => by simp [DataW.TrodAll] at h
theorem Handed.enc {W : World} : ∀ {ts : List TypeId} {vs : List Value} {xs : List PV}, Handed P W ts vs xs → xs.length = vs.length ∧ ∀ i (h1 : i < xs.length) (h2 : i < vs.length), Enc (bare W fun _ => False) xs[i] vs[i]
  | [], [], [], _ => ⟨rfl, fun i h1 => absurd h1 (Nat.not_lt_zero _)⟩
  | t :: ts, v :: vs, x :: xs, h => by
    obtain ⟨h1, _, h2⟩ := h
    obtain ⟨a, b⟩ := h2.enc
    refine ⟨by simp [a], fun i c d => ?_⟩
    cases i with
    | zero => exact h1
    | succ i => exact b i (by simpa using c) (by simpa using d)
  | [], [], _ :: _, h => by simp [Handed] at h
  | [], _ :: _, _, h => by simp [Handed] at h
  | _ :: _, [], _, h => by simp [Handed] at h
  | _ :: _, _ :: _, [], h => by simp [Handed] at h
/-- The call of a law. -/
theorem law_calls {T : World → Prop} {f : FuncId} {args : Array Value} {W : World} {ts : List TypeId} {xs : List PV} (h : FunOk P T f xs (.sc (.bool true))) (hT : T W) (hh : Handed P W ts args.toList xs) :
    Calls P f args W fun e W' => e = .returned (.bool true) ∧ Below W.heap.size W W' := by
  obtain ⟨h1, h2⟩ := hh.enc
  refine (h.plain W (fun _ => False) args hT (fun _ h => h.elim) (by simpa using h1) fun i a b => ?_).mono ?_
  · have := h2 i a (by simpa using b)
    simpa using this
  · rintro e W' ⟨v, rfl, hv, _, hb⟩
    obtain rfl := hv.sc_iff
    exact ⟨rfl, hb⟩
end
end Go.Den
