/- What a call hands back, in its own shape; slices that become plain lists. -/
import Derived.Test.YtkhbkbkambflbaaGreatDoorDenC
namespace Go.Den
open Go
set_option linter.unusedVariables false

theorem plain_known {x : PV} (h : x.plain = true) : x.known = true ∧ x.one = true ∧ x.cells = [x] := by
 cases x <;> first | exact ⟨rfl, rfl, rfl⟩ | cases h
theorem plainE_of_plain {x : PV} (h : x.plain = true) : x.plainE = true := by
 cases x <;> first | rfl | cases h | exact h
/-- Cell by cell. -/
def CellsEnc (E : Env) (x : PV) (vs : Nat → Value) : Prop := ∀ j (hj : j < x.cells.length), Enc E x.cells[j] (vs j)
def RebOk (s : Sh) (x : PV) : Prop := (∀ E vs, CellsEnc E x vs → CellsEnc E (rebuild s x) vs) ∧ (∀ E v, Enc E x v → Enc E (rebuild s x) v) ∧ (rebuild s x).cells.length = x.cells.length ∧ (x.plain = true → (rebuild s x).plain = true) ∧ (x.plainE = true → (rebuild s x).plainE = true)
theorem cellsEnc_one {E : Env} {x y : PV} {vs : Nat → Value} (hx : x.cells = [x]) (hy : y.cells = [y]) (h : ∀ v, Enc E x v → Enc E y v) (hc : CellsEnc E x vs) : CellsEnc E y vs := by
 intro j hj
 have hj0 : j = 0 := by rw [hy] at hj; simpa using hj
 subst hj0
 have h0 := hc 0 (by rw [hx]; simp)
 simp only [hx, List.getElem_cons_zero] at h0
 simp only [hy, List.getElem_cons_zero]
 exact h _ h0
theorem rebOk_same {s : Sh} {x : PV} (h : rebuild s x = x) : RebOk s x := by
 unfold RebOk
 rw [h]
 exact ⟨fun _ _ h => h, fun _ _ h => h, rfl, id, id⟩
mutual
theorem reb_ok : ∀ (s : Sh) (x : PV), hasSh s x = true → RebOk s x
 | .int k, x, h => by
  cases x with
  | sc v =>
   cases v with
   | int k' n =>
    rw [hasSh] at h
    simp only [PV.isInt, beq_iff_eq] at h
    subst h
    exact rebOk_same rfl
   | _ => simp [hasSh, PV.isInt] at h
  | _ => simp [hasSh, PV.isInt] at h
 | .bool, x, h => by
  cases x with
  | sc v => cases v <;> first | exact rebOk_same rfl | simp [hasSh, PV.isBool] at h
  | _ => simp [hasSh, PV.isBool] at h
 | .str, x, h => by
  cases x with
  | sc v => cases v <;> first | exact rebOk_same rfl | simp [hasSh, PV.isStr] at h
  | _ => simp [hasSh, PV.isStr] at h
 | .agg l, x, h => by
  cases x with
  | agg cs =>
   rw [hasSh] at h
   obtain ⟨h1, h2⟩ := rebL_ok l cs h
   have e : rebuild (.agg l) (.agg cs) = .agg (rebuildL l cs) := by rw [rebuild]; rfl
   unfold RebOk
   rw [e]
   refine ⟨fun E vs hc j hj => ?_, fun E v hv => ?_, h1, fun hp => (by cases hp), fun hp => ?_⟩
   ·have hj2 : j < cs.length := by have : j < (rebuildL l cs).length := hj; omega
    exact (h2 j hj2 hj).1 E _ (hc j hj2)
   ·cases hv with
    | agg hl hx => exact .agg (by omega) fun i a b => (h2 i (by omega) a).1 E _ (hx i (by omega) b)
   ·simp only [PV.plainE, PV.known, PV.cells, Bool.true_and, List.all_eq_true] at hp ⊢
    intro y hy
    obtain ⟨i, hi, rfl⟩ := List.getElem_of_mem hy
    exact (h2 i (by omega) hi).2 (hp _ (List.getElem_mem (by omega)))
  | _ => simp [hasSh] at h
 | .tup l, x, h => by
  cases x with
  | tup cs =>
   rw [hasSh] at h
   obtain ⟨h1, h2⟩ := rebL_ok l cs h
   have e : rebuild (.tup l) (.tup cs) = .tup (rebuildL l cs) := by rw [rebuild]; rfl
   have hv : ∀ E v, Enc E (.tup cs) v → Enc E (.tup (rebuildL l cs)) v := fun E v hv => by
    cases hv with
    | tup hl hx => exact .tup (by omega) fun i a b => (h2 i (by omega) a).1 E _ (hx i (by omega) b)
   unfold RebOk
   rw [e]
   exact ⟨fun E vs hc => cellsEnc_one rfl rfl (hv E) hc, hv, rfl, fun hp => (by cases hp), fun hp => (by cases hp)⟩
  | _ => simp [hasSh] at h
 | .lst k, x, h => by
  rw [hasSh] at h
  have e0 : rebuild (.lst k) x = .lst k x.len x.at := by rw [rebuild]
  have hv : ∀ E v, Enc E x v → Enc E (rebuild (.lst k) x) v := by
   intro E v hv
   rw [e0]
   cases hv with
   | nils => exact .lst0
   | lst0 => exact .lst0
   | lst hn hb hu hk hp hc hx =>
    rename_i k' n f b off cap g
    by_cases hn0 : n = 0
    ·subst hn0
     exact .lst0
    ·have hkk : k' = k := by
      simp only [PV.isLst, Bool.or_eq_true, beq_iff_eq] at h
      omega
     subst hkk
     exact .lst hn hb hu hk hp hc hx
   | _ => simp [PV.isLst] at h
  have hx1 : x.cells = [x] := by
   cases x <;> first | rfl | simp [PV.isLst] at h
  unfold RebOk
  refine ⟨fun E vs hc => cellsEnc_one hx1 (by rw [e0]; rfl) (hv E) hc, hv, by rw [e0, hx1]; rfl, fun _ => by rw [e0]; rfl, fun _ => by rw [e0]; rfl⟩
 | .any, x, h => rebOk_same (by rw [rebuild])
theorem rebL_ok : ∀ (l : List Sh) (cs : List PV), hasShL l cs = true → (rebuildL l cs).length = cs.length ∧ ∀ i (h1 : i < cs.length) (h2 : i < (rebuildL l cs).length), (∀ E v, Enc E cs[i] v → Enc E (rebuildL l cs)[i] v) ∧ (cs[i].plain = true → (rebuildL l cs)[i].plain = true)
 | [], [], _ => ⟨rfl, fun i h1 _ => by simp at h1⟩
 | [], _ :: _, h => by simp [hasShL] at h
 | _ :: _, [], h => by simp [hasShL] at h
 | s :: l, x :: cs, h => by
  rw [hasShL, Bool.and_eq_true] at h
  obtain ⟨h1, h2⟩ := rebL_ok l cs h.2
  have hs := reb_ok s x h.1
  have e : rebuildL (s :: l) (x :: cs) = rebuild s x :: rebuildL l cs := by rw [rebuildL]; rfl
  refine ⟨by rw [e]; simp [h1], fun i a b => ?_⟩
  cases i with
  | zero => simp only [e, List.getElem_cons_zero]; exact ⟨hs.2.1, hs.2.2.2.1⟩
  | succ i => simp only [e, List.getElem_cons_succ]; exact h2 i _ _
end
end Go.Den
