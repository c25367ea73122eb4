/- What a law is handed: a reading of it opens to plain values of its type. -/
import Derived.Test.YtkhbkbkambflbaaGreatDoorDenP
import GoSem.ClaimJoined
import Derived.DataReads
import Derived.SizedLaws
namespace Go.Den
open Go Go.RowKit
set_option linter.unusedVariables false
section
variable {P : Program}
/-- Cells of a type. -/
inductive Ty (P : Program) : TypeId → List PV → Prop
  | bool {t : TypeId} {b : Bool} (hu : P.underlying t = some .bool) : Ty P t [.sc (.bool b)]
  | int {t : TypeId} {k : IntKind} {n : Int} (hu : P.underlying t = some (.int k)) (hw : (Lit.int k n).wf = true) : Ty P t [.sc (.int k n)]
  | str {t : TypeId} {s : ByteArray} (hu : P.underlying t = some .string) (hs : s.size ≤ reachBytes) : Ty P t [.sc (.string s)]
  | slice {t e : TypeId} {l : List PV} (hu : P.underlying t = some (.slice e)) (hl : l.length ≤ maxLen) (hb : l.length * P.bytesOf e ≤ reachBytes) (hx : ∀ x, x ∈ l → Ty P e x.cells) (hp : ∀ x, x ∈ l → x.plainE = true ∧ x.cells.length = P.cellsOf e ∧ ((P.underlying e).any isAggD = true → ∃ cs, x = .agg cs) ∧ x = (if (P.underlying e).any isAggD = true then .agg x.cells else x.cells.headD .top)) : Ty P t [frozen (P.cellsOf e) l]
  | struct {t : TypeId} {fs : Array Field} {xs : List PV} (hu : P.underlying t = some (.struct fs)) (hl : xs.length = P.cellsOf t) (hx : ∀ f, f ∈ fs.toList → Ty P f.type ((xs.drop f.offset).take (P.cellsOf f.type))) : Ty P t xs
  | array {t e : TypeId} {n : Nat} {xs : List PV} (hu : P.underlying t = some (.array n e)) (hl : xs.length = P.cellsOf t) (hx : ∀ i, i < n → Ty P e ((xs.drop (i * P.cellsOf e)).take (P.cellsOf e))) : Ty P t xs
/-- Fields lie one behind the other. -/
def fieldsTile (P : Program) : Nat → List Field → Nat → Bool
  | o, [], n => o == n
  | o, f :: fs, n => f.offset == o && fieldsTile P (o + P.cellsOf f.type) fs n
/-- Types of which a reading opens: closed under parts. -/
def goodStep (P : Program) (l : List TypeId) (t : TypeId) : Bool := match P.underlying t with
  | some .bool => true
  | some (.int _) => true
  | some .string => true
  | some (.slice e) => l.contains e && decide (0 < P.cellsOf e) && (if (P.underlying e).any isAggD = true then true else P.cellsOf e == 1)
  | some (.struct fs) => fs.toList.all (fun f => l.contains f.type) && fieldsTile P 0 fs.toList (P.cellsOf t)
  | some (.array n e) => l.contains e && (n * P.cellsOf e == P.cellsOf t)
  | _ => false
def goodAll (P : Program) (l : List TypeId) : Bool := l.all (goodStep P l)
structure Opens (w : World) (P : Program) (t : TypeId) (cs : List Value) (xs : List PV) : Prop where
  len : xs.length = cs.length
  enc : ∀ i (h1 : i < xs.length) (h2 : i < cs.length), Enc (bare w fun _ => False) xs[i] cs[i]
  plain : xs.all PV.plain = true
  ty : Ty P t xs
theorem one_open {w : World} {t : TypeId} {x : PV} {v : Value} (he : Enc (bare w fun _ => False) x v) (hp : x.plain = true) (ht : Ty P t [x]) : Opens w P t [v] [x] :=
  ⟨rfl, fun i h1 h2 => by
    have : i = 0 := by simpa using h1
    subst this
    exact he, by simp [hp], ht⟩
/-- A value out of its cells. -/
def ofCells (P : Program) (t : TypeId) (xs : List PV) : PV := if (P.underlying t).any isAggD = true then .agg xs else xs.headD .top
theorem choose_list {α β : Type} {R : Nat → β → Prop} (d : β) : ∀ (n : Nat), (∀ i, i < n → ∃ y, R i y) → ∃ l : List β, l.length = n ∧ ∀ i (h : i < l.length), R i l[i]
  | 0, _ => ⟨[], rfl, fun i h => absurd h (Nat.not_lt_zero _)⟩
  | n + 1, h => by
    obtain ⟨l, h1, h2⟩ := choose_list (α := α) d n fun i hi => h i (by omega)
    obtain ⟨y, hy⟩ := h n (by omega)
    refine ⟨l ++ [y], by simp [h1], fun i hi => ?_⟩
    by_cases hin : i < l.length
    · rw [List.getElem_append_left hin]; exact h2 i hin
    · have : i = n := by simp at hi; omega
      subst this
      have e : (l ++ [y])[l.length]? = some y := by simp
      have : (l ++ [y])[i] = y := by simp [← h1]
      rw [this]
      exact hy
theorem weights_all {H : Type} {e : TypeId} {d : DataW H} : ∀ {l : List (DataW H)}, d ∈ l → ∀ n, n ∈ d.weights P e → n ∈ DataW.weightsAll P e l
  | [], h, _, _ => by cases h
  | x :: l, h, n, hn => by
    rw [DataW.weightsAll]
    rcases List.mem_cons.1 h with rfl | h
    · exact List.mem_append_left _ hn
    · exact List.mem_append_right _ (weights_all h n hn)
theorem open_cells {H : Type} {enc : TypeId × Value → H} {w : World} {l : List TypeId} (hg : goodAll P l = true) : ∀ (fuel : Nat) (t : TypeId) (cs : List Value) (d : DataW H) (ps : List MemPlace), t ∈ l → DataW.trod enc P w 0 (fun _ => true) true fuel t cs = some (d, ps) → (∀ n, n ∈ d.weights P t → n ≤ reachBytes) → ∃ xs, Opens w P t cs xs
  | 0, _, _, _, _, _, h, _ => by cases h
  | fuel + 1, t, cs, d, ps, hmem, h, hwt => by
    have hgs := List.all_eq_true.1 hg t hmem
    unfold goodStep at hgs
    unfold DataW.trod at h
    cases hu : P.underlying t with
    | none => rw [hu] at hgs; cases hgs
    | some ty =>
      rw [hu] at h hgs
      cases ty <;> first | (cases hgs; done) | skip
      case bool =>
        rcases cs with _ | ⟨c, _ | ⟨c2, rest⟩⟩
        · simp at h
        · cases c <;> simp at h
          exact ⟨_, one_open (.sc rfl) rfl (.bool hu)⟩
        · simp at h
      case int k =>
        rcases cs with _ | ⟨c, _ | ⟨c2, rest⟩⟩
        · simp at h
        · cases c <;> simp at h
          obtain ⟨⟨rfl, hw⟩, _⟩ := h
          exact ⟨_, one_open (.sc rfl) rfl (.int hu hw)⟩
        · simp at h
      case string =>
        rcases cs with _ | ⟨c, _ | ⟨c2, rest⟩⟩
        · simp at h
        · cases c <;> simp at h
          obtain ⟨h1, rfl, _⟩ := h
          refine ⟨_, one_open (.sc rfl) rfl (.str hu ?_)⟩
          have := hwt _ (by rw [DataW.weights]; exact List.mem_singleton.2 rfl)
          simpa using this
        · simp at h
      case slice e =>
        simp only [Bool.and_eq_true, decide_eq_true_eq] at hgs
        obtain ⟨⟨hel, hpos⟩, hagg⟩ := hgs
        have hel' : e ∈ l := by simpa using hel
        rcases cs with _ | ⟨c, _ | ⟨c2, rest⟩⟩
        · simp at h
        · cases c with
          | slice A len cap =>
            cases A with
            | none =>
              have : len = 0 ∧ cap = 0 := by
                cases len <;> cases cap <;> simp at h
                exact ⟨rfl, rfl⟩
              obtain ⟨rfl, rfl⟩ := this
              exact ⟨[frozen (P.cellsOf e) []], one_open .lst0 rfl (.slice (l := []) hu (Nat.zero_le _) (by simp) (fun x hx => by cases hx) (fun x hx => by cases hx))⟩
            | some a =>
              simp only at h
              split at h
              · rename_i hc
                obtain ⟨_, hlc, hcm⟩ := hc
                obtain ⟨els, hels, h⟩ := Option.bind_eq_some_iff.1 h
                have hlen := mapM_some_length hels
                rw [List.length_range] at hlen
                obtain ⟨rest, _, hdd⟩ := Option.map_eq_some_iff.1 h
                obtain ⟨rfl, _⟩ := Prod.mk.inj hdd
                have hbytes : len * P.bytesOf e ≤ reachBytes := by
                  have := hwt ((els.length + rest.length) * P.bytesOf e) (by rw [DataW.weights, hu]; simp)
                  refine Nat.le_trans (Nat.mul_le_mul_right _ ?_) this
                  omega
                have hwe : ∀ i (hi : i < els.length), ∀ n, n ∈ els[i].1.weights P e → n ≤ reachBytes := fun i hi n hn => by
                  refine hwt n ?_
                  rw [DataW.weights, hu]
                  exact List.mem_cons_of_mem _ (List.mem_append_left _ (weights_all (List.mem_map.2 ⟨els[i], List.getElem_mem hi, rfl⟩) n hn))
                have hspot : 0 < len → a.spot = none ∧ a.block < w.heap.size := fun h0 => by
                  have hi2 := mapM_some_get hels 0 0 (by simp [h0])
                  rw [List.getElem?_eq_getElem (by omega)] at hi2
                  obtain ⟨cs, hcs, htr⟩ := Option.bind_eq_some_iff.1 hi2
                  obtain ⟨_, hcl, hget⟩ := World.cells?_some hcs
                  have hu0 := (hget 0 hpos).trans (List.getElem?_eq_getElem (by omega))
                  have e1 : (a.add (0 * P.cellsOf e)).add 0 = a := by simp [Addr.add]
                  rw [e1] at hu0
                  refine ⟨?_, World.block_lt_of_cell? w _ hu0⟩
                  unfold World.cell? at hu0
                  split at hu0
                  · split at hu0
                    · cases hu0
                    · rename_i hs
                      simpa using hs
                  · cases hu0
                have each : ∀ i, i < len → ∃ y : PV, (∃ ys : List PV, Ty P e ys ∧ y = ofCells P e ys ∧ y.cells = ys ∧ y.plainE = true ∧ y.cells.length = P.cellsOf e ∧ ((P.underlying e).any isAggD = true → ∃ cs, y = .agg cs)) ∧ a.spot = none ∧ a.block < w.heap.size ∧ ∀ j, j < P.cellsOf e → ∃ u, w.cell? ⟨a.block, a.off + i * P.cellsOf e + j, none⟩ = some u ∧ ∀ hj : j < y.cells.length, Enc (bare w fun _ => False) y.cells[j] u := fun i hi => by
                  have hi2 := mapM_some_get hels i i (by simp [hi])
                  rw [List.getElem?_eq_getElem (by omega)] at hi2
                  obtain ⟨cs, hcs, htr⟩ := Option.bind_eq_some_iff.1 hi2
                  obtain ⟨ys, hys⟩ := open_cells hg fuel e cs _ _ hel' htr (hwe i (by omega))
                  obtain ⟨_, hcl, hget⟩ := World.cells?_some hcs
                  have hyl : ys.length = P.cellsOf e := hys.len.trans hcl
                  have hyc : (ofCells P e ys).cells = ys ∧ (ofCells P e ys).plainE = true ∧ ((P.underlying e).any isAggD = true → ∃ cs, ofCells P e ys = .agg cs) := by
                    unfold ofCells
                    by_cases hA : (P.underlying e).any isAggD = true
                    · rw [if_pos hA]
                      exact ⟨rfl, by simpa [PV.plainE, PV.known, PV.cells] using hys.plain, fun _ => ⟨_, rfl⟩⟩
                    · rw [if_neg hA]
                      rw [if_neg hA] at hagg
                      have h1 : P.cellsOf e = 1 := by simpa using hagg
                      obtain ⟨y, rfl⟩ : ∃ y, ys = [y] := by
                        match ys, hyl with
                        | [y], _ => exact ⟨y, rfl⟩
                        | [], h => simp at h; omega
                        | _ :: _ :: _, h => simp at h; omega
                      have hpy : y.plain = true := by simpa using hys.plain
                      obtain ⟨k1, k2, k3⟩ := plain_known hpy
                      have hc1 : y.cells = [y] := PV.one_cells k2
                      exact ⟨hc1, by simp [PV.plainE, k1, hc1, hpy], fun h => absurd h hA⟩
                  obtain ⟨hsp, hbl⟩ := hspot (by omega)
                  refine ⟨ofCells P e ys, ⟨ys, hys.ty, rfl, hyc.1, hyc.2.1, by rw [hyc.1]; exact hyl, hyc.2.2⟩, hsp, hbl, fun j hj => ?_⟩
                  · have hjc : j < cs.length := by omega
                    refine ⟨cs[j], ?_, fun hj2 => ?_⟩
                    · have := hget j hj
                      rw [List.getElem?_eq_getElem hjc] at this
                      rw [← this]
                      congr 1
                      have e2 : a = ⟨a.block, a.off, none⟩ := by cases a; simp at hsp; simp [hsp]
                      rw [e2, Addr.add_lit, Addr.add_lit]
                    · have hj3 : j < ys.length := by rw [hyc.1] at hj2; exact hj2
                      have := hys.enc j hj3 hjc
                      simp only [hyc.1]
                      exact this
                obtain ⟨xs, hxl, hxs⟩ := choose_list (α := Unit) PV.top len each
                have hgetD : ∀ i (hi : i < xs.length), xs.getD i .top = xs[i] := fun i hi => by simp [hi]
                refine ⟨[frozen (P.cellsOf e) xs], one_open ?_ rfl (.slice hu (by omega) (by rw [hxl]; exact hbytes) (fun x hx => ?_) (fun x hx => ?_))⟩
                · cases len with
                  | zero =>
                    have : xs = [] := List.eq_nil_of_length_eq_zero hxl
                    subst this
                    exact .lst0
                  | succ m =>
                    have hx0 := hxs 0 (by omega)
                    obtain ⟨_, hsp, hbl, _⟩ := hx0
                    obtain ⟨ab, ao, as⟩ := a
                    dsimp only at hsp
                    subst hsp
                    have hch : ∀ i j, ∃ u, i < xs.length → j < P.cellsOf e → w.cell? ⟨ab, ao + i * P.cellsOf e + j, none⟩ = some u ∧ ∀ (hi : i < xs.length) (hj : j < xs[i].cells.length), Enc (bare w fun _ => False) xs[i].cells[j] u := fun i j => by
                      by_cases hi : i < xs.length
                      · by_cases hj : j < P.cellsOf e
                        · obtain ⟨_, _, _, h4⟩ := hxs i hi
                          obtain ⟨u, h5, h6⟩ := h4 j hj
                          exact ⟨u, fun _ _ => ⟨h5, fun _ hj => h6 hj⟩⟩
                        · exact ⟨undef, fun _ h => absurd h hj⟩
                      · exact ⟨undef, fun h => absurd h hi⟩
                    unfold frozen
                    rw [← hxl]
                    refine .lst (g := fun i j => Classical.choose (hch i j)) (by omega) hbl (fun hu => by rcases hu with hv | ⟨b, hb, _⟩; exact hv; exact absurd hb (Nat.not_lt_zero _)) (fun i hi => ?_) (fun i hi => ?_) (fun i hi j hj => ?_) fun i hi j hj => ?_
                    · rw [hgetD i hi]
                      obtain ⟨⟨ys, _, _, _, _, h3, _⟩, _⟩ := hxs i hi
                      exact h3
                    · rw [hgetD i hi]
                      obtain ⟨⟨ys, _, _, _, h3, _⟩, _⟩ := hxs i hi
                      exact h3
                    · exact (Classical.choose_spec (hch i j) hi hj).1
                    · simp only [hgetD i hi] at hj ⊢
                      obtain ⟨⟨ys, _, _, _, _, h3, _⟩, _⟩ := hxs i hi
                      exact (Classical.choose_spec (hch i j) hi (by rw [← h3]; exact hj)).2 hi hj
                · obtain ⟨i, hi, rfl⟩ := List.getElem_of_mem hx
                  obtain ⟨⟨ys, h1, _, h2, _⟩, _⟩ := hxs i hi
                  rw [h2]
                  exact h1
                · obtain ⟨i, hi, rfl⟩ := List.getElem_of_mem hx
                  obtain ⟨⟨ys, h1, h6, h2, h3, h4, h5⟩, _⟩ := hxs i hi
                  exact ⟨h3, h4, h5, by rw [h2]; exact h6⟩
              · cases h
          | _ => simp at h
        · simp at h
      case struct fs =>
        simp only [Bool.and_eq_true, List.all_eq_true] at hgs
        obtain ⟨hfl, htile⟩ := hgs
        have h' : (if cs.length = P.cellsOf t then (fs.toList.mapM fun f => DataW.trod enc P w 0 (fun _ => true) true fuel f.type ((cs.drop f.offset).take (P.cellsOf f.type))).map fun xs => (DataW.agg (xs.map (·.1)), xs.flatMap (·.2)) else none) = some (d, ps) := by
          rcases cs with _ | ⟨c, _ | ⟨c2, rest⟩⟩
          · exact h
          · cases c <;> exact h
          · exact h
        split at h'
        · rename_i hcl
          obtain ⟨ys, hys, hdd⟩ := Option.map_eq_some_iff.1 h'
          obtain ⟨rfl, _⟩ := Prod.mk.inj hdd
          have each : ∀ f, f ∈ fs.toList → ∃ xs, Opens w P f.type ((cs.drop f.offset).take (P.cellsOf f.type)) xs := fun f hf => by
            obtain ⟨i, hi, rfl⟩ := List.getElem_of_mem hf
            have h2 := mapM_some_get hys i _ (List.getElem?_eq_getElem hi)
            have hil : i < ys.length := by rw [mapM_some_length hys]; exact hi
            rw [List.getElem?_eq_getElem hil] at h2
            refine open_cells hg fuel _ _ _ _ (by have := hfl _ hf; simpa using this) h2 fun n hn => hwt n ?_
            rw [DataW.weights, hu]
            exact DataW.weights_mem_each (j := i) (t := fs.toList[i].type) (d := ys[i].1) (by rw [List.getElem?_map, List.getElem?_eq_getElem hi]; rfl) (by rw [List.getElem?_map, List.getElem?_eq_getElem hil]; rfl) n hn
          have tile : ∀ (gs : List Field) (o : Nat), (∀ f, f ∈ gs → f ∈ fs.toList) → fieldsTile P o gs (P.cellsOf t) = true → ∃ xs : List PV, xs.length = cs.length - o ∧ (∀ i (h1 : i < xs.length) (h2 : o + i < cs.length), Enc (bare w fun _ => False) xs[i] cs[o + i]) ∧ xs.all PV.plain = true ∧ ∀ f, f ∈ gs → o ≤ f.offset ∧ Ty P f.type ((xs.drop (f.offset - o)).take (P.cellsOf f.type)) := by
            intro gs
            induction gs with
            | nil =>
              intro o _ ht
              have ho : o = P.cellsOf t := by simpa [fieldsTile] using ht
              exact ⟨[], by simp; omega, fun i h1 => by simp at h1, rfl, fun f hf => by cases hf⟩
            | cons f gs ih =>
              intro o hsub ht
              simp only [fieldsTile, Bool.and_eq_true, beq_iff_eq] at ht
              obtain ⟨hfo, ht⟩ := ht
              obtain ⟨xs, h1, h2, h3, h4⟩ := ih (o + P.cellsOf f.type) (fun g hg => hsub g (List.mem_cons_of_mem _ hg)) ht
              obtain ⟨ys, hy⟩ := each f (hsub f List.mem_cons_self)
              have hle : o + P.cellsOf f.type ≤ cs.length := by
                rw [hcl]
                clear h1 h2 h3 h4 ih
                have : ∀ (gs : List Field) (o : Nat), fieldsTile P o gs (P.cellsOf t) = true → o ≤ P.cellsOf t := by
                  intro gs
                  induction gs with
                  | nil => intro o h; simp [fieldsTile] at h; omega
                  | cons g gs ih => intro o h; simp only [fieldsTile, Bool.and_eq_true, beq_iff_eq] at h; have := ih _ h.2; omega
                exact this gs _ ht
              have hyl : ys.length = P.cellsOf f.type := by
                rw [hy.len]
                simp
                omega
              refine ⟨ys ++ xs, by rw [List.length_append, h1, hyl]; omega, fun i a b => ?_, by rw [List.all_append, hy.plain, h3]; rfl, fun g hg => ?_⟩
              · by_cases hi : i < ys.length
                · rw [List.getElem_append_left hi]
                  have := hy.enc i hi (by rw [← hy.len]; exact hi)
                  simp only [List.getElem_take, List.getElem_drop, hfo] at this
                  exact this
                · rw [List.getElem_append_right (by omega)]
                  have := h2 (i - ys.length) (by rw [List.length_append] at a; omega) (by omega)
                  simp only [show o + P.cellsOf f.type + (i - ys.length) = o + i by omega] at this
                  exact this
              · rcases List.mem_cons.1 hg with rfl | hg
                · refine ⟨by omega, ?_⟩
                  rw [hfo, Nat.sub_self, List.drop_zero, ← hyl, List.take_left']
                  · exact hy.ty
                  · rfl
                · obtain ⟨h5, h6⟩ := h4 g hg
                  refine ⟨by omega, ?_⟩
                  rw [show g.offset - o = ys.length + (g.offset - (o + P.cellsOf f.type)) by omega, List.drop_append]
                  simp only [Nat.add_sub_cancel_left]
                  rw [List.drop_eq_nil_of_le (by omega), List.nil_append]
                  exact h6
          obtain ⟨xs, h1, h2, h3, h4⟩ := tile fs.toList 0 (fun f hf => hf) htile
          have hl : xs.length = cs.length := by omega
          refine ⟨xs, hl, fun i a b => ?_, h3, .struct hu (hl.trans hcl) fun f hf => ?_⟩
          · have := h2 i a (by omega)
            simp only [Nat.zero_add] at this
            exact this
          · have := (h4 f hf).2
            rw [Nat.sub_zero] at this
            exact this
        · cases h'
      case array n e =>
        simp only [Bool.and_eq_true, beq_iff_eq] at hgs
        obtain ⟨hel, htile⟩ := hgs
        have hel' : e ∈ l := by simpa using hel
        have h' : (if cs.length = P.cellsOf t then ((List.range n).mapM fun i => DataW.trod enc P w 0 (fun _ => true) true fuel e ((cs.drop (i * P.cellsOf e)).take (P.cellsOf e))).map fun xs => (DataW.agg (xs.map (·.1)), xs.flatMap (·.2)) else none) = some (d, ps) := by
          rcases cs with _ | ⟨c, _ | ⟨c2, rest⟩⟩
          · exact h
          · cases c <;> exact h
          · exact h
        split at h'
        · rename_i hcl
          obtain ⟨ys, hys, hdd⟩ := Option.map_eq_some_iff.1 h'
          obtain ⟨rfl, _⟩ := Prod.mk.inj hdd
          have hyl := mapM_some_length hys
          rw [List.length_range] at hyl
          have each : ∀ i, i < n → ∃ xs, Opens w P e ((cs.drop (i * P.cellsOf e)).take (P.cellsOf e)) xs := fun i hi => by
            have h2 := mapM_some_get hys i i (by simp [hi])
            rw [List.getElem?_eq_getElem (by omega)] at h2
            refine open_cells hg fuel _ _ _ _ hel' h2 fun n hn => hwt n ?_
            rw [DataW.weights, hu]
            exact weights_all (List.mem_map.2 ⟨ys[i], List.getElem_mem (by omega), rfl⟩) n hn
          have tile : ∀ m, m ≤ n → ∃ xs : List PV, xs.length = m * P.cellsOf e ∧ (∀ i (h1 : i < xs.length) (h2 : i < cs.length), Enc (bare w fun _ => False) xs[i] cs[i]) ∧ xs.all PV.plain = true ∧ ∀ i, i < m → Ty P e ((xs.drop (i * P.cellsOf e)).take (P.cellsOf e)) := by
            intro m
            induction m with
            | zero => intro _; exact ⟨[], by simp, fun i h1 => by simp at h1, rfl, fun i hi => absurd hi (Nat.not_lt_zero _)⟩
            | succ m ih =>
              intro hm
              obtain ⟨xs, h1, h2, h3, h4⟩ := ih (by omega)
              obtain ⟨ys, hy⟩ := each m (by omega)
              have hle : (m + 1) * P.cellsOf e ≤ cs.length := by
                rw [hcl, ← htile]
                exact Nat.mul_le_mul_right _ hm
              rw [Nat.add_mul, Nat.one_mul] at hle
              have hyl2 : ys.length = P.cellsOf e := by
                rw [hy.len]
                simp
                omega
              refine ⟨xs ++ ys, by rw [List.length_append, h1, hyl2, Nat.add_mul, Nat.one_mul], fun i a b => ?_, by rw [List.all_append, hy.plain, h3]; rfl, fun i hi => ?_⟩
              · by_cases hx : i < xs.length
                · rw [List.getElem_append_left hx]
                  exact h2 i hx b
                · rw [List.getElem_append_right (by omega)]
                  have := hy.enc (i - xs.length) (by rw [List.length_append] at a; omega) (by rw [← hy.len]; rw [List.length_append] at a; omega)
                  simp only [List.getElem_take, List.getElem_drop, show m * P.cellsOf e + (i - xs.length) = i by omega] at this
                  exact this
              · by_cases him : i < m
                · have := h4 i him
                  have hle2 : i * P.cellsOf e + P.cellsOf e ≤ xs.length := by
                    have : (i + 1) * P.cellsOf e ≤ m * P.cellsOf e := Nat.mul_le_mul_right _ him
                    rw [Nat.add_mul, Nat.one_mul] at this
                    omega
                  rw [List.drop_append_of_le_length (by omega), List.take_append_of_le_length (by simp; omega)]
                  exact this
                · have : i = m := by omega
                  subst this
                  rw [← h1, List.drop_left', ← hyl2, List.take_length]
                  · exact hy.ty
                  · rfl
          obtain ⟨xs, h1, h2, h3, h4⟩ := tile n (Nat.le_refl _)
          exact ⟨xs, by rw [h1, htile, hcl], h2, h3, .array hu (by rw [h1, htile]) h4⟩
        · cases h'
end
end Go.Den
