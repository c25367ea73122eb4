/- What the laws are handed, as trees and cells. -/
import Derived.Test.YtcncojlgapknpaaShiftF
import Derived.Test.YtcncojlgapknpaaDenU
set_option linter.unusedVariables false
set_option maxRecDepth 100000
namespace Go.Den.EA
open Go Go.Proofs
section
variable {P : Program}
theorem ty_int {t : TypeId} {k : IntKind} {xs : List PV} (h : Ty P t xs) (hu : P.underlying t = some (.int k)) : ∃ n, xs = [.sc (.int k n)] ∧ (Lit.int k n).wf = true := by
  cases h with
  | int hu2 hw => rw [hu] at hu2; cases hu2; exact ⟨_, rfl, hw⟩
  | bool hu2 => rw [hu] at hu2; cases hu2
  | str hu2 => rw [hu] at hu2; cases hu2
  | slice hu2 => rw [hu] at hu2; cases hu2
  | struct hu2 => rw [hu] at hu2; cases hu2
  | array hu2 => rw [hu] at hu2; cases hu2
theorem ty_bool {t : TypeId} {xs : List PV} (h : Ty P t xs) (hu : P.underlying t = some .bool) : ∃ b, xs = [.sc (.bool b)] := by
  cases h with
  | bool hu2 => exact ⟨_, rfl⟩
  | int hu2 => rw [hu] at hu2; cases hu2
  | str hu2 => rw [hu] at hu2; cases hu2
  | slice hu2 => rw [hu] at hu2; cases hu2
  | struct hu2 => rw [hu] at hu2; cases hu2
  | array hu2 => rw [hu] at hu2; cases hu2
theorem ty_str {t : TypeId} {xs : List PV} (h : Ty P t xs) (hu : P.underlying t = some .string) : ∃ s : ByteArray, xs = [.sc (.string s)] ∧ s.size ≤ 9223372036854775807 := by
  cases h with
  | str hu2 hs => exact ⟨_, rfl, Nat.le_trans hs (by decide)⟩
  | bool hu2 => rw [hu] at hu2; cases hu2
  | int hu2 => rw [hu] at hu2; cases hu2
  | slice hu2 => rw [hu] at hu2; cases hu2
  | struct hu2 => rw [hu] at hu2; cases hu2
  | array hu2 => rw [hu] at hu2; cases hu2
theorem ty_struct {t : TypeId} {fs : Array Field} {xs : List PV} (h : Ty P t xs) (hu : P.underlying t = some (.struct fs)) : xs.length = P.cellsOf t ∧ ∀ f, f ∈ fs.toList → Ty P f.type ((xs.drop f.offset).take (P.cellsOf f.type)) := by
  cases h with
  | struct hu2 hl hx => rw [hu] at hu2; cases hu2; exact ⟨hl, hx⟩
  | str hu2 => rw [hu] at hu2; cases hu2
  | bool hu2 => rw [hu] at hu2; cases hu2
  | int hu2 => rw [hu] at hu2; cases hu2
  | slice hu2 => rw [hu] at hu2; cases hu2
  | array hu2 => rw [hu] at hu2; cases hu2
theorem ty_array {t e : TypeId} {n : Nat} {xs : List PV} (h : Ty P t xs) (hu : P.underlying t = some (.array n e)) : xs.length = P.cellsOf t ∧ ∀ i, i < n → Ty P e ((xs.drop (i * P.cellsOf e)).take (P.cellsOf e)) := by
  cases h with
  | array hu2 hl hx => rw [hu] at hu2; cases hu2; exact ⟨hl, hx⟩
  | struct hu2 hl hx => rw [hu] at hu2; cases hu2
  | str hu2 => rw [hu] at hu2; cases hu2
  | bool hu2 => rw [hu] at hu2; cases hu2
  | int hu2 => rw [hu] at hu2; cases hu2
  | slice hu2 => rw [hu] at hu2; cases hu2
end
theorem c28 : Try.prog.cellsOf 28 = 14 := by kernel_rfl
theorem b28 : Try.prog.bytesOf 28 = 120 := by kernel_rfl
theorem c3 : Try.prog.cellsOf 3 = 1 := by kernel_rfl
theorem c2 : Try.prog.cellsOf 2 = 1 := by kernel_rfl
theorem c9 : Try.prog.cellsOf 9 = 1 := by kernel_rfl
theorem c4 : Try.prog.cellsOf 4 = 1 := by kernel_rfl
theorem c23 : Try.prog.cellsOf 23 = 3 := by kernel_rfl
theorem c25 : Try.prog.cellsOf 25 = 4 := by kernel_rfl
theorem c26 : Try.prog.cellsOf 26 = 1 := by kernel_rfl
theorem c30 : Try.prog.cellsOf 30 = 2 := by kernel_rfl
theorem c36 : Try.prog.cellsOf 36 = 4 := by kernel_rfl
theorem cell_of {xs : List PV} (h : Ty Try.prog 30 xs) : ∃ r c : Int, xs = [.sc (.int .i64 r), .sc (.int .i64 c)] ∧ (-9223372036854775808 ≤ r ∧ r ≤ 9223372036854775807) ∧ (-9223372036854775808 ≤ c ∧ c ≤ 9223372036854775807) := by
  obtain ⟨hl, hx⟩ := ty_struct h Try.underlying30
  rw [c30] at hl
  obtain ⟨x, y, rfl⟩ : ∃ x y, xs = [x, y] := by
    match xs, hl with
    | [x, y], _ => exact ⟨x, y, rfl⟩
  have wf : ∀ {x : Int}, (Lit.int .i64 x).wf = true → -9223372036854775808 ≤ x ∧ x ≤ 9223372036854775807 := fun {x} h => by
    simp [Lit.wf, IntKind.min, IntKind.max, IntKind.bits, IntKind.signed] at h
    omega
  have h0 := hx _ (List.mem_cons_self)
  have h1 := hx _ (List.mem_cons_of_mem _ List.mem_cons_self)
  simp only [c3] at h0 h1
  obtain ⟨r, e0, w0⟩ := ty_int h0 Try.underlying3
  obtain ⟨c, e1, w1⟩ := ty_int h1 Try.underlying3
  simp at e0 e1
  subst e0; subst e1
  exact ⟨r, c, rfl, wf w0, wf w1⟩
theorem ref_of {xs : List PV} (h : Ty Try.prog 25 xs) : ∃ r : Rf, xs = [.sc (.int .i64 r.row), .sc (.int .i64 r.col), .sc (.bool r.hr), .sc (.bool r.hc)] := by
  obtain ⟨hl, hx⟩ := ty_struct h Try.underlying25
  rw [c25] at hl
  obtain ⟨x, y, z, u, rfl⟩ : ∃ x y z u, xs = [x, y, z, u] := by
    match xs, hl with
    | [x, y, z, u], _ => exact ⟨x, y, z, u, rfl⟩
  have h0 := hx _ (List.mem_cons_self)
  have h1 := hx _ (List.mem_cons_of_mem _ List.mem_cons_self)
  have h2 := hx _ (List.mem_cons_of_mem _ (List.mem_cons_of_mem _ List.mem_cons_self))
  have h3 := hx _ (List.mem_cons_of_mem _ (List.mem_cons_of_mem _ (List.mem_cons_of_mem _ List.mem_cons_self)))
  simp only [c3, c4] at h0 h1 h2 h3
  obtain ⟨r, e0, _⟩ := ty_int h0 Try.underlying3
  obtain ⟨c, e1, _⟩ := ty_int h1 Try.underlying3
  obtain ⟨p, e2⟩ := ty_bool h2 Try.underlying4
  obtain ⟨q, e3⟩ := ty_bool h3 Try.underlying4
  simp at e0 e1 e2 e3
  subst e0; subst e1; subst e2; subst e3
  exact ⟨⟨r, c, p, q⟩, rfl⟩
theorem val_of {xs : List PV} (h : Ty Try.prog 23 xs) : ∃ v : Vl, xs = [.sc (.int .i64 v.kind), .sc (.int .i64 v.num), .sc (.string v.text)] ∧ v.text.size ≤ 9223372036854775807 := by
  obtain ⟨hl, hx⟩ := ty_struct h Try.underlying23
  rw [c23] at hl
  obtain ⟨x, y, z, rfl⟩ : ∃ x y z, xs = [x, y, z] := by
    match xs, hl with
    | [x, y, z], _ => exact ⟨x, y, z, rfl⟩
  have h0 := hx _ (List.mem_cons_self)
  have h1 := hx _ (List.mem_cons_of_mem _ List.mem_cons_self)
  have h2 := hx _ (List.mem_cons_of_mem _ (List.mem_cons_of_mem _ List.mem_cons_self))
  simp only [c3, c2, c9] at h0 h1 h2
  obtain ⟨r, e0, _⟩ := ty_int h0 Try.underlying3
  obtain ⟨c, e1, _⟩ := ty_int h1 Try.underlying2
  obtain ⟨p, e2, hs⟩ := ty_str h2 Try.underlying9
  simp at e0 e1 e2
  subst e0; subst e1; subst e2
  exact ⟨⟨r, c, p⟩, rfl, hs⟩
theorem node_of : ∀ {t : TypeId} {xs : List PV}, Ty Try.prog t xs → (t = 28 → ∃ n : Nod, PV.agg xs = n.pv ∧ n.ok) ∧ (t = 26 → ∃ l : List Nod, xs = [frozen 14 (pvs l)] ∧ oks l ∧ l.length * 120 ≤ 140737488351232) := by
  intro t xs h
  induction h with
  | bool hu => exact ⟨fun e => (by subst e; rw [Try.underlying28] at hu; cases hu), fun e => (by subst e; rw [Try.underlying26] at hu; cases hu)⟩
  | int hu => exact ⟨fun e => (by subst e; rw [Try.underlying28] at hu; cases hu), fun e => (by subst e; rw [Try.underlying26] at hu; cases hu)⟩
  | str hu => exact ⟨fun e => (by subst e; rw [Try.underlying28] at hu; cases hu), fun e => (by subst e; rw [Try.underlying26] at hu; cases hu)⟩
  | array hu => exact ⟨fun e => (by subst e; rw [Try.underlying28] at hu; cases hu), fun e => (by subst e; rw [Try.underlying26] at hu; cases hu)⟩
  | @slice t e l hu hl hb hx hp ih =>
    refine ⟨fun e => (by subst e; rw [Try.underlying28] at hu; cases hu), fun e2 => ?_⟩
    subst e2
    rw [Try.underlying26] at hu
    cases hu
    have each : ∀ l' : List PV, (∀ x, x ∈ l' → x ∈ l) → ∃ ns : List Nod, l' = pvs ns ∧ oks ns := by
      intro l'
      induction l' with
      | nil => intro _; exact ⟨[], rfl, trivial⟩
      | cons x l' ih2 =>
        intro hs
        obtain ⟨ns, e, ho⟩ := ih2 fun y hy => hs y (List.mem_cons_of_mem _ hy)
        have hxl := hs x List.mem_cons_self
        obtain ⟨n, en, hn⟩ := (ih x hxl).1 rfl
        obtain ⟨cs, rfl⟩ := (hp x hxl).2.2 (by rw [Try.underlying28]; rfl)
        exact ⟨n :: ns, by rw [pvs, e, ← en]; rfl, hn, ho⟩
    obtain ⟨ns, e, ho⟩ := each l fun x hx => hx
    refine ⟨ns, by rw [c28, e], ho, ?_⟩
    have e3 : ns.length = l.length := by rw [e, pvs_len]
    rw [b28] at hb
    rw [e3]
    exact hb
  | @struct t fs xs hu hl hx ih =>
    refine ⟨fun e => ?_, fun e => by subst e; rw [Try.underlying26] at hu; cases hu⟩
    subst e
    rw [Try.underlying28] at hu
    cases hu
    rw [c28] at hl
    obtain ⟨x0, x1, x2, x3, x4, x5, x6, x7, x8, x9, x10, x11, x12, x13, rfl⟩ : ∃ x0 x1 x2 x3 x4 x5 x6 x7 x8 x9 x10 x11 x12 x13, xs = [x0, x1, x2, x3, x4, x5, x6, x7, x8, x9, x10, x11, x12, x13] := by
      match xs, hl with
      | [x0, x1, x2, x3, x4, x5, x6, x7, x8, x9, x10, x11, x12, x13], _ => exact ⟨_, _, _, _, _, _, _, _, _, _, _, _, _, _, rfl⟩
    have h0 := hx _ (List.mem_cons_self)
    have h1 := hx _ (List.mem_cons_of_mem _ List.mem_cons_self)
    have h2 := hx _ (List.mem_cons_of_mem _ (List.mem_cons_of_mem _ List.mem_cons_self))
    have h3 := hx _ (List.mem_cons_of_mem _ (List.mem_cons_of_mem _ (List.mem_cons_of_mem _ List.mem_cons_self)))
    have h4 := hx _ (List.mem_cons_of_mem _ (List.mem_cons_of_mem _ (List.mem_cons_of_mem _ (List.mem_cons_of_mem _ List.mem_cons_self))))
    have h5 := (ih _ (List.mem_cons_of_mem _ (List.mem_cons_of_mem _ (List.mem_cons_of_mem _ (List.mem_cons_of_mem _ (List.mem_cons_of_mem _ List.mem_cons_self)))))).2 rfl
    simp only [c3, c23, c25] at h0 h1 h2 h3 h4
    simp only [c26] at h5
    obtain ⟨k, e0, _⟩ := ty_int h0 Try.underlying3
    obtain ⟨o, e1, _⟩ := ty_int h1 Try.underlying3
    obtain ⟨v, e2, hv⟩ := val_of h2
    obtain ⟨a, e3⟩ := ref_of h3
    obtain ⟨b, e4⟩ := ref_of h4
    obtain ⟨l, e5, hl5⟩ := h5
    simp at e0 e1 e2 e3 e4 e5
    subst e0; subst e1
    obtain ⟨rfl, rfl, rfl⟩ := e2
    obtain ⟨rfl, rfl, rfl, rfl⟩ := e3
    obtain ⟨rfl, rfl, rfl, rfl⟩ := e4
    subst e5
    exact ⟨.mk k o v a b l, by rw [Nod.pv], hv, hl5⟩
theorem agg28 {cs : List PV} : ofCells Try.prog 28 cs = .agg cs := by unfold ofCells; rw [if_pos (by rw [Try.underlying28]; rfl)]
theorem agg30 {cs : List PV} : ofCells Try.prog 30 cs = .agg cs := by unfold ofCells; rw [if_pos (by rw [Try.underlying30]; rfl)]
theorem agg36 {cs : List PV} : ofCells Try.prog 36 cs = .agg cs := by unfold ofCells; rw [if_pos (by rw [Try.underlying36]; rfl)]
theorem three {W : World} {t0 t1 t2 : TypeId} : ∀ {vs : List Value} {xs : List PV}, Handed Try.prog W [t0, t1, t2] vs xs → ∃ a b c, xs = [ofCells Try.prog t0 a, ofCells Try.prog t1 b, ofCells Try.prog t2 c] ∧ Ty Try.prog t0 a ∧ Ty Try.prog t1 b ∧ Ty Try.prog t2 c
  | [v0, v1, v2], [x0, x1, x2], h => by
    obtain ⟨_, ⟨a, e0, h0⟩, _, ⟨b, e1, h1⟩, _, ⟨c, e2, h2⟩, _⟩ := h
    exact ⟨a, b, c, by rw [e0, e1, e2], h0, h1, h2⟩
  | [], _, h => by simp [Handed] at h
  | [_], [], h => by simp [Handed] at h
  | [_], [_], h => by simp [Handed] at h
  | [_], _ :: _ :: _, h => by simp [Handed] at h
  | [_, _], [], h => by simp [Handed] at h
  | [_, _], [_], h => by simp [Handed] at h
  | [_, _], [_, _], h => by simp [Handed] at h
  | [_, _], _ :: _ :: _ :: _, h => by simp [Handed] at h
  | [_, _, _], [], h => by simp [Handed] at h
  | [_, _, _], [_], h => by simp [Handed] at h
  | [_, _, _], [_, _], h => by simp [Handed] at h
  | [_, _, _], _ :: _ :: _ :: _ :: _, h => by simp [Handed] at h
  | _ :: _ :: _ :: _ :: _, [], h => by simp [Handed] at h
  | _ :: _ :: _ :: _ :: _, [_], h => by simp [Handed] at h
  | _ :: _ :: _ :: _ :: _, [_, _], h => by simp [Handed] at h
  | _ :: _ :: _ :: _ :: _, [_, _, _], h => by simp [Handed] at h
  | _ :: _ :: _ :: _ :: _, _ :: _ :: _ :: _ :: _, h => by simp [Handed] at h
theorem shiftKeeps_D (W : World) (vs : List Value) (xs : List PV) (h : Handed Try.prog W [28, 30, 30] vs xs) : D 3 xs = some (.sc (.bool true)) := by
  obtain ⟨a, b, c, rfl, ha, hb, hc⟩ := three h
  obtain ⟨n, en, hn⟩ := (node_of ha).1 rfl
  obtain ⟨r1, c1, rfl, _, _⟩ := cell_of hb
  obtain ⟨r2, c2, rfl, _, _⟩ := cell_of hc
  rw [agg28, agg30, agg30, en]
  exact shiftKeeps n hn ⟨r1, c1, r2, c2⟩
end Go.Den.EA
