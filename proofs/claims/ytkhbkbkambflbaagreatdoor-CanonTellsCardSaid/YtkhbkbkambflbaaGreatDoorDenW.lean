/- The library's functions over texts in a row: Split, Fields, Join. -/
import Derived.Lib.LaidTab
import Derived.Test.YtkhbkbkambflbaaGreatDoorPShelfx0
import Derived.Test.YtkhbkbkambflbaaGreatDoorDenX
namespace Go.Den
open Go Go.Sort Go.Proofs Go.RowKit
set_option linter.unusedVariables false
/-- The tables, and which bytes are white. -/
def Tabs2 (w : World) : Prop := Tabs w ∧ Lib.TabIs Tryz.prog w "strings.asciiSpace" .u8 Lib.asciiSpaceTab
theorem Tabs2.below (w W : World) (h : Tabs2 w) (hb : Below w.heap.size w W) : Tabs2 W :=
  ⟨Tabs.below w W h.1 hb, Lib.TabBelow.here (Lib.TabBelow.on (Lib.tabBelow_of_tabIs h.2) hb)⟩
theorem FunOk.more {f : FuncId} {args : List PV} {r : PV} (h : FunOk Tryz.prog Tabs f args r) : FunOk Tryz.prog Tabs2 f args r := ⟨fun w V vs hT => h.plain w V vs hT.1, fun objs zs e w0 E vs hT => h.hand objs zs e w0 E vs hT.1⟩
def strs (l : List ByteArray) : PV := frozen 1 (l.map fun s => .sc (.string s))
theorem strs_plain (l : List ByteArray) : RetOk (strs l) := by
  left
  simp [strs, frozen, PV.plainE, PV.known, PV.cells, PV.plain]
theorem enc_new {w : World} {V : Nat → Prop} (hV : ∀ c, V c → c < w.heap.size) (l : List ByteArray) (t : TypeId) {n : Nat} (hn : n = l.length) : Enc (bare (w.alloc (.cells (l.map Value.string).toArray t)) V) (strs l) (.slice (some ⟨w.heap.size, 0, none⟩) n n) := by
  subst hn
  unfold strs frozen
  rw [List.length_map]
  have get : ∀ i, i < l.length → (l.map fun s => PV.sc (.string s)).getD i .top = .sc (.string (l.getD i ⟨#[]⟩)) := fun i hi => by simp [hi]
  refine Enc.lst (g := fun i _ => .string (l.getD i ⟨#[]⟩)) (Nat.le_refl _) (by show w.heap.size < (w.alloc _).heap.size; simp) (fun h => Nat.lt_irrefl _ (hV _ (bare_U h))) (fun i hi => by rw [get i hi]; rfl) (fun i hi => by rw [get i hi]; rfl) (fun i hi j hj => ?_) (fun i hi j hj => ?_)
  · have : j = 0 := by omega
    subst this
    have e : (0 : Nat) + i * 1 + 0 = i := by omega
    rw [e]
    show (w.alloc _).cell? _ = _
    rw [World.cell?_alloc_new]
    simp [hi]
  · have hj0 : ((l.map fun s => PV.sc (.string s)).getD i .top).cells = [.sc (.string (l.getD i ⟨#[]⟩))] := by rw [get i hi]; rfl
    have hj2 : j = 0 := by rw [hj0] at hj; simpa using hj
    subst hj2
    simp only [hj0]
    exact .sc rfl
/-- strings.Split. -/
def xSplit (l : List PV) : Option PV := match l with
  | [.sc (.string s), .sc (.string p)] => if s.size < 4294967281 ∧ 1 ≤ p.size then some (strs (Lib.splitB p 0 (Lib.countB s p) s)) else none
  | _ => none
theorem xSplit_ok (args : List PV) (r : PV) (h : xSplit args = some r) : FunOk Tryz.prog Tabs 209 args r := by
  unfold xSplit at h
  split at h
  · rename_i s p
    split at h
    · rename_i hc
      obtain rfl := Option.some.inj h
      obtain ⟨h1, h2⟩ := hc
      refine .of (fun w V vs hT hV hl he => ?_) (fun _ _ h => by cases h)
      rw [two_args hl he]
      obtain ⟨m, hm⟩ := hT.2
      refine (Tryz.strings_Split s p m w h1 hm h2).mono ?_
      rintro e w' ⟨rfl, rfl⟩
      exact ⟨_, rfl, enc_new hV _ _ (Lib.splitB_all p h2 0 _ s rfl).symm, strs_plain _, (Below.refl _ _).alloc (Nat.le_refl _) _⟩
    · cases h
  · cases h
/-- strings.Fields. -/
def xFields (l : List PV) : Option PV := match l with
  | [.sc (.string s)] => if s.size < 4294967281 ∧ (s.data.toList.all fun b => decide (b.toNat < 128)) = true then some (strs ((Lib.fields s.data.toList).map fun l => ⟨l.toArray⟩)) else none
  | _ => none
theorem xFields_ok (args : List PV) (r : PV) (h : xFields args = some r) : FunOk Tryz.prog Tabs2 131 args r := by
  unfold xFields at h
  split at h
  · rename_i s
    split at h
    · rename_i hc
      obtain rfl := Option.some.inj h
      obtain ⟨h1, h2⟩ := hc
      refine .of (fun w V vs hT hV hl he => ?_) (fun _ _ h => by cases h)
      rw [one_arg hl he]
      refine (Tryz.strings_Fields s w h1 (fun j b hb => ?_) hT.2).mono ?_
      · have := List.all_eq_true.1 h2 b (List.mem_of_getElem? hb)
        simpa using this
      · rintro e w' ⟨rfl, rfl⟩
        refine ⟨_, rfl, ?_, strs_plain _, (Below.refl _ _).alloc (Nat.le_refl _) _⟩
        have := enc_new hV ((Lib.fields s.data.toList).map fun l => (⟨l.toArray⟩ : ByteArray)) 9 (n := (Lib.fields s.data.toList).length) (by simp)
        rw [List.map_map] at this
        exact this
    · cases h
  · cases h
end Go.Den
