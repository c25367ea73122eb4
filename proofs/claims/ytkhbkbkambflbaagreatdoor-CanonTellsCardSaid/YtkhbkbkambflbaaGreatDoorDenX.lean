/- The library's functions over strings and numbers, by the shelf's contracts; the tables that they read. -/
import Derived.Lib.LaidTab
import Derived.Lib.AppendIntMem
import Derived.Test.YtkhbkbkambflbaaGreatDoorPShelfx0
import Derived.Test.YtkhbkbkambflbaaGreatDoorDenU
namespace Go.Den
open Go Go.Sort Go.Proofs Go.RowKit
set_option linter.unusedVariables false
/-- Where the library's tables lie. -/
def Tabs (w : World) : Prop := Lib.TabIs Tryz.prog w "internal/strconv.uint64pow10" .u64 Lib.pow10Tab ∧ ∃ m, w.cell? ⟨3, 0, none⟩ = some (.int .i64 m)
theorem Tabs.below (w W : World) (h : Tabs w) (hb : Below w.heap.size w W) : Tabs W := by
  obtain ⟨h1, m, h2⟩ := h
  refine ⟨Lib.TabBelow.here (Lib.TabBelow.on (Lib.tabBelow_of_tabIs h1) hb), m, ?_⟩
  exact (World.cell?_of_block (hb.block 3 (World.block_lt_of_cell? w ⟨3, 0, none⟩ h2))).trans h2
theorem below_drewN : ∀ (n : Nat) (w : World), Below w.heap.size w (w.drewN n)
  | n, w => ⟨rfl, rfl, rfl, Nat.le_refl _, fun k hk => rfl⟩
theorem below_grow (w : World) (n : Nat) (os : Array Obj) : Below w.heap.size w (grow (w.drewN n) os) :=
  (below_drewN n w).trans ⟨rfl, rfl, rfl, by simp [grow], fun k hk => heap_grow_old _ _ hk⟩
theorem one_arg {E : Env} {a : Value} {vs : Array Value} (hl : [PV.sc a].length = vs.size) (he : ∀ i (h1 : i < [PV.sc a].length) (h2 : i < vs.size), Enc E [PV.sc a][i] vs[i]) : vs = #[a] := by
  have h1 : vs.size = 1 := by simpa using hl.symm
  apply Array.ext
  · simp [h1]
  · intro i p q
    have : i = 0 := by simp at q; omega
    subst this
    exact (he 0 (by simp) p).sc_iff
theorem two_args {E : Env} {a b : Value} {vs : Array Value} (hl : [PV.sc a, PV.sc b].length = vs.size) (he : ∀ i (h1 : i < [PV.sc a, PV.sc b].length) (h2 : i < vs.size), Enc E [PV.sc a, PV.sc b][i] vs[i]) : vs = #[a, b] := by
  have h1 : vs.size = 2 := by simpa using hl.symm
  apply Array.ext
  · simp [h1]
  · intro i p q
    have : i = 0 ∨ i = 1 := by simp at q; omega
    rcases this with rfl | rfl
    · exact (he 0 (by simp) p).sc_iff
    · exact (he 1 (by simp) p).sc_iff
theorem three_args {E : Env} {a b c : Value} {vs : Array Value} (hl : [PV.sc a, PV.sc b, PV.sc c].length = vs.size) (he : ∀ i (h1 : i < [PV.sc a, PV.sc b, PV.sc c].length) (h2 : i < vs.size), Enc E [PV.sc a, PV.sc b, PV.sc c][i] vs[i]) : vs = #[a, b, c] := by
  have h1 : vs.size = 3 := by simpa using hl.symm
  apply Array.ext
  · simp [h1]
  · intro i p q
    have : i = 0 ∨ i = 1 ∨ i = 2 := by simp at q; omega
    rcases this with rfl | rfl | rfl
    · exact (he 0 (by simp) p).sc_iff
    · exact (he 1 (by simp) p).sc_iff
    · exact (he 2 (by simp) p).sc_iff
/-- strconv.FormatInt, base 10. -/
def xFormatInt (l : List PV) : Option PV := match l with
  | [.sc (.int .i64 n), .sc (.int .i64 b)] => if b = 10 ∧ -9223372036854775808 ≤ n ∧ n ≤ 9223372036854775807 then some (.sc (.string ⟨(Lib.itoa n).toArray⟩)) else none
  | _ => none
theorem xFormatInt_ok (args : List PV) (r : PV) (h : xFormatInt args = some r) : FunOk Tryz.prog Tabs 149 args r := by
  unfold xFormatInt at h
  split at h
  · rename_i n b
    split at h
    · rename_i hc
      obtain rfl := Option.some.inj h
      obtain ⟨rfl, h0, h1⟩ := hc
      refine .of (fun w V vs hT hV hl he => ?_) (fun _ _ h => by cases h)
      rw [two_args hl he]
      refine (Tryz.strconv_FormatInt_10 n h0 h1 w hT.1).mono ?_
      rintro e w' ⟨rfl, k, os, rfl⟩
      exact ⟨_, rfl, .sc rfl, .inl rfl, below_grow w k os⟩
    · cases h
  · cases h
/-- strconv.Itoa. -/
def xItoa (l : List PV) : Option PV := match l with
  | [.sc (.int .i64 n)] => if -9223372036854775808 ≤ n ∧ n ≤ 9223372036854775807 then some (.sc (.string ⟨(Lib.itoa n).toArray⟩)) else none
  | _ => none
theorem xItoa_ok (args : List PV) (r : PV) (h : xItoa args = some r) : FunOk Tryz.prog Tabs 112 args r := by
  unfold xItoa at h
  split at h
  · rename_i n
    split at h
    · rename_i hc
      obtain rfl := Option.some.inj h
      refine .of (fun w V vs hT hV hl he => ?_) (fun _ _ h => by cases h)
      rw [one_arg hl he]
      refine (Tryz.strconv_Itoa n hc.1 hc.2 w hT.1).mono ?_
      rintro e w' ⟨rfl, k, os, rfl⟩
      exact ⟨_, rfl, .sc rfl, .inl rfl, below_grow w k os⟩
    · cases h
  · cases h
/-- strings.Cut. -/
def xCut (l : List PV) : Option PV := match l with
  | [.sc (.string s), .sc (.string p)] => if s.size < 4294967281 then some (.tup [.sc (.string ⟨(Lib.cut s.data.toList p.data.toList).1.toArray⟩), .sc (.string ⟨(Lib.cut s.data.toList p.data.toList).2.1.toArray⟩), .sc (.bool (Lib.cut s.data.toList p.data.toList).2.2)]) else none
  | _ => none
theorem tup_enc {E : Env} {l : List Value} (h : ∀ v, v ∈ l → scOk v = true) : Enc E (.tup (l.map PV.sc)) (.tuple l.toArray) := by
  refine .tup (by simp) fun i h1 h2 => ?_
  simp only [List.getElem_map, List.getElem_toArray]
  exact .sc (h _ (List.getElem_mem _))
theorem xCut_ok (args : List PV) (r : PV) (h : xCut args = some r) : FunOk Tryz.prog Tabs 184 args r := by
  unfold xCut at h
  split at h
  · rename_i s p
    split at h
    · rename_i hc
      obtain rfl := Option.some.inj h
      refine .of (fun w V vs hT hV hl he => ?_) (fun _ _ h => by cases h)
      rw [two_args hl he]
      obtain ⟨m, hm⟩ := hT.2
      refine (Tryz.strings_Cut s p m w hc hm).mono ?_
      rintro e w' ⟨rfl, n, rfl⟩
      exact ⟨_, rfl, tup_enc (l := [_, _, _]) (by intro v hv; simp at hv; rcases hv with rfl | rfl | rfl <;> rfl), .inr ⟨_, rfl, rfl⟩, below_drewN n w⟩
    · cases h
  · cases h
/-- strings.CutPrefix. -/
def xCutPrefix (l : List PV) : Option PV := match l with
  | [.sc (.string s), .sc (.string p)] => some (.tup [.sc (.string ⟨(Lib.trimPrefix s.data.toList p.data.toList).toArray⟩), .sc (.bool (Lib.hasPrefix s.data.toList p.data.toList))])
  | _ => none
theorem xCutPrefix_ok (args : List PV) (r : PV) (h : xCutPrefix args = some r) : FunOk Tryz.prog Tabs 47 args r := by
  unfold xCutPrefix at h
  split at h
  · rename_i s p
    obtain rfl := Option.some.inj h
    refine .of (fun w V vs hT hV hl he => ?_) (fun _ _ h => by cases h)
    rw [two_args hl he]
    refine (Tryz.strings_CutPrefix s p w).mono ?_
    rintro e w' ⟨rfl, rfl⟩
    exact ⟨_, rfl, tup_enc (l := [_, _]) (by intro v hv; simp at hv; rcases hv with rfl | rfl <;> rfl), .inr ⟨_, rfl, rfl⟩, Below.refl _ _⟩
  · cases h
/-- strings.TrimRight, a cutset of one byte. -/
def xTrimRight (l : List PV) : Option PV := match l with
  | [.sc (.string s), .sc (.string c)] => if c.size = 1 ∧ (c.data.toList.headD 0).toNat < 128 ∧ s.size ≤ 9223372036854775807 then some (.sc (.string ⟨(Lib.trimRightB s.data.toList (c.data.toList.headD 0)).toArray⟩)) else none
  | _ => none
theorem xTrimRight_ok (args : List PV) (r : PV) (h : xTrimRight args = some r) : FunOk Tryz.prog Tabs 151 args r := by
  unfold xTrimRight at h
  split at h
  · rename_i s c
    split at h
    · rename_i hc
      obtain rfl := Option.some.inj h
      obtain ⟨h1, h2, h3⟩ := hc
      obtain ⟨c, rfl⟩ : ∃ d, c = ⟨#[d]⟩ := by
        rcases c with ⟨⟨l⟩⟩
        match l, h1 with
        | [c], _ => exact ⟨c, rfl⟩
      refine .of (fun w V vs hT hV hl he => ?_) (fun _ _ h => by cases h)
      rw [two_args hl he]
      refine (Tryz.strings_TrimRight_one s c h2 w h3).mono ?_
      rintro e w' ⟨rfl, rfl⟩
      exact ⟨_, rfl, .sc rfl, .inl rfl, Below.refl _ _⟩
    · cases h
  · cases h
/-- strings.ReplaceAll. -/
def xReplaceAll (l : List PV) : Option PV := match l with
  | [.sc (.string s), .sc (.string o), .sc (.string n)] => if s.size < 4294967281 ∧ 1 ≤ o.size ∧ s.size + Lib.countB s o * n.size ≤ 140737488355328 then some (.sc (.string ⟨(Lib.replaceAll s.data.toList o.data.toList n.data.toList).toArray⟩)) else none
  | _ => none
theorem xReplaceAll_ok (args : List PV) (r : PV) (h : xReplaceAll args = some r) : FunOk Tryz.prog Tabs 193 args r := by
  unfold xReplaceAll at h
  split at h
  · rename_i s o n
    split at h
    · rename_i hc
      obtain rfl := Option.some.inj h
      obtain ⟨h1, h2, h3⟩ := hc
      refine .of (fun w V vs hT hV hl he => ?_) (fun _ _ h => by cases h)
      rw [three_args hl he]
      obtain ⟨m, hm⟩ := hT.2
      refine (Tryz.strings_ReplaceAll s o n m w h1 hm h2 h3).mono ?_
      rintro e w' ⟨rfl, hb⟩
      exact ⟨_, rfl, .sc rfl, .inl rfl, hb⟩
    · cases h
  · cases h
/-- strings.Count. -/
def xCount (l : List PV) : Option PV := match l with
  | [.sc (.string s), .sc (.string o)] => if s.size < 4294967281 ∧ 1 ≤ o.size then some (.sc (.int .i64 (Lib.countB s o))) else none
  | _ => none
theorem xCount_ok (args : List PV) (r : PV) (h : xCount args = some r) : FunOk Tryz.prog Tabs 246 args r := by
  unfold xCount at h
  split at h
  · rename_i s o
    split at h
    · rename_i hc
      obtain rfl := Option.some.inj h
      refine .of (fun w V vs hT hV hl he => ?_) (fun _ _ h => by cases h)
      rw [two_args hl he]
      obtain ⟨m, hm⟩ := hT.2
      refine (Tryz.strings_Count_any s o m w hc.1 hm hc.2).mono ?_
      rintro e w' ⟨rfl, rfl⟩
      exact ⟨_, rfl, .sc rfl, .inl rfl, Below.refl _ _⟩
    · cases h
  · cases h
/-- strings.HasPrefix. -/
def xHasPrefix (l : List PV) : Option PV := match l with
  | [.sc (.string s), .sc (.string p)] => some (.sc (.bool (Lib.hasPrefix s.data.toList p.data.toList)))
  | _ => none
theorem xHasPrefix_ok (args : List PV) (r : PV) (h : xHasPrefix args = some r) : FunOk Tryz.prog Tabs 132 args r := by
  unfold xHasPrefix at h
  split at h
  · rename_i s p
    obtain rfl := Option.some.inj h
    refine .of (fun w V vs hT hV hl he => ?_) (fun _ _ h => by cases h)
    rw [two_args hl he]
    refine (Tryz.strings_HasPrefix s p w).mono ?_
    rintro e w' ⟨rfl, rfl⟩
    exact ⟨_, rfl, .sc rfl, .inl rfl, Below.refl _ _⟩
  · cases h
end Go.Den
