/- strings.Builder: what its check and its String do, exactly. -/
import Derived.Test.YtkhbkbkambflbaaGreatDoorDenU
import Derived.Test.YtkhbkbkambflbaaGreatDoorDenX
import Derived.Test.YtkhbkbkambflbaaGreatDoorProg
import Derived.Tactics
import Derived.Tactics2
import Derived.StillTactics
import Derived.Laws.Pointers
import Derived.RegionTactic
import Derived.LoopTactic
import Derived.Lib.Builder
import Derived.Lib.UnsafeStr
import Derived.Lib.OthersKept
import Derived.KernelRfl
set_option maxRecDepth 100000
set_option linter.unusedVariables false
namespace Go.Den
open Go Go.RowKit Go.Proofs
theorem copyCheck_used (b : Nat) (w : World) (h0 : w.cell? ⟨b, 0, none⟩ = some (.pointer (some ⟨b, 0, none⟩))) :
    Calls Tryz.prog 147 #[.pointer (some ⟨b, 0, none⟩)] w fun e w' => e = .returned (.tuple #[]) ∧ w' = w := by
  have hsz : (Tryz.prog.info? 90).map (·.size) = some 2 := by kernel_rfl
  obtain ⟨j, hj, _⟩ := Option.map_eq_some_iff.1 hsz
  go_enter Tryz.func147, Tryz.ntmps147
  go_wp2
  rw [Lib.run_neq_ptr_same w _ Tryz.underlying87 hj]
  go_wp2
  go_end0
  exact ⟨rfl, rfl⟩
theorem copyCheck_fresh (b : Nat) (w : World) (h0 : w.cell? ⟨b, 0, none⟩ = some (.pointer none)) (hsh : w.shape? b = some (90, 2)) (hfz : w.frozen? ⟨b, 0, none⟩ = false) :
    Calls Tryz.prog 147 #[.pointer (some ⟨b, 0, none⟩)] w fun e w' => e = .returned (.tuple #[]) ∧ w' = w.setCell ⟨b, 0, none⟩ (.pointer (some ⟨b, 0, none⟩)) := by
  have hsz : (Tryz.prog.info? 90).map (·.size) = some 2 := by kernel_rfl
  obtain ⟨j, hj, hjs⟩ := Option.map_eq_some_iff.1 hsz
  have hlies : liesAt Tryz.prog Tryz.prog.depth 90 (2 / Tryz.prog.cellsOf 90) 0 90 1 = true := by kernel_rfl
  go_enter Tryz.func147, Tryz.ntmps147
  go_wp2
  rw [Lib.run_to_unsafe w ⟨b, 0, none⟩ Tryz.underlying87 Tryz.underlying209 hj (by rw [hjs]; decide) hsh (Nat.zero_lt_succ 1)]
  simp only [Result.andThen]
  rw [Oper.upon_value]
  go_wp2
  rw [run_callFunc_extern Tryz.func187 (by kernel_rfl) (by kernel_rfl) (by kernel_rfl) (e := Extern.AbiNoEscape.same) (by kernel_rfl)]
  rw [Lib.run_noEscape]
  simp only [Result.andThen]
  rw [Oper.upon_value]
  go_wp2
  rw [Lib.run_from_unsafe w ⟨b, 0, none⟩ Tryz.underlying209 Tryz.underlying87 hj hsh hlies]
  simp only [Result.andThen]
  rw [Oper.upon_value]
  go_wp2
  go_end0
  exact ⟨rfl, rfl⟩
theorem string_none (b : Nat) (p : Value) (w : World) (hbk : w.heap[b]? = some (.cells #[p, .slice none 0 0] 90 (0, 0))) :
    Calls Tryz.prog 53 #[.pointer (some ⟨b, 0, none⟩)] w fun e w' => e = .returned (.string ⟨#[]⟩) ∧ w' = w.drew := by
  have hUS : (Builtin.unsafeString_ #[145, 3] 9 #[.pointer none, .int .i64 0]).run Tryz.prog w.drew = .ok (.string .empty) w.drew := rfl
  have c1 : w.drew.cell? ⟨b, 1, none⟩ = some (.slice none 0 0) := by
    have : w.drew.heap[b]? = some (.cells #[p, .slice none 0 0] 90 (0, 0)) := hbk
    rw [Lib.cell_of_heap this]; rfl
  have hSD : (Builtin.unsafeSliceData_ #[88] 145 #[.slice none 0 0]).run Tryz.prog w.drew = .ok (.pointer none) w.drew := rfl
  go_enter Tryz.func53, Tryz.ntmps53
  go_wp2
  go_region
  all_goals (go_wp2; go_ret; exact ⟨rfl, rfl⟩)
theorem string_room (b g cap : Nat) (p : Value) (w : World) (hc0 : cap ≠ 0) (hbk : w.heap[b]? = some (.cells #[p, .slice (some ⟨g, 0, none⟩) 0 cap] 90 (0, 0))) :
    Calls Tryz.prog 53 #[.pointer (some ⟨b, 0, none⟩)] w fun e w' => e = .returned (.string ⟨#[]⟩) ∧ w' = w.drew := by
  have hUS : (Builtin.unsafeString_ #[145, 3] 9 #[.pointer (some ⟨g, 0, none⟩), .int .i64 0]).run Tryz.prog w.drew = .ok (.string .empty) w.drew := rfl
  have c1 : w.drew.cell? ⟨b, 1, none⟩ = some (.slice (some ⟨g, 0, none⟩) 0 cap) := by
    have : w.drew.heap[b]? = some (.cells #[p, .slice (some ⟨g, 0, none⟩) 0 cap] 90 (0, 0)) := hbk
    rw [Lib.cell_of_heap this]; rfl
  have hSD : (Builtin.unsafeSliceData_ #[88] 145 #[.slice (some ⟨g, 0, none⟩) 0 cap]).run Tryz.prog w.drew = .ok (.pointer (some ⟨g, 0, none⟩)) w.drew :=
    Lib.run_unsafeSliceData_row _ _ _ _ _ _ hc0
  clear hc0
  go_enter Tryz.func53, Tryz.ntmps53
  go_wp2
  go_region
  all_goals (go_wp2; go_ret; exact ⟨rfl, rfl⟩)
theorem string_noroom (b g : Nat) (p : Value) (cur : Array Value) (w : World) (hbk : w.heap[b]? = some (.cells #[p, .slice (some ⟨g, 0, none⟩) 0 0] 90 (0, 0))) (hg : w.heap[g]? = some (.cells cur 5 (0, 0))) :
    Calls Tryz.prog 53 #[.pointer (some ⟨b, 0, none⟩)] w fun e w' => e = .returned (.string ⟨#[]⟩) ∧ w' = (w.alloc (.view ⟨g, 0, none⟩ 5)).drew := by
  have hlt : b < w.heap.size := (Array.getElem?_eq_some_iff.1 hbk).1
  have c1 : w.drew.cell? ⟨b, 1, none⟩ = some (.slice (some ⟨g, 0, none⟩) 0 0) := by
    have : w.drew.heap[b]? = some (.cells #[p, .slice (some ⟨g, 0, none⟩) 0 0] 90 (0, 0)) := hbk
    rw [Lib.cell_of_heap this]; rfl
  have hSD : (Builtin.unsafeSliceData_ #[88] 145 #[.slice (some ⟨g, 0, none⟩) 0 0]).run Tryz.prog w.drew = .ok (.pointer (some ⟨w.drew.heap.size, 0, none⟩)) (w.drew.alloc (.view ⟨g, 0, none⟩ 5)) :=
    Lib.run_unsafeSliceData_zero w.drew _ _ 5 Tryz.underlying145 ⟨g, 0, none⟩ 0 (5, cur.size) (by have hg' : w.drew.heap[g]? = some (.cells cur 5 (0, 0)) := hg; simp [World.shape?, hg'])
  have hUS : ∀ (W : World) (q : Option Addr), (Builtin.unsafeString_ #[145, 3] 9 #[.pointer q, .int .i64 0]).run Tryz.prog W = .ok (.string .empty) W := fun W q => by cases q <;> rfl
  have c2 : (w.drew.alloc (.view ⟨g, 0, none⟩ 5)).cell? ⟨b, 1, none⟩ = some (.slice (some ⟨g, 0, none⟩) 0 0) := by
    have : (w.drew.alloc (.view ⟨g, 0, none⟩ 5)).heap[b]? = _ := (alloc_old w.drew _ hlt).trans hbk
    rw [Lib.cell_of_heap this]; rfl
  have c3 : (w.alloc (.view ⟨g, 0, none⟩ 5)).drew.cell? ⟨b, 1, none⟩ = some (.slice (some ⟨g, 0, none⟩) 0 0) := c2
  have c0 : w.cell? ⟨b, 1, none⟩ = some (.slice (some ⟨g, 0, none⟩) 0 0) := c1
  go_enter Tryz.func53, Tryz.ntmps53
  go_wp2
  go_region
  all_goals (go_wp2; go_ret; exact ⟨rfl, rfl⟩)
theorem string_some (b g cap : Nat) (p : Value) (cur : Array Value) (l : List UInt8) (h0 : l ≠ []) (w : World) (hbk : w.heap[b]? = some (.cells #[p, .slice (some ⟨g, 0, none⟩) l.length cap] 90 (0, 0))) (hg : w.heap[g]? = some (.cells cur 5 (0, 0)))
    (hlc : l.length ≤ cap) (hcm : cap ≤ maxLen) (hcs : cur.size = cap * 1) (htk : cur.toList.take (l.length * 1) = Lib.byteCells l) :
    Calls Tryz.prog 53 #[.pointer (some ⟨b, 0, none⟩)] w fun e w' => e = .returned (.string ⟨l.toArray⟩) ∧ w' = w.drew.freeze ⟨g, 0, none⟩ l.length := by
  have hl0 : l.length ≠ 0 := by simpa using h0
  have c1 : w.drew.cell? ⟨b, 1, none⟩ = some (.slice (some ⟨g, 0, none⟩) l.length cap) := by
    have : w.drew.heap[b]? = some (.cells #[p, .slice (some ⟨g, 0, none⟩) l.length cap] 90 (0, 0)) := hbk
    rw [Lib.cell_of_heap this]; rfl
  have hSD : (Builtin.unsafeSliceData_ #[88] 145 #[.slice (some ⟨g, 0, none⟩) l.length cap]).run Tryz.prog w.drew = .ok (.pointer (some ⟨g, 0, none⟩)) w.drew :=
    Lib.run_unsafeSliceData_row _ _ _ _ _ _ (by omega)
  have hUS : (Builtin.unsafeString_ #[145, 3] 9 #[.pointer (some ⟨g, 0, none⟩), .int .i64 l.length]).run Tryz.prog w.drew = .ok (.string ⟨l.toArray⟩) (w.drew.freeze ⟨g, 0, none⟩ l.length) := by
    refine Lib.run_unsafeString_row w.drew 145 3 9 5 Tryz.underlying145 (by kernel_rfl) g cur.size (by have hg' : w.drew.heap[g]? = some (.cells cur 5 (0, 0)) := hg; simp [World.shape?, hg']) l h0 (by omega) (by unfold maxLen at hcm; omega) ?_
    intro j x hx
    have hg' : w.drew.heap[g]? = some (.cells cur 5 (0, 0)) := hg
    have ea : (⟨g, 0, none⟩ : Addr).add j = ⟨g, j, none⟩ := by unfold Addr.add; split <;> simp_all
    rw [ea, Lib.cell_of_heap hg']
    have hj : j < l.length := (List.getElem?_eq_some_iff.1 hx).1
    have := congrArg (·[j]?) htk
    simp only [List.getElem?_take, Lib.byteCells, List.getElem?_map, hx] at this
    rw [if_pos (by omega)] at this
    simpa using this
  go_enter Tryz.func53, Tryz.ntmps53
  go_wp2
  go_region
  all_goals (go_wp2; go_ret; exact ⟨rfl, rfl⟩)
/-- The check: the builder knows its own place. -/
def xCopyCheck (l : List PV) : Option PV := match l with
  | [.hp (.iptr [.ptr t o, .selfp 0, c] :: rest), .ptr 0 0] => if t = 90 then some (.tup [.hp (.iptr [.ptr t 0, .selfp 0, c] :: rest), .tup []]) else none
  | _ => none
theorem one_val {E : Env} {x : PV} {vs : Array Value} (hl : [x].length = vs.size) (he : ∀ i (h1 : i < [x].length) (h2 : i < vs.size), Enc E [x][i] vs[i]) : ∃ v, vs = #[v] ∧ Enc E x v := by
  have h1 : vs.size = 1 := by simpa using hl.symm
  refine ⟨vs[0], ?_, he 0 (by simp) (by omega)⟩
  apply Array.ext
  · simp [h1]
  · intro i p q
    have : i = 0 := by simp at q; omega
    subst this
    rfl
theorem xCopyCheck_ok {T : World → Prop} (args : List PV) (r : PV) (h : xCopyCheck args = some r) : FunOk Tryz.prog T 147 args r := by
  unfold xCopyCheck at h
  split at h
  · rename_i t o c rest
    split at h
    · rename_i ht
      subst ht
      obtain rfl := Option.some.inj h
      refine ⟨fun w V vs hT hV hl he => ?_, fun objs as' e w0 E vs hT hs hb hl he => ?_⟩
      · exfalso
        have h0 := he 0 (by simp) (by rw [← hl]; simp)
        simp only [List.getElem_cons_zero] at h0
        cases h0
      · obtain ⟨e1, rfl⟩ := List.cons.inj e
        injection e1 with e1
        subst e1
        obtain ⟨v, rfl, hv⟩ := one_val hl he
        have h0 : ((PV.iptr [.ptr 90 o, .selfp 0, c] :: rest).map decO)[0]? = some (.cells 90 [.selfp 0, c]) := rfl
        have hob := hs.obj 0 _ h0
        have hn := hs.n
        have hn0 : 0 < E.n := by rw [hn]; simp
        cases hv
        cases hob with
        | cells ho hba hh hla hx =>
          rename_i arr
          obtain ⟨p, q, rfl⟩ : ∃ p q, arr = #[p, q] := by
            have h1 : arr.size = 2 := by simpa using hla.symm
            refine ⟨arr[0], arr[1], ?_⟩
            apply Array.ext
            · simp [h1]
            · intro i a b
              have hi : i = 0 ∨ i = 1 := by simp at b; omega
              rcases hi with rfl | rfl <;> rfl
          have hp : Enc E (.selfp 0) p := hx 0 (by simp) (by simp)
          have c0 : E.w.cell? ⟨E.blk 0, 0, none⟩ = some p := by rw [Lib.cell_of_heap hh]; rfl
          have fin : ∀ (E' : Env), Ext E E' → HeapOk Tryz.prog E' w0.heap.size ((PV.iptr [.ptr 90 0, .selfp 0, c] :: rest).map decO) → Below w0.heap.size E.w E'.w → E'.V = E.V →
              ∃ v E2 objs' ret, HandRes Tryz.prog w0 E (PV.iptr [.ptr 90 o, .selfp 0, c] :: rest).length (.tup [.hp (.iptr [.ptr 90 0, .selfp 0, c] :: rest), .tup []]) (.returned (.tuple #[])) E'.w v E2 objs' ret := fun E' x hh' hb' hV =>
            ⟨_, E', _, _, ⟨rfl, rfl, rfl, hV, hh', .tup rfl (fun i h1 => absurd h1 (Nat.not_lt_zero _)), .inr ⟨[], rfl, rfl⟩, hb', fun j hj => ⟨by have := x.n; rw [hn] at this; simp at this hj; omega, x.blk j (by rw [hn]; simpa using hj)⟩, x.own, x.same, x.size⟩⟩
          cases hp with
          | selfp _ hp =>
            rcases hp with rfl | rfl
            · refine (copyCheck_fresh (E.blk 0) E.w c0 (by simp [World.shape?, hh]) (by simp [World.frozen?, hh])).mono ?_
              rintro e w' ⟨rfl, rfl⟩
              obtain ⟨E', hrun, x1, hh2, hb2, hV2, _⟩ := store_ok hs h0 (t := 87) (x := .selfp 0) (v := .pointer (some ⟨E.blk 0, 0, none⟩)) (off := 0) (.selfp hn0 (.inr rfl)) rfl rfl (by decide +kernel) (by kernel_rfl) (by rw [show sizeT Tryz.prog 87 = 1 by kernel_rfl]; simp)
              have hst : (storeVar 87 ⟨E.blk 0, 0, none⟩ (.pointer (some ⟨E.blk 0, 0, none⟩))).run Tryz.prog E.w = .ok () (E.w.setCell ⟨E.blk 0, 0, none⟩ (.pointer (some ⟨E.blk 0, 0, none⟩))) := by
                have hz : (Tryz.prog.info? 87).map (·.size) = some 1 := by kernel_rfl
                obtain ⟨j, hj, hj2⟩ := Option.map_eq_some_iff.1 hz
                have hfz : E.w.frozen? ⟨E.blk 0, 0, none⟩ = false := by simp [World.frozen?, hh]
                unfold storeVar
                rw [Sem.run_bind, run_size hj, Result.andThen_ok]
                have hne : ¬ ((Value.pointer (some ⟨E.blk 0, 0, none⟩)).cells.size ≠ j.size) := by rw [hj2]; exact fun h => h rfl
                have ea : (⟨E.blk 0, 0, none⟩ : Addr).add 0 = ⟨E.blk 0, 0, none⟩ := by unfold Addr.add; split <;> simp_all
                simp only [if_neg hne]
                simp [Value.cells, storeCells, run_store_pointer, stored, ea, c0, hfz]
              rw [hst] at hrun
              injection hrun with _ hw
              rw [hw]
              exact fin E' x1 hh2 hb2 hV2
            · refine (copyCheck_used (E.blk 0) E.w c0).mono ?_
              rintro e w' ⟨rfl, rfl⟩
              exact fin E (Ext.refl E) hs (Below.refl _ _) rfl
    · cases h
  · cases h
/-- The string, and the builder is gone. -/
def byteOk (x : PV) : Bool := match x with
  | .sc (.int .u8 n) => decide (0 ≤ n) && decide (n < 256)
  | _ => false
def xBString (l : List PV) : Option PV := match l with
  | [.hp [.iptr [.ptr t _, .selfp 0, .buf 1 0], .tup (.ptr e _ :: xs)], .ptr 0 0] => if t = 90 ∧ e = 5 ∧ xs.all byteOk = true then some (.tup [.hp [.top, .top], .sc (.string (bytesOf xs))]) else none
  | _ => none
theorem byteOk_spec {x : PV} (h : byteOk x = true) : ∃ b : UInt8, x = .sc (.int .u8 b.toNat) ∧ UInt8.ofNat x.toInt.toNat = b := by
  unfold byteOk at h
  split at h
  · rename_i n
    simp only [Bool.and_eq_true, decide_eq_true_eq] at h
    refine ⟨UInt8.ofNat n.toNat, ?_, rfl⟩
    congr 2
    simp
    omega
  · cases h
theorem bytes_list : ∀ {xs : List PV}, xs.all byteOk = true → ∃ l : List UInt8, xs = l.map (fun b => .sc (.int .u8 b.toNat)) ∧ bytesOf xs = ⟨l.toArray⟩
  | [], _ => ⟨[], rfl, rfl⟩
  | x :: xs, h => by
    rw [List.all_cons, Bool.and_eq_true] at h
    obtain ⟨b, h1, h2⟩ := byteOk_spec h.1
    obtain ⟨l, h3, h4⟩ := bytes_list h.2
    refine ⟨b :: l, by rw [h1, h3]; rfl, ?_⟩
    unfold bytesOf at h4 ⊢
    rw [List.map_cons, h2]
    injection h4 with h4
    have h5 := congrArg Array.toList h4
    simp only at h5
    rw [h5]
theorem xBString_ok {T : World → Prop} (args : List PV) (r : PV) (h : xBString args = some r) : FunOk Tryz.prog T 53 args r := by
  unfold xBString at h
  split at h
  · rename_i t o e1 o2 xs
    split at h
    · rename_i hc
      obtain ⟨rfl, rfl, hxs⟩ := hc
      obtain rfl := Option.some.inj h
      refine ⟨fun w V vs hT hV hl he => ?_, fun objs as' e w0 E vs hT hs hb hl he => ?_⟩
      · exfalso
        have h0 := he 0 (by simp) (by rw [← hl]; simp)
        simp only [List.getElem_cons_zero] at h0
        cases h0
      · obtain ⟨e1, rfl⟩ := List.cons.inj e
        injection e1 with e1
        subst e1
        obtain ⟨v, rfl, hv⟩ := one_val hl he
        obtain ⟨l, hl1, hl2⟩ := bytes_list hxs
        have h0 : ([PV.iptr [.ptr 90 o, .selfp 0, .buf 1 0], .tup (.ptr 5 o2 :: xs)].map decO)[0]? = some (.cells 90 [.selfp 0, .buf 1 0]) := rfl
        have h1 : ([PV.iptr [.ptr 90 o, .selfp 0, .buf 1 0], .tup (.ptr 5 o2 :: xs)].map decO)[1]? = some (.buf 5 0 xs) := rfl
        have hob := hs.obj 0 _ h0
        have hob1 := hs.obj 1 _ h1
        have hn : E.n = 2 := hs.n
        have hlow := hs.low
        generalize hz : (0 : Nat) = z at hob1
        cases hv
        cases hob with
        | cells ho hba hh hla hx =>
          rename_i arr
          cases hob1 with
          | buf ho1 hw hk h00 hx1 hxe =>
            rename_i k vs
            have hw := hw.own (show markT Tryz.prog 5 = false by kernel_rfl)
            obtain ⟨p, q, rfl⟩ : ∃ p q, arr = #[p, q] := by
              have h1 : arr.size = 2 := by simpa using hla.symm
              refine ⟨arr[0], arr[1], ?_⟩
              apply Array.ext
              · simp [h1]
              · intro i a b
                have hi : i = 0 ∨ i = 1 := by simp at b; omega
                rcases hi with rfl | rfl <;> rfl
            have hq : Enc E (.buf 1 0) q := hx 1 (by simp) (by simp)
            have hqv : q = E.hdr 1 := by
              cases hq with
              | buf _ _ _ hq => exact hq hz
            have hk1 : k = 1 := by rw [← hk]; kernel_rfl
            subst hk1
            subst hqv
            -- what is left of it
            have fin : ∀ (s : ByteArray) (w' : World), s = bytesOf xs → Below w0.heap.size E.w w' → (∀ c, c < E.w.heap.size → ¬ E.O c → w'.heap[c]? = E.w.heap[c]?) →
                ∃ v E2 objs' ret, HandRes Tryz.prog w0 E 2 (.tup [.hp [.top, .top], .sc (.string (bytesOf xs))]) (.returned (.string s)) w' v E2 objs' ret := fun s w' hs1 hb' hsame => by
              refine ⟨.string s, { w := w', n := 2, own := fun _ => none, blk := E.blk, hdr := E.hdr, ver := E.ver, V := E.V }, [.top, .top], .sc (.string (bytesOf xs)), ⟨rfl, rfl, rfl, rfl, ⟨rfl, fun b o ho => ?_, fun b b' c _ _ h => (by cases h), Nat.le_trans hlow hb'.size, fun c hc => ⟨Nat.lt_of_lt_of_le (hs.below c hc).1 hb'.size, fun b _ h => by cases h⟩⟩, by rw [hs1]; exact .sc rfl, .inl rfl, hb', fun j hj => ⟨hj, rfl⟩, fun c hc => ?_, hsame, hb'.size⟩⟩
              · have : o = .gone := by
                  match b, ho with
                  | 0, ho => exact (Option.some.inj ho).symm
                  | 1, ho => exact (Option.some.inj ho).symm
                  | b + 2, ho => simp at ho
                rw [this]
                exact .gone rfl
              · obtain ⟨b, _, e⟩ := hc
                cases e
            have drew : Below w0.heap.size E.w E.w.drew := (Below.refl _ _).drew
            rcases hw.2 with ⟨e1, e2⟩ | ⟨g, cap, cur, e1, e2, e3, e4, e5, e6, e7⟩
            · rw [e1] at hh
              have hx0 : xs = [] := List.eq_nil_of_length_eq_zero e2
              refine (string_none (E.blk 0) p E.w hh).mono ?_
              rintro e w' ⟨rfl, rfl⟩
              exact fin _ _ (by rw [hx0]; rfl) drew fun _ _ _ => rfl
            · rw [e1] at hh
              have hog : E.O g := ⟨1, by omega, by rw [ho1, e1]; rfl⟩
              by_cases hx0 : xs = []
              · subst hx0
                by_cases hc0 : cap = 0
                · subst hc0
                  refine (string_noroom (E.blk 0) g p cur E.w hh e3).mono ?_
                  rintro e w' ⟨rfl, rfl⟩
                  exact fin _ _ rfl ((Below.refl _ _).alloc hlow _).drew fun c hc _ => alloc_old _ _ hc
                · refine (string_room (E.blk 0) g cap p E.w hc0 hh).mono ?_
                  rintro e w' ⟨rfl, rfl⟩
                  exact fin _ _ rfl drew fun _ _ _ => rfl
              · have hll : xs.length = l.length := by rw [hl1]; simp
                have hl0 : l ≠ [] := fun h => hx0 (by rw [hl1, h]; rfl)
                have hvs : vs = Lib.byteCells l := by
                  have hvl : vs.length = l.length := by have := hw.1; omega
                  apply List.ext_getElem?
                  intro i
                  by_cases hi : i < l.length
                  · have hi2 : i < xs.length := by omega
                    have hxi : xs[i] = .sc (.int .u8 l[i].toNat) := by simp only [hl1, List.getElem_map]
                    obtain ⟨u, hu, eu⟩ := hxe i hi2 0 (by rw [hxi]; exact Nat.one_pos)
                    simp only [hxi, Nat.mul_one, Nat.add_zero] at hu eu
                    rw [hu]
                    have : u = .int .u8 l[i].toNat := Enc.sc_iff (E := E) eu
                    rw [this]
                    simp [Lib.byteCells, hi]
                  · rw [List.getElem?_eq_none (by omega), List.getElem?_eq_none (by simp [Lib.byteCells]; omega)]
                rw [hll] at hh e4 e7
                refine (string_some (E.blk 0) g cap p cur l hl0 E.w hh e3 e4 e5 e6 (by rw [e7, hvs])).mono ?_
                rintro e w' ⟨rfl, rfl⟩
                refine fin _ _ hl2.symm (Lib.below_freeze drew (p := ⟨g, 0, none⟩) e2 _) fun c hc hno => ?_
                have hcg : c ≠ g := fun h => hno (h ▸ hog)
                show (World.freeze _ _ _).heap[c]? = _
                unfold World.freeze
                split
                · rfl
                · simp only [Array.getElem?_modify]
                  rw [if_neg (fun h => hcg h.symm)]
                  rfl
    · cases h
  · cases h
end Go.Den
