/- CanonShort: whatever the input, the law returns true; each argument reads behind the call as it read before. No condition. -/
import Derived.Test.YtkhbkbkambflbaaGreatDoorMCanonShort1
import Derived.Test.YtkhbkbkambflbaaGreatDoorMCanonShort0
import Derived.Test.YtkhbkbkambflbaaGreatDoorDenV
import Derived.Test.YtkhbkbkambflbaaGreatDoorDenY
import Derived.Test.YtkhbkbkambflbaaGreatDoorTie
import Derived.Test.YtkhbkbkambflbaaGreatDoorCards
import Derived.LaidMore
import Derived.Lay
import Derived.SevenTiedAt
import Derived.Stop.Joined
import Derived.Handy
import Derived.Test.YtkhbkbkambflbaaGreatDoorDenU
import Derived.Test.YtkhbkbkambflbaaGreatDoorRows
import Derived.Test.YtkhbkbkambflbaaGreatDoorESh
/- The program's parser. -/
set_option linter.unusedVariables false
set_option linter.unusedSimpArgs false
set_option maxRecDepth 100000
namespace Go.Den.ES
open Go Go.Proofs
abbrev stP (l : List Tk) (a : Int) (w : Bool) : PV := .hp [.iptr (.ptr 67 0 :: [.lst 4 l.length (fun i => (tp l).getD i .top), .sc (.int .i64 a), .sc (.bool w)])]
abbrev pp0 : PV := .ptr 0 0
def nilC (kind op : Int) (v : Vl) (a b : Rf) : PV := .agg [.sc (.int .i64 kind), .sc (.int .i64 op), .sc (.int .i64 v.kind), .sc (.int .i64 v.num), .sc (.string v.text), .sc (.int .i64 a.row), .sc (.int .i64 a.col), .sc (.bool a.hr), .sc (.bool a.hc), .sc (.int .i64 b.row), .sc (.int .i64 b.col), .sc (.bool b.hr), .sc (.bool b.hc), .nils]
def zN : Nod := .mk 0 0 zV zR zR []
/-- A node as a call answers it. -/
inductive WN : PV → Nod → Prop where
  | full (n : Nod) : WN n.pv n
  | bare (kind op : Int) (v : Vl) (a b : Rf) : WN (nilC kind op v a b) (.mk kind op v a b [])
theorem rb_wn {x : PV} {n : Nod} (h : WN x n) : rbN x = n.pv := by
  cases h with
  | full => exact rb_pv n
  | bare => rfl
theorem ret_wn {x : PV} {n : Nod} (h : WN x n) : retOk Tryz.prog 6 [29] x = true := by
  cases h with
  | full => cases n; rfl
  | bare => rfl
theorem now_ev {l : List Tk} {a : Nat} (h : a < l.length) (hl : l.length ≤ 1000000) (w : Bool) : D 42 [stP l (a : Int) w, pp0] = some (.tup [stP l (a : Int) w, tkp l[a]]) := by
  refine (f42h_eq 0 _ _ _ _).trans ?_
  have e : (if IntKind.i64.wrap ((l.length : Int) - 1) < (a : Int) then IntKind.i64.wrap ((l.length : Int) - 1) else (a : Int)) = (a : Int) := if_neg (by rw [w64 (by omega) (by omega)]; omega)
  rw [e, Int.toNat_natCast, tp_get h]
  exact ip (by omega) (ip (by omega) (ip rfl rfl))
theorem fail_ev (l : List Tk) (a : Int) (w : Bool) : D 182 [stP l a w, pp0] = some (.tup [stP l a true, nilC 0 0 zV zR zR]) := f182h_eq 0 _ _ _ _
theorem sgT_drop {x : List UInt8} {l : List Tk} {a : Nat} (h : a < l.length) : sgT x (l.drop a) = (l[a].kind == 4 && l[a].text == x) := by rw [List.drop_eq_getElem_cons h]; rfl
theorem sgn_ev {l : List Tk} {a : Nat} (h : a < l.length) (hl : l.length ≤ 1000000) (w : Bool) (x : List UInt8) : D 133 [stP l (a : Int) w, pp0, .sc (.string (B x))] = some (.tup [stP l ((if sgT x (l.drop a) = true then a + 1 else a : Nat) : Int) w, .sc (.bool (sgT x (l.drop a)))]) := by
  refine (f133h_eq 0 _ _ _ _ _).trans (hb (now_ev h hl w) rfl rfl ?_)
  rw [sgT_drop h]
  have e1 : (((l[a].kind : Nat) : Int) != 4) = !(l[a].kind == 4) := by
    rw [Bool.eq_iff_iff, bne_iff_ne, Bool.not_eq_true', beq_eq_false_iff_ne]; omega
  have e2 : ((B l[a].text).toList == (B x).toList) = (l[a].text == x) := by rw [B_toList, B_toList]
  show Option.bind (α := PV) (if (((l[a].kind : Nat) : Int) != 4) = true then some (.sc (.bool true)) else some (.sc (.bool (!((B l[a].text).toList == (B x).toList))))) _ = _
  rw [e1, e2, bO]
  by_cases hs : (l[a].kind == 4 && l[a].text == x) = true
  · rw [if_pos hs, hs]
    have hc : (!(l[a].kind == 4) || !(l[a].text == x)) = false := by rw [← Bool.not_and, hs]; rfl
    rw [hc]
    refine im (by decide) ?_
    show some (PV.tup [.hp [.iptr (.ptr 67 0 :: [_, .sc (.int .i64 (IntKind.i64.wrap ((a : Int) + 1))), _])], _]) = _
    rw [nx h (by omega)]
    rfl
  · have hs' : (l[a].kind == 4 && l[a].text == x) = false := by simpa using hs
    rw [if_neg hs, hs']
    have hc : (!(l[a].kind == 4) || !(l[a].text == x)) = true := by rw [← Bool.not_and, hs']; rfl
    rw [hc]
    exact ip rfl rfl
/-- What a goal answers. -/
def Out (l : List Tk) (u : Option PV) (o : PR) : Prop := match o with
  | some (n, r) => ∃ a' : Nat, a' < l.length ∧ l.drop a' = r ∧ ∃ x, WN x n ∧ u = some (.tup [stP l (a' : Int) false, x])
  | none => ∃ (a' : Int) (n : Nod) (x : PV), WN x n ∧ u = some (.tup [stP l a' true, x])
theorem Out.yes {l : List Tk} {u : Option PV} {n : Nod} {a' : Nat} {x : PV} (h : a' < l.length) (hx : WN x n) (e : u = some (.tup [stP l (a' : Int) false, x])) : Out l u (some (n, l.drop a')) := ⟨a', h, rfl, x, hx, e⟩
theorem Out.no {l : List Tk} {u : Option PV} {n : Nod} {a' : Int} {x : PV} (hx : WN x n) (e : u = some (.tup [stP l a' true, x])) : Out l u none := ⟨a', n, x, hx, e⟩
theorem Out.eq {l : List Tk} {u v : Option PV} {o : PR} (h : Out l v o) (e : u = v) : Out l u o := by rw [e]; exact h
/-- What is needed of tokens. -/
structure Okk (l : List Tk) : Prop where
  len : l.length ≤ 100000
  fin : ∀ (i : Nat) (h : i < l.length), l[i].kind ≠ 5 → i + 1 < l.length
  txt : ∀ (i : Nat) (h : i < l.length), l[i].text.length ≤ 1000000
theorem Okk.sg {l : List Tk} (h : Okk l) {a : Nat} (ha : a < l.length) {x : List UInt8} (hs : sgT x (l.drop a) = true) : a + 1 < l.length ∧ (l.drop a).tail = l.drop (a + 1) := by
  rw [sgT_drop ha, Bool.and_eq_true, beq_iff_eq] at hs
  exact ⟨h.fin a ha (by rw [hs.1]; decide), by rw [List.tail_drop]⟩
noncomputable abbrev lbG (l : List Tk) (k : Nat) (a0 : Int) (w : Bool) (c1 c1_1 c1_2 c1_3 : Int) (c1_4 : ByteArray) (c1_5 c1_6 : Int) (c1_7 c1_8 : Bool) (c1_9 c1_10 : Int) (c1_11 c1_12 : Bool) (n : Nod) : Option PV := match n with
  | .mk kind op v a b ch => f41h.l0b 0 (k : Int) l.length (fun i => (tp l).getD i .top) a0 w c1 c1_1 c1_2 c1_3 c1_4 c1_5 c1_6 c1_7 c1_8 c1_9 c1_10 c1_11 c1_12 kind op v.kind v.num v.text a.row a.col a.hr a.hc b.row b.col b.hr b.hc (pvs ch)
noncomputable abbrev lpB (l : List Tk) (k a0 : Nat) (c1 c1_1 c1_2 c1_3 : Int) (c1_4 : ByteArray) (c1_5 c1_6 : Int) (c1_7 c1_8 : Bool) (c1_9 c1_10 : Int) (c1_11 c1_12 : Bool) (n : Nod) : Option PV := lbG l k (a0 : Int) false c1 c1_1 c1_2 c1_3 c1_4 c1_5 c1_6 c1_7 c1_8 c1_9 c1_10 c1_11 c1_12 n
noncomputable abbrev lpR (l : List Tk) (a0 : Nat) (c1 c1_1 c1_2 c1_3 : Int) (c1_4 : ByteArray) (c1_5 c1_6 : Int) (c1_7 c1_8 : Bool) (c1_9 c1_10 : Int) (c1_11 c1_12 : Bool) (f : Int) (acc : List Nod) : Option PV := f207h.l0b 0 l.length (fun i => (tp l).getD i .top) (a0 : Int) false c1 c1_1 c1_2 c1_3 c1_4 c1_5 c1_6 c1_7 c1_8 c1_9 c1_10 c1_11 c1_12 7 f 0 0 EM 0 0 false false 0 0 false false (pvs acc)
theorem lp_ab (l : List Tk) (k : Nat) (a0 : Int) (w : Bool) (c1 c1_1 c1_2 c1_3 : Int) (c1_4 : ByteArray) (c1_5 c1_6 : Int) (c1_7 c1_8 : Bool) (c1_9 c1_10 : Int) (c1_11 c1_12 : Bool) (kind op : Int) (v : Vl) (a b : Rf) (ch : List Nod) :
    f41h.l0a 0 (k : Int) l.length (fun i => (tp l).getD i .top) a0 w c1 c1_1 c1_2 c1_3 c1_4 c1_5 c1_6 c1_7 c1_8 c1_9 c1_10 c1_11 c1_12 kind op v.kind v.num v.text a.row a.col a.hr a.hc b.row b.col b.hr b.hc (pvs ch).length (fun i => (pvs ch).getD i .top) = f41h.l0b 0 (k : Int) l.length (fun i => (tp l).getD i .top) a0 w c1 c1_1 c1_2 c1_3 c1_4 c1_5 c1_6 c1_7 c1_8 c1_9 c1_10 c1_11 c1_12 kind op v.kind v.num v.text a.row a.col a.hr a.hc b.row b.col b.hr b.hc (pvs ch) :=
  (f41h.l0a_eq 0 _ _ _ _ _ _ _ _ _ _ _ _ _ _ _ _ _ _ _ _ _ _ _ _ _ _ _ _ _ _ _ _ _).trans (f41h.l0b_eq 0 _ _ _ _ _ _ _ _ _ _ _ _ _ _ _ _ _ _ _ _ _ _ _ _ _ _ _ _ _ _ _ _).symm
theorem lr_ab (l : List Tk) (a0 : Nat) (c1 c1_1 c1_2 c1_3 : Int) (c1_4 : ByteArray) (c1_5 c1_6 : Int) (c1_7 c1_8 : Bool) (c1_9 c1_10 : Int) (c1_11 c1_12 : Bool) (f : Int) :
    f207h.l0a 0 l.length (fun i => (tp l).getD i .top) (a0 : Int) false c1 c1_1 c1_2 c1_3 c1_4 c1_5 c1_6 c1_7 c1_8 c1_9 c1_10 c1_11 c1_12 7 f 0 0 EM 0 0 false false 0 0 false false = lpR l a0 c1 c1_1 c1_2 c1_3 c1_4 c1_5 c1_6 c1_7 c1_8 c1_9 c1_10 c1_11 c1_12 f [] :=
  (f207h.l0a_eq 0 _ _ _ _ _ _ _ _ _ _ _ _ _ _ _ _ _ _ _ _ _ _ _ _ _ _ _ _ _ _).trans (f207h.l0b_eq 0 _ _ _ _ _ _ _ _ _ _ _ _ _ _ _ _ _ _ _ _ _ _ _ _ _ _ _ _ _ _ _).symm
structure AllF (l : List Tk) (F : Nat) : Prop where
  hB : ∀ k a, k ≤ 6 → a < l.length → need (.B k) (l.drop a) ≤ F → Out l (D 41 [stP l (a : Int) false, pp0, .sc (.int .i64 (k : Int))]) (pX fnumP F (.B k) (l.drop a))
  hL : ∀ k a n, k ≤ 5 → a < l.length → need (.L k n) (l.drop a) ≤ F → ∀ (c1 c1_1 c1_2 c1_3 : Int) (c1_4 : ByteArray) (c1_5 c1_6 : Int) (c1_7 c1_8 : Bool) (c1_9 c1_10 : Int) (c1_11 c1_12 : Bool), Out l (lpB l k a c1 c1_1 c1_2 c1_3 c1_4 c1_5 c1_6 c1_7 c1_8 c1_9 c1_10 c1_11 c1_12 n) (pX fnumP F (.L k n) (l.drop a))
  hS : ∀ a, a < l.length → need .S (l.drop a) ≤ F → Out l (D 79 [stP l (a : Int) false, pp0]) (pX fnumP F .S (l.drop a))
  hA : ∀ a, a < l.length → need .A (l.drop a) ≤ F → Out l (D 134 [stP l (a : Int) false, pp0]) (pX fnumP F .A (l.drop a))
  hW : ∀ a w, w.length ≤ 1000000 → a < l.length → need (.W w) (l.drop a) ≤ F → Out l (D 181 [stP l (a : Int) false, pp0, .sc (.string (B w))]) (pX fnumP F (.W w) (l.drop a))
  hR : ∀ a f acc, acc.length ≤ a → a < l.length → need (.R f acc) (l.drop a) ≤ F → ∀ (c1 c1_1 c1_2 c1_3 : Int) (c1_4 : ByteArray) (c1_5 c1_6 : Int) (c1_7 c1_8 : Bool) (c1_9 c1_10 : Int) (c1_11 c1_12 : Bool), Out l (lpR l a c1 c1_1 c1_2 c1_3 c1_4 c1_5 c1_6 c1_7 c1_8 c1_9 c1_10 c1_11 c1_12 f acc) (pX fnumP F (.R f acc) (l.drop a))
  hG : ∀ a, a < l.length → need .G (l.drop a) ≤ F → Out l (D 234 [stP l (a : Int) false, pp0]) (pX fnumP F .G (l.drop a))
theorem all_S {l : List Tk} (hk : Okk l) {F : Nat} (IH : AllF l F) (a : Nat) (ha : a < l.length) (hF : need .S (l.drop a) ≤ F + 1) : Out l (D 79 [stP l (a : Int) false, pp0]) (pX fnumP (F + 1) .S (l.drop a)) := by
  have hl := hk.len
  have hlen : (l.drop a).length = l.length - a := List.length_drop
  have h0 := sgn_ev ha (by omega) false [45]
  rw [pX]
  by_cases hs : sgT [45] (l.drop a) = true
  · rw [if_pos hs]
    obtain ⟨h1, h2⟩ := hk.sg ha hs
    rw [if_pos hs, hs] at h0
    rw [h2]
    have hlen2 : (l.drop (a + 1)).length = l.length - (a + 1) := List.length_drop
    have ih := IH.hS (a + 1) h1 (by simp only [need] at hF ⊢; omega)
    generalize pX fnumP F .S (l.drop (a + 1)) = o at ih
    rcases o with _ | ⟨n, r⟩
    · obtain ⟨a', n, x, hx, e⟩ := ih
      refine Out.no (a' := a') (n := negN n) (.full _) ((f79h_eq 0 _ _ _ _).trans (hb h0 rfl rfl (ip rfl (hb e rfl (ret_wn hx) ?_))))
      have := rb_wn hx
      show some (PV.tup [stP l a' true, .agg [.sc (.int .i64 5), .sc (.int .i64 0), .sc (.int .i64 0), .sc (.int .i64 0), .sc (.string EM), .sc (.int .i64 0), .sc (.int .i64 0), .sc (.bool false), .sc (.bool false), .sc (.int .i64 0), .sc (.int .i64 0), .sc (.bool false), .sc (.bool false), frozen 14 [rbN x]]]) = _
      rw [this]; rfl
    · obtain ⟨a', ha', rfl, x, hx, e⟩ := ih
      refine Out.yes ha' (.full (negN n)) ((f79h_eq 0 _ _ _ _).trans (hb h0 rfl rfl (ip rfl (hb e rfl (ret_wn hx) ?_))))
      have := rb_wn hx
      show some (PV.tup [stP l a' false, .agg [.sc (.int .i64 5), .sc (.int .i64 0), .sc (.int .i64 0), .sc (.int .i64 0), .sc (.string EM), .sc (.int .i64 0), .sc (.int .i64 0), .sc (.bool false), .sc (.bool false), .sc (.int .i64 0), .sc (.int .i64 0), .sc (.bool false), .sc (.bool false), frozen 14 [rbN x]]]) = _
      rw [this]; rfl
  · have hs' : sgT [45] (l.drop a) = false := by simpa using hs
    rw [if_neg hs]
    rw [if_neg hs, hs'] at h0
    have ih := IH.hA a ha (by simp only [need] at hF ⊢; omega)
    generalize pX fnumP F .A (l.drop a) = o at ih
    rcases o with _ | ⟨n, r⟩
    · obtain ⟨a', n, x, hx, e⟩ := ih
      refine Out.no (a' := a') (n := n) (.full _) ((f79h_eq 0 _ _ _ _).trans (hb h0 rfl rfl (im Bool.false_ne_true (hb e rfl (ret_wn hx) ?_))))
      show some (PV.tup [stP l a' true, rbN x]) = _
      rw [rb_wn hx]
    · obtain ⟨a', ha', rfl, x, hx, e⟩ := ih
      refine Out.yes ha' (.full n) ((f79h_eq 0 _ _ _ _).trans (hb h0 rfl rfl (im Bool.false_ne_true (hb e rfl (ret_wn hx) ?_))))
      show some (PV.tup [stP l a' false, rbN x]) = _
      rw [rb_wn hx]
theorem pass {l : List Tk} {u v : Option PV} {o : PR} (ih : Out l v o) (h : ∀ (a' : Int) (w : Bool) (x : PV) (n : Nod), WN x n → v = some (.tup [stP l a' w, x]) → u = some (.tup [stP l a' w, rbN x])) : Out l u o := by
  rcases o with _ | ⟨n, r⟩
  · obtain ⟨a', n, x, hx, e⟩ := ih
    exact Out.no (a' := a') (.full n) ((h a' true x n hx e).trans (by rw [rb_wn hx]))
  · obtain ⟨a', ha', rfl, x, hx, e⟩ := ih
    exact Out.yes ha' (.full n) ((h a' false x n hx e).trans (by rw [rb_wn hx]))
theorem ff : ¬ (false = true) := Bool.false_ne_true
theorem dlen (l : List Tk) (a : Nat) : (l.drop a).length = l.length - a := List.length_drop
theorem kq {n m : Nat} (h : n = m) : ((n : Int) == (m : Int)) = true := by rw [h]; exact beq_self_eq_true _
theorem kn {n m : Nat} (h : n ≠ m) : ¬ ((n : Int) == (m : Int)) = true := by rw [beq_iff_eq]; omega
theorem lb_wrong (l : List Tk) (k : Nat) (a0 : Int) (c1 c1_1 c1_2 c1_3 : Int) (c1_4 : ByteArray) (c1_5 c1_6 : Int) (c1_7 c1_8 : Bool) (c1_9 c1_10 : Int) (c1_11 c1_12 : Bool) (n : Nod) : lbG l k a0 true c1 c1_1 c1_2 c1_3 c1_4 c1_5 c1_6 c1_7 c1_8 c1_9 c1_10 c1_11 c1_12 n = some (.tup [stP l a0 true, n.pv]) := by
  obtain ⟨kind, op, v, a, b, ch⟩ := n
  exact (f41h.l0b_eq 0 _ _ _ _ _ _ _ _ _ _ _ _ _ _ _ _ _ _ _ _ _ _ _ _ _ _ _ _ _ _ _ _).trans (im ff rfl)
/-- The loop's start, from what a call answered. -/
theorem la_wn (l : List Tk) (k : Nat) (a0 : Int) (w : Bool) {x : PV} {n : Nod} (hx : WN x n) : f41h.l0a 0 (k : Int) l.length (fun i => (tp l).getD i .top) a0 w 0 0 0 0 EM 0 0 false false 0 0 false false ((cel 0 x.cells).toInt) ((cel 1 x.cells).toInt) ((cel 2 x.cells).toInt) ((cel 3 x.cells).toInt) ((cel 4 x.cells).toStr) ((cel 5 x.cells).toInt) ((cel 6 x.cells).toInt) ((cel 7 x.cells).toBool) ((cel 8 x.cells).toBool) ((cel 9 x.cells).toInt) ((cel 10 x.cells).toInt) ((cel 11 x.cells).toBool) ((cel 12 x.cells).toBool) ((cel 13 x.cells).len) ((cel 13 x.cells).at) =
  lbG l k a0 w 0 0 0 0 EM 0 0 false false 0 0 false false n := by
  cases hx with
  | full =>
    obtain ⟨kind, op, v, a, b, ch⟩ := n
    exact lp_ab l k a0 w 0 0 0 0 EM 0 0 false false 0 0 false false kind op v a b ch
  | bare kind op v a b =>
    exact lp_ab l k a0 w 0 0 0 0 EM 0 0 false false 0 0 false false kind op v a b []
theorem all_B {l : List Tk} (hk : Okk l) {F : Nat} (IH : AllF l F) (k a : Nat) (hk6 : k ≤ 6) (ha : a < l.length) (hF : need (.B k) (l.drop a) ≤ F + 1) : Out l (D 41 [stP l (a : Int) false, pp0, .sc (.int .i64 (k : Int))]) (pX fnumP (F + 1) (.B k) (l.drop a)) := by
  have hlen := dlen l a
  rw [pX]
  by_cases h5 : 5 < k
  · rw [if_pos h5]
    refine pass (IH.hS a ha (by simp only [need] at hF ⊢; omega)) fun a' w x n hx e => ?_
    refine (f41h_eq 0 _ _ _ _ _).trans (ip (by rw [decide_eq_true_eq]; omega) (hb e rfl (ret_wn hx) ?_))
    rfl
  · rw [if_neg h5]
    have ih := IH.hB (k + 1) a (by omega) ha (by simp only [need] at hF ⊢; omega)
    have ew : IntKind.i64.wrap ((k : Int) + 1) = ((k + 1 : Nat) : Int) := by rw [w64 (by omega) (by omega)]; omega
    have go : ∀ {a' : Int} {w : Bool} {x : PV} {n : Nod}, WN x n → D 41 [stP l (a : Int) false, pp0, .sc (.int .i64 ((k + 1 : Nat) : Int))] = some (.tup [stP l a' w, x]) → D 41 [stP l (a : Int) false, pp0, .sc (.int .i64 (k : Int))] = lbG l k a' w 0 0 0 0 EM 0 0 false false 0 0 false false n := by
      intro a' w x n hx e
      rw [← ew] at e
      refine (f41h_eq 0 _ _ _ _ _).trans (im (by rw [decide_eq_true_eq]; omega) (hb e rfl (ret_wn hx) ?_))
      exact la_wn l k a' w hx
    generalize hX : pX fnumP F (.B (k + 1)) (l.drop a) = o at ih
    rcases o with _ | ⟨n, r⟩
    · obtain ⟨a', n, x, hx, e⟩ := ih
      refine Out.no (a' := a') (.full n) ((go hx e).trans ?_)
      exact lb_wrong l k a' 0 0 0 0 EM 0 0 false false 0 0 false false n
    · obtain ⟨a', ha', rfl, x, hx, e⟩ := ih
      have hs := (pX_suf fnumP F _ _ _ _ hX).length_le
      have hlen2 := dlen l a'
      refine Out.eq (IH.hL k a' n (by omega) ha' (by simp only [need] at hF ⊢; omega) 0 0 0 0 EM 0 0 false false 0 0 false false) ((go hx e).trans ?_)
      rfl
theorem all_L {l : List Tk} (hk : Okk l) {F : Nat} (IH : AllF l F) (k a : Nat) (n : Nod) (hk5 : k ≤ 5) (ha : a < l.length) (hF : need (.L k n) (l.drop a) ≤ F + 1) (c1 c1_1 c1_2 c1_3 : Int) (c1_4 : ByteArray) (c1_5 c1_6 : Int) (c1_7 c1_8 : Bool) (c1_9 c1_10 : Int) (c1_11 c1_12 : Bool) : Out l (lpB l k a c1 c1_1 c1_2 c1_3 c1_4 c1_5 c1_6 c1_7 c1_8 c1_9 c1_10 c1_11 c1_12 n) (pX fnumP (F + 1) (.L k n) (l.drop a)) := by
  have hl := hk.len
  have hlen := dlen l a
  have hlen2 := dlen l (a + 1)
  obtain ⟨kind, op, v, ra, rb, ch⟩ := n
  have hd := List.drop_eq_getElem_cons ha
  rw [pX.eq_def]
  dsimp only
  rw [hd]
  dsimp only
  have h0 := now_ev ha (by omega) false
  have ew : IntKind.i64.wrap ((k : Int) + 1) = ((k + 1 : Nat) : Int) := by rw [w64 (by omega) (by omega)]; omega
  by_cases h4 : l[a].kind = 4
  · have hl0 := lvls_ev k l[a].text
    by_cases hz : lvls k l[a].text = 0
    · rw [if_neg (fun hh => hh.2 hz), ← hd]
      refine Out.yes ha (.full (.mk kind op v ra rb ch)) ((f41h.l0b_eq 0 _ _ _ _ _ _ _ _ _ _ _ _ _ _ _ _ _ _ _ _ _ _ _ _ _ _ _ _ _ _ _ _).trans (ip rfl (hb h0 rfl rfl (ip (kq h4) (hb h0 rfl rfl (cb hl0 rfl (ip ?_ ?_)))))))
      · rw [hz]; rfl
      · rfl
    · rw [if_pos ⟨h4, hz⟩]
      have ha1 : a + 1 < l.length := hk.fin a ha (by rw [h4]; decide)
      have ih := IH.hB (k + 1) (a + 1) (by omega) ha1 (by simp only [need] at hF ⊢; omega)
      have go : ∀ {a' : Int} {w : Bool} {x : PV} {m : Nod}, WN x m → D 41 [stP l ((a + 1 : Nat) : Int) false, pp0, .sc (.int .i64 ((k + 1 : Nat) : Int))] = some (.tup [stP l a' w, x]) → lpB l k a c1 c1_1 c1_2 c1_3 c1_4 c1_5 c1_6 c1_7 c1_8 c1_9 c1_10 c1_11 c1_12 (.mk kind op v ra rb ch) = lbG l k a' w c1 c1_1 c1_2 c1_3 c1_4 c1_5 c1_6 c1_7 c1_8 c1_9 c1_10 c1_11 c1_12 (binN (lvls k l[a].text) (.mk kind op v ra rb ch) m) := by
        intro a' w x m hx e
        rw [← ew, ← nx ha (by omega)] at e
        refine (f41h.l0b_eq 0 _ _ _ _ _ _ _ _ _ _ _ _ _ _ _ _ _ _ _ _ _ _ _ _ _ _ _ _ _ _ _ _).trans (ip rfl (hb h0 rfl rfl (ip (kq h4) (hb h0 rfl rfl (cb hl0 rfl (im ?_ (hb e rfl (ret_wn hx) ?_)))))))
        · show ¬ ((lvls k l[a].text : Int) == 0) = true
          rw [beq_iff_eq]; omega
        · have := rb_wn hx
          show f41h.l0b 0 (k : Int) l.length (fun i => (tp l).getD i .top) a' w c1 c1_1 c1_2 c1_3 c1_4 c1_5 c1_6 c1_7 c1_8 c1_9 c1_10 c1_11 c1_12 6 (lvls k l[a].text : Nat) 0 0 EM 0 0 false false 0 0 false false [Nod.pv (.mk kind op v ra rb ch), rbN x] = _
          rw [this]; rfl
      generalize hX : pX fnumP F (.B (k + 1)) (l.drop (a + 1)) = o at ih
      rcases o with _ | ⟨m, r⟩
      · obtain ⟨a', m, x, hx, e⟩ := ih
        refine Out.no (a' := a') (.full (binN (lvls k l[a].text) (.mk kind op v ra rb ch) m)) ((go hx e).trans ?_)
        exact lb_wrong l k a' c1 c1_1 c1_2 c1_3 c1_4 c1_5 c1_6 c1_7 c1_8 c1_9 c1_10 c1_11 c1_12 (binN (lvls k l[a].text) (.mk kind op v ra rb ch) m)
      · obtain ⟨a', ha', rfl, x, hx, e⟩ := ih
        have hs := (pX_suf fnumP F _ _ _ _ hX).length_le
        have hlen3 := dlen l a'
        exact Out.eq (IH.hL k a' (binN (lvls k l[a].text) (.mk kind op v ra rb ch) m) hk5 ha' (by simp only [need] at hF ⊢; omega) c1 c1_1 c1_2 c1_3 c1_4 c1_5 c1_6 c1_7 c1_8 c1_9 c1_10 c1_11 c1_12) (go hx e)
  · rw [if_neg (fun hh => h4 hh.1), ← hd]
    refine Out.yes ha (.full (.mk kind op v ra rb ch)) ((f41h.l0b_eq 0 _ _ _ _ _ _ _ _ _ _ _ _ _ _ _ _ _ _ _ _ _ _ _ _ _ _ _ _ _ _ _ _).trans (ip rfl (hb h0 rfl rfl (im (kn h4) ?_))))
    rfl
theorem nxa {l : List Tk} {a : Nat} (h : a < l.length) (hl : l.length ≤ 1000000) : IntKind.i64.wrap ((a : Int) + 1) = ((a + 1 : Nat) : Int) := nx h (by omega)
theorem sgn_y {l : List Tk} {a : Nat} (h : a < l.length) (hl : l.length ≤ 1000000) (w : Bool) (x : List UInt8) (hs : sgT x (l.drop a) = true) : D 133 [stP l (a : Int) w, pp0, .sc (.string (B x))] = some (.tup [stP l ((a + 1 : Nat) : Int) w, .sc (.bool true)]) := by
  have := sgn_ev h hl w x
  rw [if_pos hs, hs] at this
  exact this
theorem sgn_n {l : List Tk} {a : Nat} (h : a < l.length) (hl : l.length ≤ 1000000) (w : Bool) (x : List UInt8) (hs : ¬ sgT x (l.drop a) = true) : D 133 [stP l (a : Int) w, pp0, .sc (.string (B x))] = some (.tup [stP l (a : Int) w, .sc (.bool false)]) := by
  have hs' : sgT x (l.drop a) = false := by simpa using hs
  have := sgn_ev h hl w x
  rw [if_neg hs, hs'] at this
  exact this
theorem wn0 : WN (nilC 0 0 zV zR zR) zN := .bare 0 0 zV zR zR
theorem all_A {l : List Tk} (hk : Okk l) {F : Nat} (IH : AllF l F) (a : Nat) (ha : a < l.length) (hF : need .A (l.drop a) ≤ F + 1) : Out l (D 134 [stP l (a : Int) false, pp0]) (pX fnumP (F + 1) .A (l.drop a)) := by
  have hl : l.length ≤ 1000000 := by have := hk.len; omega
  have hlen := dlen l a
  have hlen2 := dlen l (a + 1)
  have hd := List.drop_eq_getElem_cons ha
  have h0 := now_ev ha hl false
  have ex := nxa ha hl
  rw [pX.eq_def]
  dsimp only
  rw [hd]
  dsimp only
  by_cases h1 : l[a].kind = 1
  · rw [if_pos h1]
    refine Out.yes (hk.fin a ha (by rw [h1]; decide)) (.bare 1 0 ⟨1, l[a].num, EM⟩ zR zR) ((f134h_eq 0 _ _ _ _).trans (hb h0 rfl rfl (im ff (ip (kq h1) ?_))))
    rw [← ex]; rfl
  rw [if_neg h1]
  by_cases h2 : l[a].kind = 2
  · rw [if_pos h2]
    refine Out.yes (hk.fin a ha (by rw [h2]; decide)) (.bare 1 0 ⟨2, 0, B l[a].text⟩ zR zR) ((f134h_eq 0 _ _ _ _).trans (hb h0 rfl rfl (im ff (im (kn h1) (ip (kq h2) ?_)))))
    rw [← ex]; rfl
  rw [if_neg h2]
  by_cases h3 : l[a].kind = 3
  · rw [if_pos h3]
    have ha1 := hk.fin a ha (by rw [h3]; decide)
    refine pass (IH.hW (a + 1) l[a].text (hk.txt a ha) ha1 (by simp only [need] at hF ⊢; omega)) fun a' w x n hx e => ?_
    rw [← ex] at e
    refine (f134h_eq 0 _ _ _ _).trans (hb h0 rfl rfl (im ff (im (kn h1) (im (kn h2) (ip (kq h3) (hb e rfl (ret_wn hx) ?_))))))
    rfl
  rw [if_neg h3, ← hd]
  by_cases h4 : sgT [35, 82, 69, 70] (l.drop a) = true
  · obtain ⟨ha1, ht⟩ := hk.sg ha h4
    rw [if_pos h4]
    refine Out.yes ha1 (.bare 2 0 zV zR zR) ((f134h_eq 0 _ _ _ _).trans (hb h0 rfl rfl (im ff (im (kn h1) (im (kn h2) (im (kn h3) (hb (sgn_y ha hl false _ h4) rfl rfl (ip rfl ?_))))))))
    rfl
  rw [if_neg h4]
  by_cases h5 : sgT [40] (l.drop a) = true
  · obtain ⟨ha1, ht⟩ := hk.sg ha h5
    rw [if_pos h5]
    have ih := IH.hB 1 (a + 1) (by decide) ha1 (by simp only [need] at hF ⊢; omega)
    generalize hX : pX fnumP F (.B 1) (l.drop (a + 1)) = o at ih
    rcases o with _ | ⟨n, r⟩
    · obtain ⟨a', n, x, hx, e⟩ := ih
      have e2 := fail_ev l a' true
      refine Out.no (a' := a') (.full zN) ((f134h_eq 0 _ _ _ _).trans (hb h0 rfl rfl (im ff (im (kn h1) (im (kn h2) (im (kn h3) (hb (sgn_n ha hl false _ h4) rfl rfl (im ff (hb (sgn_y ha hl false _ h5) rfl rfl (ip rfl (hb e rfl (ret_wn hx) (ip rfl (hb e2 rfl (ret_wn wn0) ?_)))))))))))))
      rfl
    · obtain ⟨a', ha', rfl, x, hx, e⟩ := ih
      dsimp only
      by_cases h6 : sgT [41] (l.drop a') = true
      · obtain ⟨ha2, ht2⟩ := hk.sg ha' h6
        rw [if_pos h6, ht2]
        refine Out.yes ha2 (.full n) ((f134h_eq 0 _ _ _ _).trans (hb h0 rfl rfl (im ff (im (kn h1) (im (kn h2) (im (kn h3) (hb (sgn_n ha hl false _ h4) rfl rfl (im ff (hb (sgn_y ha hl false _ h5) rfl rfl (ip rfl (hb e rfl (ret_wn hx) (im ff (hb (sgn_y ha' hl false _ h6) rfl rfl (im ff ?_))))))))))))))
        show some (PV.tup [stP l ((a' + 1 : Nat) : Int) false, rbN x]) = _
        rw [rb_wn hx]
      · rw [if_neg h6]
        have e2 := fail_ev l (a' : Int) false
        refine Out.no (a' := (a' : Int)) (.full zN) ((f134h_eq 0 _ _ _ _).trans (hb h0 rfl rfl (im ff (im (kn h1) (im (kn h2) (im (kn h3) (hb (sgn_n ha hl false _ h4) rfl rfl (im ff (hb (sgn_y ha hl false _ h5) rfl rfl (ip rfl (hb e rfl (ret_wn hx) (im ff (hb (sgn_n ha' hl false _ h6) rfl rfl (ip rfl (hb e2 rfl (ret_wn wn0) ?_)))))))))))))))
        rfl
  · rw [if_neg h5]
    have e2 := fail_ev l (a : Int) false
    refine Out.no (a' := (a : Int)) (.full zN) ((f134h_eq 0 _ _ _ _).trans (hb h0 rfl rfl (im ff (im (kn h1) (im (kn h2) (im (kn h3) (hb (sgn_n ha hl false _ h4) rfl rfl (im ff (hb (sgn_n ha hl false _ h5) rfl rfl (im ff (hb e2 rfl (ret_wn wn0) ?_)))))))))))
    rfl
theorem bEq (w : List UInt8) (y : ByteArray) (z : List UInt8) (h : y = B z) : ((B w).toList == y.toList) = decide (w = z) := by
  rw [h, B_toList, B_toList, Bool.eq_iff_iff, beq_iff_eq, decide_eq_true_iff]
theorem all_W {l : List Tk} (hk : Okk l) {F : Nat} (IH : AllF l F) (a : Nat) (w : List UInt8) (hw : w.length ≤ 1000000) (ha : a < l.length) (hF : need (.W w) (l.drop a) ≤ F + 1) : Out l (D 181 [stP l (a : Int) false, pp0, .sc (.string (B w))]) (pX fnumP (F + 1) (.W w) (l.drop a)) := by
  have hl : l.length ≤ 1000000 := by have := hk.len; omega
  have hlen := dlen l a
  have hlen2 := dlen l (a + 1)
  rw [pX]
  by_cases h1 : sgT [40] (l.drop a) = true
  · obtain ⟨ha1, ht⟩ := hk.sg ha h1
    rw [if_pos h1, ht]
    have hv : Out l (D 207 [stP l ((a + 1 : Nat) : Int) false, pp0, .sc (.string (B w))]) (if sgT [41] (l.drop (a + 1)) = true then some (callN (fnumP w) [], (l.drop (a + 1)).tail) else pX fnumP F (.R (fnumP w) []) (l.drop (a + 1))) := by
      by_cases h2 : sgT [41] (l.drop (a + 1)) = true
      · obtain ⟨ha2, ht2⟩ := hk.sg ha1 h2
        rw [if_pos h2, ht2]
        refine Out.yes ha2 (.bare 7 (fnumP w) zV zR zR) ((f207h_eq 0 _ _ _ _ _).trans (cb (fnum_ev w) rfl (hb (sgn_y ha1 hl false _ h2) rfl rfl (ip rfl ?_))))
        rfl
      · rw [if_neg h2]
        refine Out.eq (IH.hR (a + 1) (fnumP w) [] (Nat.zero_le _) ha1 (by simp only [need] at hF ⊢; omega) 0 0 0 0 EM 0 0 false false 0 0 false false) ((f207h_eq 0 _ _ _ _ _).trans (cb (fnum_ev w) rfl (hb (sgn_n ha1 hl false _ h2) rfl rfl (im ff ?_))))
        exact lr_ab l (a + 1) 0 0 0 0 EM 0 0 false false 0 0 false false (fnumP w)
    refine pass hv fun a' b x n hx e => ?_
    refine (f181h_eq 0 _ _ _ _ _).trans (hb (sgn_y ha hl false _ h1) rfl rfl (ip rfl (hb e rfl (ret_wn hx) ?_)))
    rfl
  rw [if_neg h1]
  have c1 := bEq w (⟨#[84, 82, 85, 69]⟩ : ByteArray) wordL rfl
  have c2 := bEq w (⟨#[70, 65, 76, 83, 69]⟩ : ByteArray) wordF rfl
  have go : ∀ r, (if (decide (w = wordL) || decide (w = wordF)) = true then
      (if decide (w = wordL) = true then some (PV.tup [stP l (a : Int) false, nilC 1 0 ⟨3, 1, EM⟩ zR zR]) else some (PV.tup [stP l (a : Int) false, nilC 1 0 ⟨3, 0, EM⟩ zR zR]))
      else (D 14 [.sc (.string (B w))]).bind fun r4 => if hasSh (.tup [(.agg [(.int .i64), (.int .i64), .bool, .bool]), .bool]) r4 = true then
        (if (!((cel 1 r4.parts).toBool)) = true then
          (D 182 [stP l (a : Int) false, pp0]).bind fun r5 => if (isHand r5 && (false || objsOk fo182 (handObjs r5)) && retOk Tryz.prog 6 [29] (handRet r5)) = true then
            some (.tup [.hp [.iptr (.ptr 67 0 :: [.lst 4 ((hCell 0 0 r5).len) ((hCell 0 0 r5).at), .sc (.int .i64 (((hCell 0 1 r5).toInt))), .sc (.bool (((hCell 0 2 r5).toBool)))])], rbN (handRet r5)]) else none
        else some (.tup [stP l (a : Int) false, nilC 3 0 zV ⟨((cel 0 (cel 0 r4.parts).cells).toInt), ((cel 1 (cel 0 r4.parts).cells).toInt), ((cel 2 (cel 0 r4.parts).cells).toBool), ((cel 3 (cel 0 r4.parts).cells).toBool)⟩ zR])) else none) = r →
      D 181 [stP l (a : Int) false, pp0, .sc (.string (B w))] = r := by
    intro r hr
    refine (f181h_eq 0 _ _ _ _ _).trans (hb (sgn_n ha hl false _ h1) rfl rfl (im ff ?_))
    rw [c1, c2, bO]
    exact hr
  by_cases h2 : w = wordL
  · rw [if_pos h2]
    refine Out.yes ha (.bare 1 0 ⟨3, 1, EM⟩ zR zR) (go _ (ip ?_ (ip (decide_eq_true h2) rfl)))
    rw [decide_eq_true h2]; rfl
  rw [if_neg h2]
  by_cases h3 : w = wordF
  · rw [if_pos h3]
    refine Out.yes ha (.bare 1 0 ⟨3, 0, EM⟩ zR zR) (go _ (ip ?_ (im (by rw [decide_eq_false h2]; exact ff) rfl)))
    rw [decide_eq_true h3, Bool.or_true]
  rw [if_neg h3]
  have hc : ¬ (decide (w = wordL) || decide (w = wordF)) = true := by rw [decide_eq_false h2, decide_eq_false h3]; exact ff
  have hr := ref_ev w hw
  cases hR : refP w with
  | none =>
    rw [hR] at hr
    refine Out.no (a' := (a : Int)) (.full zN) (go _ (im hc (cb hr (refR_sh _) (ip rfl (hb (fail_ev l (a : Int) false) rfl (ret_wn wn0) ?_)))))
    rfl
  | some q =>
    rw [hR] at hr
    refine Out.yes ha (.bare 3 0 zV q zR) (go _ (im hc (cb hr (refR_sh _) (im ff ?_))))
    rfl
theorem all_G {l : List Tk} (hk : Okk l) {F : Nat} (IH : AllF l F) (a : Nat) (ha : a < l.length) (hF : need .G (l.drop a) ≤ F + 1) : Out l (D 234 [stP l (a : Int) false, pp0]) (pX fnumP (F + 1) .G (l.drop a)) := by
  have hl : l.length ≤ 1000000 := by have := hk.len; omega
  have hlen := dlen l a
  have hlen2 := dlen l (a + 1)
  have hd := List.drop_eq_getElem_cons ha
  have h0 := now_ev ha hl false
  have hr0 := ref_ev l[a].text (hk.txt a ha)
  have hj : Out l (f234h.j0a 0 l.length (fun i => (tp l).getD i .top) (a : Int) false 0 0 0 0 EM 0 0 false false 0 0 false false) (pX fnumP F (.B 1) (l.drop a)) := by
    refine pass (IH.hB 1 a (by decide) ha (by simp only [need] at hF ⊢; omega)) fun a' w x n hx e => ?_
    exact (f234h.j0a_eq 0 _ _ _ _ _ _ _ _ _ _ _ _ _ _ _ _ _).trans (hb e rfl (ret_wn hx) rfl)
  rw [pX]
  -- the two conditions as one
  have go : ∀ {o : Option Rf} {r : Option PV}, refP l[a].text = o → (if (((l[a].kind : Int) == 3) && (cel 1 (refR o).parts).toBool) = true then
      (D 133 [stP l (IntKind.i64.wrap ((a : Int) + 1)) false, pp0, .sc (.string (⟨#[58]⟩ : ByteArray))]).bind fun r5 => if (isHand r5 && (false || objsOk fo133 (handObjs r5)) && retOk Tryz.prog 6 [4] (handRet r5)) = true then
        (if (handRet r5).toBool = true then
          (D 42 [.hp [.iptr (.ptr 67 0 :: [.lst 4 ((hCell 0 0 r5).len) ((hCell 0 0 r5).at), .sc (.int .i64 (((hCell 0 1 r5).toInt))), .sc (.bool (((hCell 0 2 r5).toBool)))])], .ptr 0 0]).bind fun r6 => if (isHand r6 && (false || objsOk fo42 (handObjs r6)) && retOk Tryz.prog 6 [70] (handRet r6)) = true then
            (D 14 [.sc (.string (((cel 2 (handRet r6).cells).toStr)))]).bind fun r7 => if hasSh (.tup [(.agg [(.int .i64), (.int .i64), .bool, .bool]), .bool]) r7 = true then
            (D 42 [.hp [.iptr (.ptr 67 0 :: [.lst 4 ((hCell 0 0 r6).len) ((hCell 0 0 r6).at), .sc (.int .i64 (((hCell 0 1 r6).toInt))), .sc (.bool (((hCell 0 2 r6).toBool)))])], .ptr 0 0]).bind fun r8 => if (isHand r8 && (false || objsOk fo42 (handObjs r8)) && retOk Tryz.prog 6 [70] (handRet r8)) = true then
            (Option.bind (α := PV) (if (((cel 0 (handRet r8).cells).toInt) != 3) = true then some (.sc (.bool true)) else some (.sc (.bool (!((cel 1 r7.parts).toBool))))) fun r9 => if r9.toBool = true then
              (D 182 [.hp [.iptr (.ptr 67 0 :: [.lst 4 ((hCell 0 0 r8).len) ((hCell 0 0 r8).at), .sc (.int .i64 (((hCell 0 1 r8).toInt))), .sc (.bool (((hCell 0 2 r8).toBool)))])], .ptr 0 0]).bind fun r10 => if (isHand r10 && (false || objsOk fo182 (handObjs r10)) && retOk Tryz.prog 6 [29] (handRet r10)) = true then
                some (.tup [.hp [.iptr (.ptr 67 0 :: [.lst 4 ((hCell 0 0 r10).len) ((hCell 0 0 r10).at), .sc (.int .i64 (((hCell 0 1 r10).toInt))), .sc (.bool (((hCell 0 2 r10).toBool)))])], rbN (handRet r10)]) else none
            else
              some (.tup [.hp [.iptr (.ptr 67 0 :: [.lst 4 ((hCell 0 0 r8).len) ((hCell 0 0 r8).at), .sc (.int .i64 (IntKind.i64.wrap (((hCell 0 1 r8).toInt) + 1))), .sc (.bool (((hCell 0 2 r8).toBool)))])], nilC 4 0 zV ⟨((cel 0 (cel 0 (refR o).parts).cells).toInt), ((cel 1 (cel 0 (refR o).parts).cells).toInt), ((cel 2 (cel 0 (refR o).parts).cells).toBool), ((cel 3 (cel 0 (refR o).parts).cells).toBool)⟩ ⟨((cel 0 (cel 0 r7.parts).cells).toInt), ((cel 1 (cel 0 r7.parts).cells).toInt), ((cel 2 (cel 0 r7.parts).cells).toBool), ((cel 3 (cel 0 r7.parts).cells).toBool)⟩])) else none else none else none
        else f234h.j0a 0 ((hCell 0 0 r5).len) ((hCell 0 0 r5).at) (IntKind.i64.wrap (((hCell 0 1 r5).toInt) - 1)) ((hCell 0 2 r5).toBool) 0 0 0 0 EM 0 0 false false 0 0 false false) else none
      else f234h.j0a 0 l.length (fun i => (tp l).getD i .top) (a : Int) false 0 0 0 0 EM 0 0 false false 0 0 false false) = r → D 234 [stP l (a : Int) false, pp0] = r := by
    intro o r ho hr
    rw [ho] at hr0
    refine (f234h_eq 0 _ _ _ _).trans (hb h0 rfl rfl (cb hr0 (refR_sh _) (hb h0 rfl rfl ?_)))
    rw [bA]
    exact hr
  have ex := nxa ha hl
  by_cases h3 : l[a].kind = 3
  · have ha1 := hk.fin a ha (by rw [h3]; decide)
    cases hR : refP l[a].text with
    | none =>
      have hn : rngP (l.drop a) = none := by
        rw [hd]; unfold rngP; dsimp only; rw [if_pos h3, hR]
      rw [hn]
      refine Out.eq hj (go hR (im ?_ rfl))
      show ¬ (((l[a].kind : Int) == 3) && false) = true
      rw [Bool.and_false]; exact ff
    | some q =>
      have hc : (((l[a].kind : Int) == 3) && (cel 1 (refR (some q)).parts).toBool) = true := by rw [show ((l[a].kind : Int) == 3) = true from kq h3]; rfl
      by_cases hs : sgT [58] (l.drop (a + 1)) = true
      · obtain ⟨ha2, ht2⟩ := hk.sg ha1 hs
        have hd2 := List.drop_eq_getElem_cons ha2
        have e5 := sgn_y ha1 hl false _ hs
        rw [← ex] at e5
        have h8 := now_ev ha2 hl false
        have hr2 := ref_ev l[a + 1 + 1].text (hk.txt _ ha2)
        have hn : rngP (l.drop a) = some (if l[a + 1 + 1].kind = 3 then (refP l[a + 1 + 1].text).map (fun b => (rangeN q b, l.drop (a + 1 + 1 + 1))) else none) := by
          rw [hd]; unfold rngP; dsimp only; rw [if_pos h3, hR]
          dsimp only
          rw [if_pos hs, ht2, hd2]
        rw [hn]
        dsimp only
        by_cases h33 : l[a + 1 + 1].kind = 3
        · rw [if_pos h33]
          cases hR2 : refP l[a + 1 + 1].text with
          | none =>
            rw [hR2] at hr2
            refine Out.no (a' := ((a + 1 + 1 : Nat) : Int)) (.full zN) (go hR (ip hc (hb e5 rfl rfl (ip rfl (hb h8 rfl rfl (cb hr2 (refR_sh _) (hb h8 rfl rfl ?_)))))))
            rw [bO]
            refine ip ?_ (hb (fail_ev l _ false) rfl (ret_wn wn0) ?_)
            · show (((l[a + 1 + 1].kind : Int) != 3) || true) = true
              rw [Bool.or_true]
            · rfl
          | some p =>
            rw [hR2] at hr2
            refine Out.yes (hk.fin _ ha2 (by rw [h33]; decide)) (.bare 4 0 zV q p) (go hR (ip hc (hb e5 rfl rfl (ip rfl (hb h8 rfl rfl (cb hr2 (refR_sh _) (hb h8 rfl rfl ?_)))))))
            rw [bO]
            refine im ?_ ?_
            · show ¬ (((l[a + 1 + 1].kind : Int) != 3) || false) = true
              rw [h33]; decide
            · rw [← nxa ha2 hl]; rfl
        · rw [if_neg h33]
          refine Out.no (a' := ((a + 1 + 1 : Nat) : Int)) (.full zN) (go hR (ip hc (hb e5 rfl rfl (ip rfl (hb h8 rfl rfl (cb hr2 (refR_sh _) (hb h8 rfl rfl ?_)))))))
          rw [bO]
          refine ip ?_ (hb (fail_ev l _ false) rfl (ret_wn wn0) ?_)
          · show (((l[a + 1 + 1].kind : Int) != 3) || _) = true
            rw [show ((l[a + 1 + 1].kind : Int) != 3) = true by rw [bne_iff_ne]; omega]; rfl
          · rfl
      · have e5 := sgn_n ha1 hl false _ hs
        rw [← ex] at e5
        have hn : rngP (l.drop a) = none := by
          rw [hd]; unfold rngP; dsimp only; rw [if_pos h3, hR]
          dsimp only
          rw [if_neg hs]
        rw [hn]
        refine Out.eq hj (go hR (ip hc (hb e5 rfl rfl (im ff ?_))))
        show f234h.j0a 0 l.length (fun i => (tp l).getD i .top) (IntKind.i64.wrap (IntKind.i64.wrap ((a : Int) + 1) - 1)) false 0 0 0 0 EM 0 0 false false 0 0 false false = _
        rw [ex, show ((a + 1 : Nat) : Int) - 1 = (a : Int) by omega, w64 (by omega) (by omega)]
  · have hn : rngP (l.drop a) = none := by
      rw [hd]; unfold rngP; dsimp only; rw [if_neg h3]
    rw [hn]
    refine Out.eq hj (go rfl (im ?_ rfl))
    rw [show ((l[a].kind : Int) == 3) = false by rw [beq_eq_false_iff_ne]; omega]; exact ff
theorem all_R {l : List Tk} (hk : Okk l) {F : Nat} (IH : AllF l F) (a : Nat) (f : Int) (acc : List Nod) (hac : acc.length ≤ a) (ha : a < l.length) (hF : need (.R f acc) (l.drop a) ≤ F + 1) (c1 c1_1 c1_2 c1_3 : Int) (c1_4 : ByteArray) (c1_5 c1_6 : Int) (c1_7 c1_8 : Bool) (c1_9 c1_10 : Int) (c1_11 c1_12 : Bool) : Out l (lpR l a c1 c1_1 c1_2 c1_3 c1_4 c1_5 c1_6 c1_7 c1_8 c1_9 c1_10 c1_11 c1_12 f acc) (pX fnumP (F + 1) (.R f acc) (l.drop a)) := by
  have hll := hk.len
  have hl : l.length ≤ 1000000 := by omega
  have hlen := dlen l a
  rw [pX]
  have ih := IH.hG a ha (by simp only [need] at hF ⊢; omega)
  have hsz : ∀ x : PV, ((pvs acc).length + ([x] : List PV).length) * 120 ≤ 140737488355328 ∧ (pvs acc).length + ([x] : List PV).length ≤ 140737488355328 := by
    intro x
    rw [pvs_len]
    simp only [List.length_cons, List.length_nil]
    omega
  generalize hX : pX fnumP F .G (l.drop a) = o at ih
  rcases o with _ | ⟨n, r⟩
  · obtain ⟨a', n, x, hx, e⟩ := ih
    refine Out.no (a' := a') (.bare 0 0 zV zR zR) ((f207h.l0b_eq 0 _ _ _ _ _ _ _ _ _ _ _ _ _ _ _ _ _ _ _ _ _ _ _ _ _ _ _ _ _ _ _).trans (hb e rfl (ret_wn hx) (ip (hsz _) (ip rfl ?_))))
    rfl
  · obtain ⟨a', ha', rfl, x, hx, e⟩ := ih
    dsimp only
    have hs := (pX_suf fnumP F _ _ _ _ hX).length_le
    have hlen3 := dlen l a'
    have hx2 := rb_wn hx
    by_cases h1 : sgT [41] (l.drop a') = true
    · obtain ⟨ha1, ht⟩ := hk.sg ha' h1
      rw [if_pos h1, ht]
      refine Out.yes ha1 (.full (callN f (acc ++ [n]))) ((f207h.l0b_eq 0 _ _ _ _ _ _ _ _ _ _ _ _ _ _ _ _ _ _ _ _ _ _ _ _ _ _ _ _ _ _ _).trans (hb e rfl (ret_wn hx) (ip (hsz _) (im ff (hb (sgn_y ha' hl false _ h1) rfl rfl (ip rfl ?_))))))
      show some (PV.tup [stP l ((a' + 1 : Nat) : Int) false, .agg [.sc (.int .i64 7), .sc (.int .i64 f), .sc (.int .i64 0), .sc (.int .i64 0), .sc (.string EM), .sc (.int .i64 0), .sc (.int .i64 0), .sc (.bool false), .sc (.bool false), .sc (.int .i64 0), .sc (.int .i64 0), .sc (.bool false), .sc (.bool false), frozen 14 (pvs acc ++ [rbN x])]]) = some (PV.tup [stP l ((a' + 1 : Nat) : Int) false, .agg [.sc (.int .i64 7), .sc (.int .i64 f), .sc (.int .i64 0), .sc (.int .i64 0), .sc (.string EM), .sc (.int .i64 0), .sc (.int .i64 0), .sc (.bool false), .sc (.bool false), .sc (.int .i64 0), .sc (.int .i64 0), .sc (.bool false), .sc (.bool false), frozen 14 (pvs (acc ++ [n]))]])
      rw [hx2, pvs_app]; rfl
    · rw [if_neg h1]
      by_cases h2 : sgT [44] (l.drop a') = true
      · obtain ⟨ha1, ht⟩ := hk.sg ha' h2
        rw [if_pos h2, ht]
        have hlen4 := dlen l (a' + 1)
        refine Out.eq (IH.hR (a' + 1) f (acc ++ [n]) (by rw [List.length_append]; simp only [List.length_cons, List.length_nil]; omega) ha1 (by simp only [need] at hF ⊢; omega) c1 c1_1 c1_2 c1_3 c1_4 c1_5 c1_6 c1_7 c1_8 c1_9 c1_10 c1_11 c1_12) ((f207h.l0b_eq 0 _ _ _ _ _ _ _ _ _ _ _ _ _ _ _ _ _ _ _ _ _ _ _ _ _ _ _ _ _ _ _).trans (hb e rfl (ret_wn hx) (ip (hsz _) (im ff (hb (sgn_n ha' hl false _ h1) rfl rfl (im ff (hb (sgn_y ha' hl false _ h2) rfl rfl (im ff ?_))))))))
        show f207h.l0b 0 l.length (fun i => (tp l).getD i .top) ((a' + 1 : Nat) : Int) false c1 c1_1 c1_2 c1_3 c1_4 c1_5 c1_6 c1_7 c1_8 c1_9 c1_10 c1_11 c1_12 7 f 0 0 EM 0 0 false false 0 0 false false (pvs acc ++ [rbN x]) = f207h.l0b 0 l.length (fun i => (tp l).getD i .top) ((a' + 1 : Nat) : Int) false c1 c1_1 c1_2 c1_3 c1_4 c1_5 c1_6 c1_7 c1_8 c1_9 c1_10 c1_11 c1_12 7 f 0 0 EM 0 0 false false 0 0 false false (pvs (acc ++ [n]))
        rw [hx2, pvs_app]; rfl
      · rw [if_neg h2]
        refine Out.no (a' := (a' : Int)) (.full zN) ((f207h.l0b_eq 0 _ _ _ _ _ _ _ _ _ _ _ _ _ _ _ _ _ _ _ _ _ _ _ _ _ _ _ _ _ _ _).trans (hb e rfl (ret_wn hx) (ip (hsz _) (im ff (hb (sgn_n ha' hl false _ h1) rfl rfl (im ff (hb (sgn_n ha' hl false _ h2) rfl rfl (ip rfl (hb (fail_ev l _ false) rfl (ret_wn wn0) ?_)))))))))
        rfl
theorem all_F {l : List Tk} (hk : Okk l) : ∀ F, AllF l F
  | 0 => ⟨fun k a h6 ha hF => by simp only [need] at hF; omega, fun k a n h5 ha hF => by simp only [need] at hF; omega, fun a ha hF => by simp only [need] at hF; omega, fun a ha hF => by simp only [need] at hF; omega, fun a w hw ha hF => by simp only [need] at hF; omega, fun a f acc hac ha hF => by simp only [need] at hF; omega, fun a ha hF => by simp only [need] at hF; omega⟩
  | F + 1 => ⟨all_B hk (all_F hk F), all_L hk (all_F hk F), all_S hk (all_F hk F), all_A hk (all_F hk F), all_W hk (all_F hk F), all_R hk (all_F hk F), all_G hk (all_F hk F)⟩
end Go.Den.ES
/- Parse, by the program. -/
set_option linter.unusedVariables false
set_option linter.unusedSimpArgs false
set_option maxRecDepth 100000
namespace Go.Den.ES
open Go Go.Proofs
theorem okk_of {s : List UInt8} {l : List Tk} (hs : s.length ≤ 1000) (h : lexL 0 s = .inr l) : Okk l := by
  obtain ⟨h1, h2, h3, h4, _⟩ := lex_okk s.length 0 s l (Nat.le_refl _) (by omega) h
  exact ⟨by omega, h4, fun i hi => (h1 _ (List.getElem_mem hi)).1⟩
/-- So much is enough. -/
theorem need_enough {l : List Tk} (hk : Okk l) (hl : 0 < l.length) {F : Nat} {x : Nod × List Tk} (h : pX fnumP F (.B 1) l = some x) : pX fnumP (need (.B 1) l) (.B 1) l = some x := by
  have h2 := pX_more fnumP F (max F (need (.B 1) l)) _ _ _ (Nat.le_max_left _ _) h
  have o1 := (all_F hk (need (.B 1) l)).hB 1 0 (by decide) hl (by rw [List.drop_zero]; exact Nat.le_refl _)
  have o2 := (all_F hk (max F (need (.B 1) l))).hB 1 0 (by decide) hl (by rw [List.drop_zero]; exact Nat.le_max_right _ _)
  rw [List.drop_zero] at o1 o2
  rw [h2] at o2
  cases hN : pX fnumP (need (.B 1) l) (.B 1) l with
  | none =>
    rw [hN] at o1
    obtain ⟨a1, n1, x1, _, e1⟩ := o1
    obtain ⟨a2, _, _, x2, _, e2⟩ := o2
    rw [e1] at e2
    cases e2
  | some y => rw [← h2]; exact (pX_more fnumP _ (max F (need (.B 1) l)) _ _ _ (Nat.le_max_right _ _) hN).symm
def parV (r : Option Nod × Int) : PV := match r.1 with
  | some n => .tup [n.pv, .sc (.int .i64 r.2)]
  | none => .tup [nilC 0 0 zV zR zR, .sc (.int .i64 r.2)]
theorem prs_ev (s : List UInt8) : D 12 [.sc (.string (B s))] = some (parV (parE s)) := by
  rw [f12_eq 0]
  have hx := lex_ev s
  unfold lexS at hx
  unfold parE
  by_cases h200 : s.length ≤ 200
  · rw [if_pos h200] at hx ⊢
    cases hL : lexL 0 s with
    | inl e =>
      rw [hL] at hx
      exact cb hx rfl (ip rfl rfl)
    | inr l =>
      rw [hL] at hx
      dsimp only
      have hk := okk_of (by omega) hL
      obtain ⟨h1, h2, h3, h4, _⟩ := lex_okk s.length 0 s l (Nat.le_refl _) (by omega) hL
      have hl : 0 < l.length := List.length_pos_iff.2 h3
      have o1 := (all_F hk (need (.B 1) l)).hB 1 0 (by decide) hl (by rw [List.drop_zero]; exact Nat.le_refl _)
      rw [List.drop_zero] at o1
      refine cb hx (by simp [lexR, hasSh, hasShL, frozen, PV.isLst, PV.isInt, okR]) (im (by show ¬ (((0 : Int) != 0) = true); decide) ?_)
      have fix : ∀ {u : Option PV}, D 41 [stP l ((0 : Nat) : Int) false, pp0, .sc (.int .i64 ((1 : Nat) : Int))] = u → D 41 [.hp [.iptr (.ptr 67 0 :: [.lst 4 ((cel 0 (lexR [] (.inr l)).parts).len) ((cel 0 (lexR [] (.inr l)).parts).at), .sc (.int .i64 0), .sc (.bool false)])], .ptr 0 0, .sc (.int .i64 1)] = u := by
        intro u hu
        rw [← hu]
        show D _ [.hp [.iptr (.ptr 67 0 :: [.lst 4 (tp ([] ++ l)).length (fun i => (tp ([] ++ l)).getD i .top), .sc (.int .i64 0), .sc (.bool false)])], .ptr 0 0, .sc (.int .i64 1)] = _
        rw [List.nil_append, tp_len]; rfl
      cases hX : pX fnumP (need (.B 1) l) (.B 1) l with
      | none =>
        rw [hX] at o1
        obtain ⟨a', n, x, hw, e⟩ := o1
        exact hb (fix e) rfl (ret_wn hw) (ip rfl rfl)
      | some nr =>
        obtain ⟨n, r⟩ := nr
        rw [hX] at o1
        obtain ⟨a', ha', rfl, x, hw, e⟩ := o1
        have hok := pX_ok fnumP _ _ _ _ _ h1 (by omega) hX (show l.length ≤ 1000000 by omega)
        rw [List.drop_eq_getElem_cons ha']
        dsimp only
        have h0 := now_ev ha' (by omega) false
        refine hb (fix e) rfl (ret_wn hw) (im ff (hb h0 rfl rfl ?_))
        by_cases h5 : l[a'].kind = 5
        · rw [if_pos h5]
          refine im (by show ¬ (((l[a'].kind : Nat) : Int) != 5) = true; rw [h5]; decide) ?_
          have hr := right_ev n.count n (Nat.le_refl _) hok
          have hlen6 : (texN n).length ≤ 200 := by
            have h2 : lenK 1 n + sl (l.drop a') ≤ sl l := pX_len _ _ _ _ _ hX (by decide)
            have h3 : sl l ≤ s.length := lex_src s.length 0 s l (Nat.le_refl _) hL
            rw [len_1] at h2
            omega
          have hrb := rb_wn hw
          rw [← hrb] at hr
          refine cb hr rfl ?_
          by_cases hrt : n.rightN = true
          · rw [if_pos hrt]
            refine im (by rw [hrt]; decide) ?_
            have hd0 : n.deep ≤ 1000000000000 := by have := deep_le n; have := count_tex hrt; omega
            have hd := ndeep_ev n.count n (Nat.le_refl _) hok hd0
            rw [← hrb] at hd
            refine cb hd rfl ?_
            by_cases h12 : n.deep ≤ 12
            · rw [if_pos h12]
              refine im (by show ¬ decide (((n.deep : Nat) : Int) > 12) = true; rw [decide_eq_true_eq]; omega) ?_
              show some (PV.tup [rbN x, .sc (.int .i64 0)]) = _
              rw [hrb]; rfl
            · rw [if_neg h12]
              exact ip (by show decide (((n.deep : Nat) : Int) > 12) = true; rw [decide_eq_true_eq]; omega) rfl
          · rw [if_neg hrt]
            have : n.rightN = false := by simpa using hrt
            rw [this]
            exact ip rfl rfl
        · rw [if_neg h5]
          exact ip (by show (((l[a'].kind : Nat) : Int) != 5) = true; rw [bne_iff_ne]; omega) rfl
  · rw [if_neg h200] at hx ⊢
    exact cb hx rfl (ip rfl rfl)
end Go.Den.ES
/- What is parsed of texts that are known; alive. -/
set_option linter.unusedVariables false
set_option linter.unusedSimpArgs false
set_option maxRecDepth 100000
namespace Go.Den.ES
open Go Go.Proofs
/-- The lexer, with a measure. -/
def lexF : Nat → Nat → List UInt8 → Nat ⊕ List Tk
  | _, a, [] => .inr [⟨5, a, [], 0⟩]
  | 0, a, _ :: _ => .inl a
  | F + 1, a, b :: l => if b = 32 then lexF F (a + 1) l else match nextL (b :: l) with
    | none => .inl a
    | some (t, n) => match lexF F (a + n) ((b :: l).drop n) with
      | .inl e => .inl e
      | .inr r => .inr (t.put a :: r)
theorem lexF_eq : ∀ (F a : Nat) (s : List UInt8), s.length ≤ F → lexF F a s = lexL a s
  | _, a, [], _ => by rw [lexL_nil]; unfold lexF; rfl
  | 0, a, b :: s, h => by simp at h
  | F + 1, a, b :: s, h => by
    rw [lexF]
    by_cases hb : b = 32
    · rw [if_pos hb, lexF_eq F _ _ (by simp at h; omega), hb, lexL_blank]
    · rw [if_neg hb]
      cases hn : nextL (b :: s) with
      | none => rw [lexL_bad hb hn]
      | some r =>
        obtain ⟨t, n⟩ := r
        obtain ⟨n0, n1⟩ := next_le hn
        rw [lexL_tok hb hn]
        dsimp only
        have hlen : ((b :: s).drop n).length = (b :: s).length - n := List.length_drop
        rw [lexF_eq F _ _ (by rw [hlen]; simp at h ⊢; omega)]
        all_goals rfl
def parF (s : List UInt8) : Option Nod × Int := if s.length ≤ 200 then (match lexF s.length 0 s with
    | .inl _ => (none, 1)
    | .inr l => match pX fnumP (need (.B 1) l) (.B 1) l with
      | some (n, e :: _) => if e.kind = 5 then (if n.rightN = true then (if n.deep ≤ 12 then (some n, 0) else (none, 4)) else (none, 6)) else (none, 1)
      | _ => (none, 1)) else (none, 3)
theorem parE_F (s : List UInt8) : parE s = parF s := by
  unfold parE parF
  rw [lexF_eq _ _ _ (Nat.le_refl _)]
  all_goals rfl
theorem prsF (s : List UInt8) : D 12 [.sc (.string (B s))] = some (parV (parF s)) := by rw [prs_ev, parE_F]
end Go.Den.ES
/- Brackets around formulas: the plain part. -/
set_option linter.unusedVariables false
set_option linter.unusedSimpArgs false
namespace Go.Den
open Go Go.Proofs
theorem pX_kind (fnum : List UInt8 → Int) : ∀ (F : Nat) (g : Go1) (ts : List Tk) (n : Nod) (r : List Tk), g ≠ .G → (∀ k m, g = .L k m → m.kind ≠ 4) → pX fnum F g ts = some (n, r) → n.kind ≠ 4
  | 0, g, ts, n, r, _, _, h => by unfold pX at h; cases h
  | F + 1, .B level, ts, n, r, _, _, h => by
    have IH := pX_kind fnum F
    rw [pX] at h
    split at h
    · exact IH _ _ _ _ (by simp) (by intro k m e; cases e) h
    · split at h
      · cases h
      · rename_i m r' h'
        have := IH _ _ _ _ (by simp) (by intro k m e; cases e) h'
        exact IH _ _ _ _ (by simp) (by intro k m e; cases e; exact this) h
  | F + 1, .L level m, ts, n, r, _, hm, h => by
    have IH := pX_kind fnum F
    rw [pX.eq_def] at h
    dsimp only at h
    split at h
    · cases h
    · split at h
      · split at h
        · cases h
        · exact IH _ _ _ _ (by simp) (by intro k m e; cases e; exact (show ¬ (6 : Int) = 4 by decide)) h
      · cases h; exact hm _ _ rfl
  | F + 1, .S, ts, n, r, _, _, h => by
    have IH := pX_kind fnum F
    rw [pX] at h
    split at h
    · obtain ⟨x, h', e⟩ := Option.map_eq_some_iff.1 h
      cases e
      exact (show ¬ (5 : Int) = 4 by decide)
    · exact IH _ _ _ _ (by simp) (by intro k m e; cases e) h
  | F + 1, .A, ts, n, r, _, _, h => by
    have IH := pX_kind fnum F
    rw [pX.eq_def] at h
    dsimp only at h
    split at h
    · cases h
    · split at h
      · cases h; exact (show ¬ (1 : Int) = 4 by decide)
      split at h
      · cases h; exact (show ¬ (1 : Int) = 4 by decide)
      split at h
      · exact IH _ _ _ _ (by simp) (by intro k m e; cases e) h
      split at h
      · cases h; exact (show ¬ (2 : Int) = 4 by decide)
      split at h
      · split at h
        · cases h
        · rename_i m u h'
          split at h
          · cases h
            exact IH _ _ _ _ (by simp) (by intro k m e; cases e) h'
          · cases h
      · cases h
  | F + 1, .W w, ts, n, r, _, _, h => by
    have IH := pX_kind fnum F
    rw [pX] at h
    split at h
    · split at h
      · cases h
        exact (show ¬ (7 : Int) = 4 by decide)
      · exact IH _ _ _ _ (by simp) (by intro k m e; cases e) h
    split at h
    · cases h; exact (show ¬ (1 : Int) = 4 by decide)
    split at h
    · cases h; exact (show ¬ (1 : Int) = 4 by decide)
    obtain ⟨x, _, e⟩ := Option.map_eq_some_iff.1 h
    cases e
    exact (show ¬ (3 : Int) = 4 by decide)
  | F + 1, .R f l, ts, n, r, _, _, h => by
    have IH := pX_kind fnum F
    rw [pX] at h
    split at h
    · cases h
    · split at h
      · cases h
        exact (show ¬ (7 : Int) = 4 by decide)
      split at h
      · exact IH _ _ _ _ (by simp) (by intro k m e; cases e) h
      · cases h
  | F + 1, .G, ts, n, r, hg, _, h => absurd rfl hg
theorem all_kind {us : List Tk} {n : Nod} (h : allP fnumP us n) : n.kind ≠ 4 := by
  obtain ⟨F, e, h1, _⟩ := h
  exact pX_kind fnumP F _ _ _ _ (by simp) (by intro k m e; cases e) h1
end Go.Den
/- alive, of the canon's laws; the parse of a text, again. -/
set_option linter.unusedVariables false
set_option linter.unusedSimpArgs false
set_option maxRecDepth 100000
namespace Go.Den.ES
open Go Go.Proofs
def nod24 : Nod := binN 6 (binN 3 (binN 1 (litN ⟨1, 10000, ⟨#[]⟩⟩) (litN ⟨1, 20000, ⟨#[]⟩⟩)) (negN (binN 2 (oneN ⟨0, 0, true, false⟩) (binN 2 (oneN ⟨1, 1, false, false⟩) (litN ⟨1, 30000, ⟨#[]⟩⟩))))) (callN 67 [litN ⟨1, 40000, ⟨#[]⟩⟩, rangeN ⟨2, 2, false, true⟩ ⟨3, 3, false, false⟩])
theorem nod24_r : nod24.rightN = true := by kernel_rfl
theorem nod24_t : texN nod24 = [40, 49, 43, 50, 41, 42, 45, 40, 65, 36, 49, 45, 40, 66, 50, 45, 51, 41, 41, 38, 83, 85, 77, 40, 52, 44, 36, 67, 51, 58, 68, 52, 41] := by kernel_rfl
theorem ok_num {x : Int} (h : 0 ≤ x ∧ x ≤ 1000000) : (litN ⟨1, x, ⟨#[]⟩⟩).ok := ok_lit 1 x ⟨#[]⟩ (by decide) (by unfold I64; omega)
theorem nod24_o : nod24.ok := ok_bin (ok_bin (ok_bin (ok_num (by omega)) (ok_num (by omega))) (ok_neg (ok_bin (ok_0 _ _ _ _) (ok_bin (ok_0 _ _ _ _) (ok_num (by omega)))))) (ok_call ⟨ok_num (by omega), ok_0 _ _ _ _, trivial⟩ (by decide))
theorem nod24_p : parF [32, 40, 49, 43, 40, 50, 41, 41, 42, 45, 40, 65, 36, 49, 45, 40, 66, 50, 45, 51, 41, 41, 32, 38, 32, 83, 85, 77, 40, 32, 40, 52, 41, 32, 44, 32, 36, 67, 51, 58, 68, 52, 32, 41] = (some nod24, 0) := by kernel_rfl
theorem ob2 {u : Option PV} {b : Bool} {F : PV → Option PV} {r : Option PV} (h : u = some (.sc (.bool b))) (h2 : F (.sc (.bool b)) = r) : Option.bind u F = r := by subst h; exact h2
theorem alive24_ev : D 21 [] = some (.sc (.bool true)) := by
  rw [f21_eq 0]
  have e1 := prsF [32, 40, 49, 43, 40, 50, 41, 41, 42, 45, 40, 65, 36, 49, 45, 40, 66, 50, 45, 51, 41, 41, 32, 38, 32, 83, 85, 77, 40, 32, 40, 52, 41, 32, 44, 32, 36, 67, 51, 58, 68, 52, 32, 41]
  rw [nod24_p] at e1
  have e2 := ctext_ev nod24 nod24_o (by rw [nod24_t]; decide)
  rw [if_pos nod24_r, nod24_t, ← rb_pv] at e2
  have e3 := cref_ev ⟨9, 27, false, true⟩
  have e4 : refD ⟨9, 27, false, true⟩ = [36, 65, 66, 49, 48] := by kernel_rfl
  rw [e4] at e3
  have q : ∀ l : List UInt8, ((B l).toList == (⟨l.toArray⟩ : ByteArray).toList) = true := fun l => beq_self_eq_true _
  refine cb e1 rfl (ob2 (b := true) (ip rfl (ob2 (b := true) (cb e2 rfl ?_) rfl)) (ob2 (b := true) (ip rfl (ob2 (b := true) (cb e3 rfl ?_) rfl)) rfl))
  · exact congrArg (fun z => some (PV.sc (.bool z))) (q [40, 49, 43, 50, 41, 42, 45, 40, 65, 36, 49, 45, 40, 66, 50, 45, 51, 41, 41, 38, 83, 85, 77, 40, 52, 44, 36, 67, 51, 58, 68, 52, 41])
  · exact congrArg (fun z => some (PV.sc (.bool z))) (q [36, 65, 66, 49, 48])
theorem parV_sh (r : Option Nod × Int) : hasSh (.tup [shN, (.int .i64)]) (parV r) = true := by
  obtain ⟨o, c⟩ := r
  cases o with
  | none => rfl
  | some n =>
    have := sh_pv n
    show (hasSh shN n.pv && (true && true)) = true
    rw [this]; rfl
theorem parE_none {s : List UInt8} {c : Int} (h : parE s = (none, c)) : c ≠ 0 := by
  unfold parE at h
  repeat' split at h
  all_goals (first | cases h | skip)
  all_goals decide
/-- All tokens: the tree, if it is right and not too deep. -/
theorem parE_all {s : List UInt8} {us : List Tk} {n : Nod} (hl : s.length ≤ 200) (hL : lexL 0 s = .inr us) (ha : allP fnumP us n) (hr : n.rightN = true) (hd : n.deep ≤ 12) : parE s = (some n, 0) := by
  obtain ⟨F, e, hF, he⟩ := ha
  have hk := okk_of (by omega) hL
  have h0 : 0 < us.length := by
    obtain ⟨_, _, h3, _⟩ := lex_okk s.length 0 s us (Nat.le_refl _) (by omega) hL
    exact List.length_pos_iff.2 h3
  have := need_enough hk h0 hF
  unfold parE
  rw [if_pos hl, hL]
  dsimp only
  rw [this]
  dsimp only
  rw [if_pos he, if_pos hr, if_pos hd]
theorem parE_cases (s : List UInt8) : (∃ c, parE s = (none, c) ∧ c ≠ 0) ∨ (∃ n, parE s = (some n, 0)) := by
  rcases h : parE s with ⟨o, c⟩
  cases o with
  | none => exact .inl ⟨c, rfl, parE_none h⟩
  | some n => exact .inr ⟨n, by rw [(parE_some h).1]⟩
theorem parE_ok {s : List UInt8} {n : Nod} {c : Int} (h : parE s = (some n, c)) : n.ok := by
  obtain ⟨_, hl, _, _, us, hL, F, e, h1, _⟩ := parE_some h
  obtain ⟨k1, k2, _⟩ := lex_okk s.length 0 s us (Nat.le_refl _) (by omega) hL
  exact pX_ok fnumP F _ _ _ _ k1 (by omega) h1 (show us.length ≤ 1000000 by omega)
end Go.Den.ES
/- Trees: how the reference counts, lists and compares them. -/
set_option linter.unusedVariables false
set_option linter.unusedSimpArgs false
set_option maxRecDepth 100000
namespace Go.Den.ES
open Go Go.Proofs
theorem frozen_len (k : Nat) (xs : List PV) : (frozen k xs).len = xs.length := rfl
theorem frozen_at (k : Nat) (xs : List PV) : (frozen k xs).at = fun i => xs.getD i .top := rfl
theorem frozen_sh (k : Nat) (xs : List PV) : hasSh (.lst k) (frozen k xs) = true := by simp [hasSh, frozen, PV.isLst]
theorem range_at (xs : List PV) : (List.range xs.length).map (fun i => xs.getD i .top) = xs := by
  apply List.ext_getElem
  · simp
  · intro i h1 h2; simp [h2]
theorem at_i {l : List Nod} {i : Nat} (h : i < l.length) : (pvs l).getD ((i : Int).toNat) .top = l[i].pv := by
  rw [Int.toNat_natCast]
  exact pvs_get h
theorem next_i {i : Nat} (h : i < 4611686018427387904) : IntKind.i64.wrap ((i : Int) + 1) = ((i + 1 : Nat) : Int) := by
  rw [w64 (by omega) (by omega)]; omega
/-- All nodes, in order. -/
theorem list_ev : ∀ (c : Nat) (n : Nod), n.count ≤ c → n.count ≤ 1000000 → D 51 [n.pv] = some (frozen 14 (pvs n.list))
  | 0, .mk _ _ _ _ _ l, h, _ => by rw [Nod.count] at h; omega
  | c + 1, .mk kind op v a b l, h, hc => by
    rw [Nod.count] at h hc
    simp only [Nod.pv, frozen]
    rw [f51_eq 0]
    refine ip (by simp) ?_
    have loop : ∀ (j i : Nat) (out : List PV), l.length - i = j → i ≤ l.length → out.length + counts (l.drop i) ≤ 1000001 → f51.l0a 0 (i : Int) kind op v.kind v.num v.text a.row a.col a.hr a.hc b.row b.col b.hr b.hc (pvs l).length (fun i => (pvs l).getD i .top) out = some (frozen 14 (out ++ pvs (lists (l.drop i)))) := by
      intro j
      induction j with
      | zero =>
        intro i out hj hi ho
        have hpl := pvs_len l
        rw [f51.l0a_eq]
        have : i = l.length := by omega
        subst this
        refine im (fun hh => by have := of_decide_eq_true hh; omega) ?_
        rw [List.drop_length, lists, pvs, List.append_nil]
      | succ j ih =>
        intro i out hj hi ho
        have hi' : i < l.length := by omega
        have hlen := len_counts l
        rw [drop_cons hi', counts] at ho
        have hpl := pvs_len l
        rw [f51.l0a_eq]
        refine ip (decide_eq_true (by omega)) (ip (by omega) (ip (by omega) (ip (by rw [at_i hi']; exact sh_pv _) ?_)))
        rw [at_i hi']
        have hle := count_mem (List.getElem_mem hi')
        have IH := list_ev c l[i] (by omega) (by omega)
        refine Go.Den.sb (by rw [← rb_pv] at IH; exact IH) (ip (frozen_sh _ _) ?_)
        rw [frozen_len, frozen_at, range_at]
        have hl : (pvs l[i].list).length = l[i].count := by rw [pvs_len, list_len]
        refine ip (by rw [hl]; constructor <;> omega) ?_
        rw [next_i (by omega)]
        have h5 := ih (i + 1) (out ++ pvs l[i].list) (by omega) (by omega) (by rw [List.length_append, hl]; omega)
        refine h5.trans ?_
        rw [drop_cons hi', lists, pvs_app, List.append_assoc]
    have := loop l.length 0 [Nod.pv (.mk kind op v a b l)] (by omega) (Nat.zero_le _) (by rw [List.drop_zero]; simp; omega)
    simp only [Nod.pv, frozen] at this
    refine this.trans ?_
    rw [Nod.list, pvs, List.drop_zero]
    rfl
theorem same_ev (n : Nod) (hc : n.count ≤ 1000000) : D 16 [n.pv, n.pv] = some (.sc (.bool true)) := by
  have hl := list_ev n.count n (Nat.le_refl _) hc
  have hlen := list_len n
  have hpl := pvs_len n.list
  have loop : ∀ (j i : Nat), n.list.length - i = j → i ≤ n.list.length → f16.l0a 0 (pvs n.list).length (fun i => (pvs n.list).getD i .top) (pvs n.list).length (fun i => (pvs n.list).getD i .top) (i : Int) = some (.sc (.bool true)) := by
    intro j
    induction j with
    | zero =>
      intro i hj hi
      rw [f16.l0a_eq]
      exact im (fun hh => by have := of_decide_eq_true hh; omega) rfl
    | succ j ih =>
      intro i hj hi
      have hi' : i < n.list.length := by omega
      have h0 : 0 ≤ (i : Int) := by omega
      have h1 : (i : Int) < ((pvs n.list).length : Int) := by omega
      have hs : hasSh shN ((pvs n.list).getD ((i : Int).toNat) .top) = true := by rw [at_i hi']; exact sh_pv _
      have hi2 := ih (i + 1) (by omega) (by omega)
      rw [f16.l0a_eq]
      simp only [if_pos h0, if_pos h1, if_pos hs, bne_self_eq_false, beq_self_eq_true, Bool.and_true, Bool.not_true, Option.bind_some, PV.toBool, Bool.false_eq_true, if_false, decide_eq_true h1, if_true]
      rw [next_i (by omega)]
      exact hi2
  have h := loop n.list.length 0 (by omega) (Nat.zero_le _)
  cases n with
  | mk kind op v a b l =>
    simp only [Nod.pv, frozen] at hl ⊢
    rw [f16_eq 0]
    exact Go.Den.sb hl (ip (frozen_sh _ _) (Go.Den.sb hl (ip (frozen_sh _ _) (im (by simp) h))))
end Go.Den.ES
/- What the cells of the laws' arguments are. -/
set_option linter.unusedVariables false
set_option maxRecDepth 100000
namespace Go.Den.ES
open Go Go.Proofs
-- CanonShort: function 8, types [9]
theorem on9 (x : PV) : ofCells Tryz.prog 9 [x] = x := by unfold ofCells; rw [Tryz.underlying9]; rfl
theorem of9 {xs : List PV} (h : Ty Tryz.prog 9 xs) : ∃ (a : ByteArray), xs = [.sc (.string a)] ∧ a.size ≤ 140737488351232 := by
  exact ty_str h Tryz.underlying9
end Go.Den.ES
/- What is parsed is told in no more bytes: the law. -/
set_option linter.unusedVariables false
set_option linter.unusedSimpArgs false
set_option maxRecDepth 100000
namespace Go.Den.ES
open Go Go.Proofs
theorem al24 : ((D 21 []).bind fun r8 => if hasSh .bool r8 = true then some (PV.sc (.bool r8.toBool)) else none) = some (PV.sc (.bool true)) := cb alive24_ev rfl rfl
theorem same_rb {n m : Nod} (h : n = m) (hc : m.count ≤ 1000000) : D 16 [rbN n.pv, rbN m.pv] = some (.sc (.bool true)) := by
  rw [h, rb_pv]; exact same_ev m hc
theorem canonShort (s : List UInt8) : D 8 [.sc (.string (B s))] = some (.sc (.bool true)) := by
  rw [f8_eq 0]
  by_cases hl : s.length ≤ 300
  · refine im (by rw [decide_eq_true_eq, B_size]; omega) ?_
    have hs := prs_ev s
    rcases parE_cases s with ⟨c, hc, hc0⟩ | ⟨n, hn⟩
    · rw [hc] at hs
      refine cb hs (parV_sh _) (ip ?_ al24)
      show (c != 0) = true
      rw [bne_iff_ne]; exact hc0
    obtain ⟨_, h200, hr, hd, us, hL, hus⟩ := parE_some hn
    have hlen := tex_short hL hus
    have hk := all_kind hus
    have hc1 := count_tex hr
    obtain ⟨vs, h2, h3⟩ := tex_back hr hk
    have hp2 := parE_all (by omega) h2 h3 hr hd
    rw [hn] at hs
    have ht := ctext_ev n (parE_ok hn) (by omega)
    rw [if_pos hr, ← rb_pv] at ht
    have hs2 := prs_ev (texN n)
    rw [hp2] at hs2
    have hsm := same_rb (rfl : n = n) (by omega : n.count ≤ 1000000)
    refine cb hs (parV_sh _) (im (show ¬ ((0 : Int) != 0) = true by decide) (cb ht rfl (cb hs2 (parV_sh _) ?_)))
    refine ob2 (b := true) (ip ?_ rfl) (ob2 (b := true) (ip rfl (ob2 (b := true) (ob2 (b := true) (cb hsm rfl rfl) rfl) rfl)) (ob2 (b := true) (ip rfl (ob2 (b := true) (cb ht rfl ?_) rfl)) (ob2 (b := true) (ip rfl al24) rfl)))
    · show decide (((B (texN n)).size : Int) ≤ ((B s).size : Int)) = true
      rw [decide_eq_true_eq, B_size, B_size]; omega
    · show some (PV.sc (.bool ((B (texN n)).toList == (B (texN n)).toList))) = _
      rw [beq_self_eq_true]
  · exact ip (by rw [decide_eq_true_eq, B_size]; omega) al24
theorem CanonShort_D (W : World) (vs : List Value) (xs : List PV) (h : Handed Tryz.prog W [9] vs xs) : D 8 xs = some (.sc (.bool true)) := by
  obtain ⟨x0, vs0, xs0, rfl, hx0, h⟩ := handed_cons h
  rw [handed_nil h]
  obtain ⟨e, rfl, _⟩ := of9 hx0
  obtain ⟨l, rfl⟩ := B_of e
  simp only [on9]
  exact canonShort l
end Go.Den.ES
set_option maxRecDepth 100000
namespace Go.Proofs.YtkhbkbkambflbaaGreatDoor.canonShort
open Go.ChangeShapes Go.WideShapes Go.ChangeAt Go.RowKit Go.Den
theorem own : ownKnob Tryz.prog.godebug = none := by kernel_rfl
theorem laidOut : laidOutB Tryz.prog = true := by kernel_rfl
theorem good : goodAll Tryz.prog [9] = true := by kernel_rfl
theorem follows : Tryz.prog.follows .mixedOrders = true := by kernel_rfl
theorem tabs_laid {W : World} (h : laidMet Tryz.prog Rows.canonShortRow.laid W) (hS : W.ShapedOpen Tryz.prog) : Tabs2 W := by
  refine ⟨⟨?_, ?_⟩, ?_⟩
  · exact Lib.tabIs_of_head (g := 2) (t := 276) (e := 160) (n := 20) (by kernel_rfl) (by kernel_rfl) (by kernel_rfl) (by kernel_rfl) (by kernel_rfl) (by kernel_rfl) (laidMet.tail (laidMet.tail h))
  · exact Go.Proofs.cell_of_shapedOpen_int (g := 3) (zero := #[.int .i64 0]) (t := 3) hS (of_decide_eq_true (by kernel_rfl)) (by kernel_rfl) rfl (by kernel_rfl) (by kernel_rfl) Tryz.underlying3
  · exact Lib.tabIs_of_head (g := 0) (t := 199) (e := 5) (n := 256) (by kernel_rfl) (by kernel_rfl) (by kernel_rfl) (by kernel_rfl) (by kernel_rfl) (by kernel_rfl) (laidMet.tail (laidMet.tail (laidMet.tail (laidMet.tail (laidMet.tail h)))))
theorem lifted (os : Os) (started : os.Started) (H : Type) (enc : TypeId × Value → H) :
    ReturnsInHanded {} Tryz.checked os 8 .any (fun w args => (Rows.canonShortSpec.pre enc Tryz.prog Tryz.f8 Rows.canonShortRow.domain false w args ∧ laidMetH Tryz.prog Rows.canonShortRow.laid w) ∧ sizedMet enc Tryz.prog Tryz.f8 (OpenSpec.ofChange Rows.canonShortSpec) false w args) (Rows.canonShortSpec.post enc Tryz.prog Tryz.f8 false true false false) := by
  refine returns_and_shaped (C := Tryz.checked) (X := fun w _ => laidMetH Tryz.prog Rows.canonShortRow.laid w) (fun _ _ _ hh h => h.of_heap hh) own started (by kernel_rfl) Tryz.func8
    (ChangeSpec.witness_shaped (enc := enc) (C := Tryz.checked) (os := os) (X := fun w _ => laidMetH Tryz.prog Rows.canonShortRow.laid w) false (World.laidAll Tryz.prog os Rows.canonShortRow.laid) #[.string ⟨#[]⟩] 8 (World.laidAll_os _ _ _)
      (World.shaped_of_ZipB (by kernel_rfl) (by kernel_rfl)) (by kernel_rfl) (by kernel_rfl) (by kernel_rfl)
      (by rw [MakeChecks.laidMetH_plain _ _ _ (by kernel_rfl)]; exact laidMet_laidAll _ (by kernel_rfl) (by kernel_rfl))) ?_
  intro W base args ds gs before hval0 hW hcnd hsz0 hL hS
  have hval : ∀ (j : Nat) t v, Tryz.f8.params[j]? = some t → args[j]? = some v → Value.okWide Tryz.prog W .any base t v := hval0
  have hW' := hW
  obtain ⟨p, q, hA0, hV, rfl, hfz, hnd⟩ := hW
  have hA : DataW.TrodAll enc Tryz.prog W 0 (fun _ => true) true [9] args.toList ds p := hA0
  obtain ⟨rfl, rfl⟩ := trodVars_none hV
  obtain ⟨xs, hH⟩ := open_all good [9] args.toList ds p (by decide) hA (fun j t v ht hv => hval j t v (by rw [Tryz.params8]; simpa using ht) (by simpa using hv)) fun n hn => by
    have hz : (DataW.weightsEach Tryz.prog (Tryz.f8.params.toList ++ Rows.canonShortSpec.plain.varTypes Tryz.prog) (ds ++ [])).all (· ≤ reachBytes) = true := hsz0
    rw [Tryz.params8] at hz
    have := List.all_eq_true.1 hz n (weights_app n hn)
    simpa using this
  have hD := ES.CanonShort_D W args.toList xs hH
  have hok := Den.denI_ok (T := Tabs2) follows Tabs2.below ES.ext_ok 8 xs _ hD
  refine (Den.law_calls hok (tabs_laid (by rw [MakeChecks.laidMetH_plain _ _ _ (by kernel_rfl)] at hL; exact hL) hS) hH).mono fun e W' ⟨he, bel⟩ => ?_
  subst he
  have hback := carry_all laidOut bel [9] args.toList ds p (by kernel_rfl) hA
  obtain ⟨v0, vs0, d0, ds0, p0, q0, hargs0, rfl, rfl, h0, r0⟩ := trodAll_cons hA
  obtain ⟨_, rfl, _⟩ := trodAll_nil r0
  exact ⟨_, rfl, _, _, _, [], _, [], hW', trodAll_mk1 (shut_bool Tryz.underlying4 _), hback, rfl, bel.frame _, fun h => by cases h⟩
theorem over : Rows.canonShortRow.holds Tryz.pinned (OpenSpec.ofChange Rows.canonShortSpec) :=
  OpenClaim.holds_of_wide 8 Tryz.f8 rfl rfl rfl rfl rfl rfl rfl ⟨rfl, rfl, rfl, rfl, rfl⟩ rfl rfl rfl rfl rfl (by kernel_rfl) Tryz.func8 (by kernel_rfl)
    (of_decide_eq_true (by kernel_rfl)) (by unfold Func.isWrapper; first | (rw [if_pos (by decide +kernel)]; kernel_rfl) | (rw [if_neg (by decide +kernel)]; exact ⟨rfl, rfl⟩))
    (fun os started H enc _ => lifted os started H enc)
theorem card : Rows.CanonShortCardSaid :=
  Claim7.holds_tied_plain_at .later [] [.data, .data, .data, .data, .listed, .data, .pinned] true (true, "b193ce7e6797a20116516223b4fe3daa35c7b810da3628f40d08a9d699ae8872") false over (fun _ h => by cases h) (by kernel_rfl) (fun _ h => by cases h) canonShort_row_tie rfl ⟨rfl, rfl⟩ (by kernel_rfl) rfl
    (fun f fn hf hfn => by
      obtain rfl : f = 8 := Option.some.inj ((show Tryz.prog.funcNamed Rows.canonShortRow.func = some 8 by kernel_rfl).symm.trans hf) |>.symm
      obtain rfl : fn = Tryz.f8 := (Option.some.inj (Tryz.func8.symm.trans hfn)).symm
      refine ⟨by kernel_rfl, fun j t ht => ?_⟩
      have hall : (Tryz.f8.params.toList.all fun u => !Tryz.prog.wantsStandIn u) = true := by kernel_rfl
      have hm : t ∈ Tryz.f8.params.toList := by simpa using Array.mem_of_getElem? ht
      exact (show Tryz.prog.wantsStandIn t = false by simpa using List.all_eq_true.1 hall t hm))
    (by kernel_rfl)
end Go.Proofs.YtkhbkbkambflbaaGreatDoor.canonShort
namespace Go.Proofs.YtkhbkbkambflbaaGreatDoor
theorem canonShort_holds : Rows.CanonShortCardSaid := canonShort.card
end Go.Proofs.YtkhbkbkambflbaaGreatDoor
