/- Trees as values; what is read of them. -/
import Derived.Test.YtcncojlgapknpaaEAx0
import Derived.Test.YtcncojlgapknpaaEAx1
import Derived.Test.YtcncojlgapknpaaEAx2
import Derived.Test.YtcncojlgapknpaaEAx3
import Derived.Test.YtcncojlgapknpaaEAx4
import Derived.Test.YtcncojlgapknpaaDenU
set_option linter.unusedVariables false
set_option maxRecDepth 100000
namespace Go.Den.EA
open Go Go.Proofs
theorem w64 {x : Int} (h0 : -9223372036854775808 ≤ x) (h1 : x ≤ 9223372036854775807) : IntKind.i64.wrap x = x := by
  simp [IntKind.wrap, IntKind.bits, IntKind.signed]; omega
theorem sb {u : Option PV} {x : PV} {F : PV → Option PV} {r : Option PV} (h : u = some x) (h2 : F x = r) : u.bind F = r := by rw [h]; exact h2
theorem ip {c : Prop} [Decidable c] {a b r : Option PV} (h : c) (h2 : a = r) : (if c then a else b) = r := by rw [if_pos h]; exact h2
theorem im {c : Prop} [Decidable c] {a b r : Option PV} (h : ¬ c) (h2 : b = r) : (if c then a else b) = r := by rw [if_neg h]; exact h2
theorem gb {c : Prop} [Decidable c] {x y : Bool} {F : PV → Option PV} {r : Option PV} (h : F (.sc (.bool (if c then x else y))) = r) : Option.bind (if c then some (.sc (.bool x)) else some (.sc (.bool y))) F = r := by
  by_cases hc : c
  · rw [if_pos hc] at h ⊢; exact h
  · rw [if_neg hc] at h ⊢; exact h
theorem frozen_len (k : Nat) (xs : List PV) : (frozen k xs).len = xs.length := rfl
theorem frozen_at (k : Nat) (xs : List PV) : (frozen k xs).at = fun i => xs.getD i .top := rfl
theorem frozen_sh (k : Nat) (xs : List PV) : hasSh (.lst k) (frozen k xs) = true := by simp [hasSh, frozen, PV.isLst]
theorem range_at (xs : List PV) : (List.range xs.length).map (fun i => xs.getD i .top) = xs := by
  apply List.ext_getElem
  · simp
  · intro i h1 h2; simp [h2]
abbrev shN : Sh := .agg [(.int .i64), (.int .i64), (.int .i64), (.int .i64), .str, (.int .i64), (.int .i64), .bool, .bool, (.int .i64), (.int .i64), .bool, .bool, (.lst 14)]
structure Rf where
  row : Int
  col : Int
  hr : Bool
  hc : Bool
structure Vl where
  kind : Int
  num : Int
  text : ByteArray
inductive Nod where
  | mk (kind op : Int) (v : Vl) (a b : Rf) (l : List Nod)
mutual
def Nod.pv : Nod → PV
  | .mk kind op v a b l => .agg [.sc (.int .i64 kind), .sc (.int .i64 op), .sc (.int .i64 v.kind), .sc (.int .i64 v.num), .sc (.string v.text), .sc (.int .i64 a.row), .sc (.int .i64 a.col), .sc (.bool a.hr), .sc (.bool a.hc), .sc (.int .i64 b.row), .sc (.int .i64 b.col), .sc (.bool b.hr), .sc (.bool b.hc), frozen 14 (pvs l)]
def pvs : List Nod → List PV
  | [] => []
  | n :: l => n.pv :: pvs l
end
theorem pvs_map : ∀ l : List Nod, pvs l = l.map Nod.pv
  | [] => rfl
  | n :: l => by rw [pvs, pvs_map l]; rfl
theorem pvs_len (l : List Nod) : (pvs l).length = l.length := by rw [pvs_map]; simp
theorem pvs_get {l : List Nod} {i : Nat} (h : i < l.length) : (pvs l).getD i .top = l[i].pv := by rw [pvs_map]; simp [h]
theorem pvs_app (l m : List Nod) : pvs (l ++ m) = pvs l ++ pvs m := by simp [pvs_map]
def rbN (x : PV) : PV := .agg [.sc (.int .i64 ((cel 0 x.cells).toInt)), .sc (.int .i64 ((cel 1 x.cells).toInt)), .sc (.int .i64 ((cel 2 x.cells).toInt)), .sc (.int .i64 ((cel 3 x.cells).toInt)), .sc (.string ((cel 4 x.cells).toStr)), .sc (.int .i64 ((cel 5 x.cells).toInt)), .sc (.int .i64 ((cel 6 x.cells).toInt)), .sc (.bool ((cel 7 x.cells).toBool)), .sc (.bool ((cel 8 x.cells).toBool)), .sc (.int .i64 ((cel 9 x.cells).toInt)), .sc (.int .i64 ((cel 10 x.cells).toInt)), .sc (.bool ((cel 11 x.cells).toBool)), .sc (.bool ((cel 12 x.cells).toBool)), .lst 14 ((cel 13 x.cells).len) ((cel 13 x.cells).at)]
theorem rb_pv (n : Nod) : rbN n.pv = n.pv := by
  cases n
  simp only [Nod.pv]
  rfl
theorem sh_pv (n : Nod) : hasSh shN n.pv = true := by
  cases n
  simp [Nod.pv, hasSh, hasShL, PV.isInt, PV.isBool, PV.isStr, PV.isLst, frozen]
mutual
def Nod.count : Nod → Nat
  | .mk _ _ _ _ _ l => counts l + 1
def counts : List Nod → Nat
  | [] => 0
  | n :: l => n.count + counts l
end
mutual
def Nod.list : Nod → List Nod
  | .mk kind op v a b l => .mk kind op v a b l :: lists l
def lists : List Nod → List Nod
  | [] => []
  | n :: l => n.list ++ lists l
end
mutual
def Nod.deep : Nod → Nat
  | .mk _ _ _ _ _ l => deeps l + 1
def deeps : List Nod → Nat
  | [] => 0
  | n :: l => max n.deep (deeps l)
end
mutual
theorem list_len : ∀ n : Nod, n.list.length = n.count
  | .mk _ _ _ _ _ l => by rw [Nod.list, Nod.count, List.length_cons, lists_len l]
theorem lists_len : ∀ l : List Nod, (lists l).length = counts l
  | [] => rfl
  | n :: l => by rw [lists, counts, List.length_append, list_len n, lists_len l]
end
mutual
theorem deep_le : ∀ n : Nod, n.deep ≤ n.count
  | .mk _ _ _ _ _ l => by rw [Nod.deep, Nod.count]; have := deeps_le l; omega
theorem deeps_le : ∀ l : List Nod, deeps l ≤ counts l
  | [] => Nat.le_refl _
  | n :: l => by rw [deeps, counts]; have := deep_le n; have := deeps_le l; omega
end
theorem count_mem {n : Nod} : ∀ {l : List Nod}, n ∈ l → n.count ≤ counts l
  | [], h => by cases h
  | m :: l, h => by
    rw [counts]
    rcases List.mem_cons.1 h with rfl | h
    · omega
    · have := count_mem h; omega
theorem drop_cons {α : Type} {l : List α} {i : Nat} (h : i < l.length) : l.drop i = l[i] :: l.drop (i + 1) := (List.getElem_cons_drop h).symm
theorem len_counts : ∀ l : List Nod, l.length ≤ counts l
  | [] => Nat.le_refl _
  | .mk _ _ _ _ _ m :: l => by rw [counts, List.length_cons, Nod.count]; have := len_counts l; omega
mutual
def Nod.ok : Nod → Prop
  | .mk _ _ v _ _ l => v.text.size ≤ 9223372036854775807 ∧ oks l ∧ l.length * 120 ≤ 140737488351232
def oks : List Nod → Prop
  | [] => True
  | n :: l => n.ok ∧ oks l
end
theorem oks_mem {n : Nod} : ∀ {l : List Nod}, oks l → n ∈ l → n.ok
  | [], _, h => by cases h
  | m :: l, ho, h => by
    rw [oks] at ho
    rcases List.mem_cons.1 h with rfl | h
    · exact ho.1
    · exact oks_mem ho.2 h
/-- The loop's element. -/
theorem at_i {l : List Nod} {i : Nat} (h : i < l.length) : (pvs l).getD ((i : Int).toNat) .top = l[i].pv := by
  rw [Int.toNat_natCast]
  exact pvs_get h
theorem next_i {i : Nat} (h : i < 4611686018427387904) : IntKind.i64.wrap ((i : Int) + 1) = ((i + 1 : Nat) : Int) := by
  rw [w64 (by omega) (by omega)]; omega
/-- Left: how many may still come. -/
theorem left_ev : ∀ (c : Nat) (n : Nod), n.count ≤ c → ∀ m : Int, 0 ≤ m → m ≤ 1000000000 → D 17 [n.pv, .sc (.int .i64 m)] = some (.sc (.int .i64 (max (-1) (m - n.count))))
  | 0, .mk _ _ _ _ _ l, h, m, h0, h1 => by rw [Nod.count] at h; omega
  | c + 1, .mk kind op v a b l, h, m, h0, h1 => by
    rw [Nod.count] at h
    simp only [Nod.pv, frozen]
    rw [f17_eq 0, w64 (by omega) (by omega)]
    have loop : ∀ (j i : Nat) (m' : Int), l.length - i = j → i ≤ l.length → i ≤ 1000000001 - m' → -1 ≤ m' → m' ≤ 1000000000 → f17.l0a 0 m' (i : Int) kind op v.kind v.num v.text a.row a.col a.hr a.hc b.row b.col b.hr b.hc (pvs l).length (fun i => (pvs l).getD i .top) = some (.sc (.int .i64 (max (-1) (m' - counts (l.drop i))))) := by
      intro j
      induction j with
      | zero =>
        intro i m' hj hi hw h2 h3
        have hpl := pvs_len l
        rw [f17.l0a_eq]
        have : i = l.length := by omega
        subst this
        refine gb (im (fun hh => ?_) ?_)
        · have : (if decide ((l.length : Int) < ((pvs l).length : Int)) = true then decide (m' ≥ 0) else false) = true := hh
          simp [hpl] at this
        · rw [List.drop_length, counts]
          congr 3
          omega
      | succ j ih =>
        intro i m' hj hi hw h2 h3
        have hi' : i < l.length := by omega
        have hpl := pvs_len l
        rw [f17.l0a_eq, drop_cons hi', counts]
        by_cases hm : m' ≥ 0
        · refine gb (ip ?_ (ip (by omega) (ip (by omega) (ip (by rw [at_i hi']; exact sh_pv _) ?_))))
          · show (if decide ((i : Int) < ((pvs l).length : Int)) = true then decide (m' ≥ 0) else false) = true
            rw [if_pos (decide_eq_true (by omega))]
            exact decide_eq_true hm
          rw [at_i hi']
          have IH := left_ev c l[i] (by have := count_mem (List.getElem_mem hi'); omega) m' hm h3
          refine sb (by rw [← rb_pv] at IH; exact IH) (ip rfl ?_)
          rw [next_i (by omega)]
          have h1c : 1 ≤ l[i].count := by cases l[i]; rw [Nod.count]; omega
          have h5 := ih (i + 1) (max (-1) (m' - l[i].count)) (by omega) (by omega) (by omega) (by omega) (by omega)
          refine h5.trans ?_
          congr 3
          omega
        · refine gb (im (fun hh => ?_) ?_)
          · have : (if decide ((i : Int) < ((pvs l).length : Int)) = true then decide (m' ≥ 0) else false) = true := hh
            rw [if_pos (decide_eq_true (by omega))] at this
            exact hm (of_decide_eq_true this)
          · congr 3
            omega
    have := loop l.length 0 (m - 1) (by omega) (Nat.zero_le _) (by omega) (by omega) (by omega)
    refine this.trans ?_
    rw [Nod.count, List.drop_zero]
    congr 3
    omega
/-- Are there at most 200 nodes? -/
theorem few_ev (n : Nod) : D 5 [n.pv] = some (.sc (.bool (decide (n.count ≤ 200)))) := by
  have h := left_ev n.count n (Nat.le_refl _) 200 (by omega) (by omega)
  have e : D 13 [n.pv, .sc (.int .i64 200)] = some (.sc (.bool (decide (n.count ≤ 200)))) := by
    cases n
    simp only [Nod.pv, frozen] at h ⊢
    rw [f13_eq 0]
    refine sb h (ip rfl ?_)
    show some (PV.sc (.bool (decide (max (-1) (200 - (_ : Int)) ≥ 0)))) = _
    congr 3
    exact decide_eq_decide.2 (by omega)
  cases n
  simp only [Nod.pv, frozen] at e ⊢
  rw [f5_eq 0]
  exact sb e (ip rfl rfl)
/-- All nodes, in order. -/
theorem list_ev : ∀ (c : Nat) (n : Nod), n.count ≤ c → n.count ≤ 1000000 → D 10 [n.pv] = some (frozen 14 (pvs n.list))
  | 0, .mk _ _ _ _ _ l, h, _ => by rw [Nod.count] at h; omega
  | c + 1, .mk kind op v a b l, h, hc => by
    rw [Nod.count] at h hc
    simp only [Nod.pv, frozen]
    rw [f10_eq 0]
    refine ip (by simp) ?_
    have loop : ∀ (j i : Nat) (out : List PV), l.length - i = j → i ≤ l.length → out.length + counts (l.drop i) ≤ 1000001 → f10.l0a 0 (i : Int) kind op v.kind v.num v.text a.row a.col a.hr a.hc b.row b.col b.hr b.hc (pvs l).length (fun i => (pvs l).getD i .top) out = some (frozen 14 (out ++ pvs (lists (l.drop i)))) := by
      intro j
      induction j with
      | zero =>
        intro i out hj hi ho
        have hpl := pvs_len l
        rw [f10.l0a_eq]
        have : i = l.length := by omega
        subst this
        refine im (fun hh => by have := of_decide_eq_true hh; omega) ?_
        rw [List.drop_length, lists, pvs, List.append_nil]
      | succ j ih =>
        intro i out hj hi ho
        have hi' : i < l.length := by omega
        have hlen := len_counts l
        rw [drop_cons hi', counts] at ho
        have hpl := pvs_len l
        rw [f10.l0a_eq]
        refine ip (decide_eq_true (by omega)) (ip (by omega) (ip (by omega) (ip (by rw [at_i hi']; exact sh_pv _) ?_)))
        rw [at_i hi']
        have hle := count_mem (List.getElem_mem hi')
        have IH := list_ev c l[i] (by omega) (by omega)
        refine sb (by rw [← rb_pv] at IH; exact IH) (ip (frozen_sh _ _) ?_)
        rw [frozen_len, frozen_at, range_at]
        have hl : (pvs l[i].list).length = l[i].count := by rw [pvs_len, list_len]
        refine ip (by rw [hl]; constructor <;> omega) ?_
        rw [next_i (by omega)]
        have h5 := ih (i + 1) (out ++ pvs l[i].list) (by omega) (by omega) (by rw [List.length_append, hl]; omega)
        refine h5.trans ?_
        rw [drop_cons hi', lists, pvs_app, List.append_assoc]
    have := loop l.length 0 [Nod.pv (.mk kind op v a b l)] (by omega) (Nat.zero_le _) (by rw [List.drop_zero]; simp; omega)
    simp only [Nod.pv, frozen] at this
    refine this.trans ?_
    rw [Nod.list, pvs, List.drop_zero]
    rfl
/-- How deep. -/
theorem deep_ev : ∀ (c : Nat) (n : Nod), n.count ≤ c → n.count ≤ 1000000 → D 16 [n.pv] = some (.sc (.int .i64 n.deep))
  | 0, .mk _ _ _ _ _ l, h, _ => by rw [Nod.count] at h; omega
  | c + 1, .mk kind op v a b l, h, hc => by
    rw [Nod.count] at h hc
    simp only [Nod.pv, frozen]
    rw [f16_eq 0]
    have loop : ∀ (j i : Nat) (out : Nat), l.length - i = j → i ≤ l.length → out ≤ 1000001 → f16.l0a 0 (out : Int) (i : Int) kind op v.kind v.num v.text a.row a.col a.hr a.hc b.row b.col b.hr b.hc (pvs l).length (fun i => (pvs l).getD i .top) = some (.sc (.int .i64 ((max out (if i < l.length then deeps (l.drop i) + 1 else 0) : Nat) : Int))) := by
      intro j
      induction j with
      | zero =>
        intro i out hj hi ho
        have hpl := pvs_len l
        rw [f16.l0a_eq]
        have : i = l.length := by omega
        subst this
        refine im (fun hh => by have := of_decide_eq_true hh; omega) ?_
        rw [if_neg (by omega)]
        congr 3
        omega
      | succ j ih =>
        intro i out hj hi ho
        have hi' : i < l.length := by omega
        have hlen := len_counts l
        have hpl := pvs_len l
        rw [f16.l0a_eq]
        refine ip (decide_eq_true (by omega)) (ip (by omega) (ip (by omega) (ip (by rw [at_i hi']; exact sh_pv _) ?_)))
        rw [at_i hi']
        have hle := count_mem (List.getElem_mem hi')
        have hdl := deep_le l[i]
        have IH := deep_ev c l[i] (by omega) (by omega)
        refine sb (by rw [← rb_pv] at IH; exact IH) (ip rfl ?_)
        have ew : IntKind.i64.wrap ((l[i].deep : Int) + 1) = ((l[i].deep + 1 : Nat) : Int) := next_i (by omega)
        have ei : IntKind.i64.wrap ((i : Int) + 1) = ((i + 1 : Nat) : Int) := next_i (by omega)
        have key : ∀ o : Nat, o = max out (l[i].deep + 1) → f16.l0a 0 (o : Int) ((i + 1 : Nat) : Int) kind op v.kind v.num v.text a.row a.col a.hr a.hc b.row b.col b.hr b.hc (pvs l).length (fun i => (pvs l).getD i .top) = some (.sc (.int .i64 ((max out (if i < l.length then deeps (l.drop i) + 1 else 0) : Nat) : Int))) := fun o ho' => by
          refine (ih (i + 1) o (by omega) (by omega) (by omega)).trans ?_
          congr 3
          rw [if_pos hi', drop_cons hi', deeps]
          by_cases h2 : i + 1 < l.length
          · rw [if_pos h2]; omega
          · rw [if_neg h2, List.drop_eq_nil_of_le (by omega), deeps]; omega
        by_cases hd : l[i].deep + 1 > out
        · refine ip ?_ ?_
          · show decide (IntKind.i64.wrap ((l[i].deep : Int) + 1) > (out : Int)) = true
            rw [ew]
            exact decide_eq_true (by omega)
          · show f16.l0a 0 (IntKind.i64.wrap ((l[i].deep : Int) + 1)) (IntKind.i64.wrap ((i : Int) + 1)) _ _ _ _ _ _ _ _ _ _ _ _ _ _ _ = _
            rw [ew, ei]
            exact key _ (by omega)
        · refine im (fun hh => ?_) ?_
          · have h3 : decide (IntKind.i64.wrap ((l[i].deep : Int) + 1) > (out : Int)) = true := hh
            rw [ew] at h3
            have := of_decide_eq_true h3
            omega
          · rw [ei]
            exact key out (by omega)
    have := loop l.length 0 1 (by omega) (Nat.zero_le _) (by omega)
    refine this.trans ?_
    rw [Nod.deep]
    congr 3
    cases l with
    | nil => simp [deeps]
    | cons x l => rw [if_pos (by simp), List.drop_zero]; omega
end Go.Den.EA
