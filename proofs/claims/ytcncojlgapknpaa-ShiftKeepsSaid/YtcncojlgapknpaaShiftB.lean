/- References and trees, moved. -/
import Derived.Test.YtcncojlgapknpaaShiftA
set_option linter.unusedVariables false
set_option maxRecDepth 100000
namespace Go.Den.EA
open Go Go.Proofs
def may (r c : Int) : Bool := decide (0 ≤ r ∧ r ≤ 998 ∧ 0 ≤ c ∧ c ≤ 701)
theorem may_ev (r c : Int) : D 18 [.agg [.sc (.int .i64 r), .sc (.int .i64 c)]] = some (.sc (.bool (may r c))) := by
  rw [f18_eq 0]
  refine gb (gb (gb ?_))
  show some (PV.sc (.bool (if (if (if decide (r ≥ 0) = true then decide (r < 999) else false) = true then decide (c ≥ 0) else false) = true then decide (c < 702) else false))) = _
  congr 3
  unfold may
  by_cases h1 : r ≥ 0 <;> by_cases h2 : r < 999 <;> by_cases h3 : c ≥ 0 <;> by_cases h4 : c < 702 <;> simp [h1, h2, h3, h4] <;> omega
theorem rmay_ev (r c : Int) : D 26 [.agg [.sc (.int .i64 r), .sc (.int .i64 c)]] = some (.sc (.bool (may r c))) := by
  rw [f26_eq 0]
  refine gb (gb (gb ?_))
  show some (PV.sc (.bool (if (if (if decide (r ≥ 0) = true then decide (r ≤ 998) else false) = true then decide (c ≥ 0) else false) = true then decide (c ≤ 701) else false))) = _
  congr 3
  unfold may
  by_cases h1 : r ≥ 0 <;> by_cases h2 : r ≤ 998 <;> by_cases h3 : c ≥ 0 <;> by_cases h4 : c ≤ 701 <;> simp [h1, h2, h3, h4] <;> omega
/-- How far, and in which grid: the last row and column. -/
structure Q where
  b : Int
  b1 : Int
  g : Int
  g1 : Int
def Q.L (q : Q) : Int := IntKind.i64.wrap (q.g - 1)
def Q.L1 (q : Q) : Int := IntKind.i64.wrap (q.g1 - 1)
def Q.by (q : Q) : PV := .agg [.sc (.int .i64 q.b), .sc (.int .i64 q.b1)]
def Q.grid (q : Q) : PV := .agg [.sc (.int .i64 q.g), .sc (.int .i64 q.g1)]
def Q.near (q : Q) : Bool := may q.L q.L1 && decide (-1000 ≤ q.b ∧ q.b ≤ 1000 ∧ -1000 ≤ q.b1 ∧ q.b1 ≤ 1000)
def Rf.pv (r : Rf) : PV := .agg [.sc (.int .i64 r.row), .sc (.int .i64 r.col), .sc (.bool r.hr), .sc (.bool r.hc)]
def zR : Rf := ⟨0, 0, false, false⟩
def Rf.to (q : Q) (r : Rf) : Rf := ⟨if r.hr = true then r.row else r.row + q.b, if r.hc = true then r.col else r.col + q.b1, r.hr, r.hc⟩
def inGrid (q : Q) (r : Rf) : Bool := decide (0 ≤ r.row ∧ r.row ≤ q.L ∧ 0 ≤ r.col ∧ r.col ≤ q.L1)
def refMv (q : Q) (r : Rf) : Option Rf := if (q.near && may r.row r.col && inGrid q (r.to q)) = true then some (r.to q) else none
def refRes (o : Option Rf) : PV := .tup [(o.getD zR).pv, .sc (.bool o.isSome)]
theorem ref_end (r : Rf) (q : Q) (x y : Int) (c2 c3 : Int) (b2 b3 : Bool) (hx : x = (r.to q).row) (hy : y = (r.to q).col) (hn : (q.near && may r.row r.col) = true) :
    f14.j1a 0 x y r.hr r.hc c2 c3 b2 b3 q.L q.L1 = some (refRes (refMv q r)) := by
  rw [f14.j1a_eq]
  subst hx
  subst hy
  refine gb (gb (gb ?_))
  have e : (if (if (if decide ((r.to q).row < 0) = true then true else decide ((r.to q).row > q.L)) = true then true else decide ((r.to q).col < 0)) = true then true else decide ((r.to q).col > q.L1)) = !inGrid q (r.to q) := by
    unfold inGrid
    by_cases h1 : (r.to q).row < 0 <;> by_cases h2 : (r.to q).row > q.L <;> by_cases h3 : (r.to q).col < 0 <;> by_cases h4 : (r.to q).col > q.L1 <;> simp [h1, h2, h3, h4] <;> omega
  unfold refMv
  by_cases hg : inGrid q (r.to q) = true
  · rw [hn, hg]
    refine im (fun hh => ?_) rfl
    have h2 : (if (if (if decide ((r.to q).row < 0) = true then true else decide ((r.to q).row > q.L)) = true then true else decide ((r.to q).col < 0)) = true then true else decide ((r.to q).col > q.L1)) = true := hh
    rw [e, hg] at h2
    cases h2
  · have hg' : inGrid q (r.to q) = false := by simpa using hg
    rw [hn, hg']
    refine ip ?_ rfl
    show (if (if (if decide ((r.to q).row < 0) = true then true else decide ((r.to q).row > q.L)) = true then true else decide ((r.to q).col < 0)) = true then true else decide ((r.to q).col > q.L1)) = true
    rw [e, hg']
    rfl
theorem ref_ev (r : Rf) (q : Q) : D 14 [r.pv, q.by, q.grid] = some (refRes (refMv q r)) := by
  unfold Rf.pv Q.by Q.grid
  rw [f14_eq 0]
  have e1 := may_ev q.L q.L1
  refine sb e1 (ip rfl (gb (gb (gb (gb ?_)))))
  have e : (if (if (if (if (!may q.L q.L1) = true then true else decide (q.b < -1000)) = true then true else decide (q.b > 1000)) = true then true else decide (q.b1 < -1000)) = true then true else decide (q.b1 > 1000)) = !q.near := by
    unfold Q.near
    cases hm : may q.L q.L1 <;> by_cases h1 : q.b < -1000 <;> by_cases h2 : q.b > 1000 <;> by_cases h3 : q.b1 < -1000 <;> by_cases h4 : q.b1 > 1000 <;> simp [h1, h2, h3, h4] <;> omega
  cases hn : q.near with
  | false =>
    refine ip ?_ ?_
    · show (if (if (if (if (!may q.L q.L1) = true then true else decide (q.b < -1000)) = true then true else decide (q.b > 1000)) = true then true else decide (q.b1 < -1000)) = true then true else decide (q.b1 > 1000)) = true
      rw [e, hn]
      rfl
    · unfold refMv
      rw [hn]
      rfl
  | true =>
    refine im (fun hh => ?_) ?_
    · have h2 : (if (if (if (if (!may q.L q.L1) = true then true else decide (q.b < -1000)) = true then true else decide (q.b > 1000)) = true then true else decide (q.b1 < -1000)) = true then true else decide (q.b1 > 1000)) = true := hh
      rw [e, hn] at h2
      cases h2
    refine sb (may_ev r.row r.col) (ip rfl ?_)
    cases hm : may r.row r.col with
    | false =>
      refine ip rfl ?_
      unfold refMv
      rw [hm, Bool.and_false]
      rfl
    | true =>
      refine im (by show ¬ (!true) = true; decide) ?_
      have hb : -1000 ≤ q.b ∧ q.b ≤ 1000 ∧ -1000 ≤ q.b1 ∧ q.b1 ≤ 1000 := by
        unfold Q.near at hn
        simp only [Bool.and_eq_true, decide_eq_true_eq] at hn
        exact hn.2
      have hr : 0 ≤ r.row ∧ r.row ≤ 998 ∧ 0 ≤ r.col ∧ r.col ≤ 701 := by
        unfold may at hm
        exact of_decide_eq_true hm
      have hnm : (q.near && may r.row r.col) = true := by rw [hn, hm]; rfl
      have wr : IntKind.i64.wrap (r.row + q.b) = r.row + q.b := w64 (by omega) (by omega)
      have wc : IntKind.i64.wrap (r.col + q.b1) = r.col + q.b1 := w64 (by omega) (by omega)
      have step : ∀ x, x = (r.to q).row → f14.j0a 0 x r.col r.hr r.hc q.b q.b1 0 0 false false q.L q.L1 = some (refRes (refMv q r)) := fun x hx => by
        rw [f14.j0a_eq]
        by_cases hc : r.hc = true
        · refine im (by rw [hc]; decide) ?_
          exact ref_end r q x r.col 0 0 false false hx (by unfold Rf.to; simp [hc]) hnm
        · have hc' : r.hc = false := by simpa using hc
          refine ip (by rw [hc']; rfl) ?_
          rw [wc]
          exact ref_end r q x _ 0 0 false false hx (by unfold Rf.to; simp [hc']) hnm
      by_cases hc : r.hr = true
      · refine im (by rw [hc]; decide) ?_
        exact step r.row (by unfold Rf.to; simp [hc])
      · have hc' : r.hr = false := by simpa using hc
        refine ip (by rw [hc']; rfl) ?_
        have := step (r.row + q.b) (by unfold Rf.to; simp [hc'])
        rw [← wr] at this
        exact this
/-- A tree, moved. -/
def lostN : Nod := .mk 2 0 ⟨0, 0, ⟨#[]⟩⟩ zR zR []
mutual
def Nod.mv (q : Q) : Nod → Nod
  | .mk kind op v a b l => if kind = 3 then (match refMv q a with
      | some a' => .mk kind op v a' b (mvs q l)
      | none => lostN)
    else if kind = 4 then (match refMv q a, refMv q b with
      | some a', some b' => .mk kind op v a' b' (mvs q l)
      | _, _ => lostN)
    else .mk kind op v a b (mvs q l)
def mvs (q : Q) : List Nod → List Nod
  | [] => []
  | n :: l => n.mv q :: mvs q l
end
theorem mvs_map (q : Q) : ∀ l : List Nod, mvs q l = l.map (Nod.mv q)
  | [] => rfl
  | n :: l => by rw [mvs, mvs_map q l]; rfl
noncomputable abbrev mvB (l : List Nod) (kind op : Int) (v : Vl) (a b : Rf) (q : Q) (i : Int) (out : List PV) : Option PV :=
  f7.l1b 0 (pvs l).length (fun i => (pvs l).getD i .top) ((pvs l).length : Int) i kind op v.kind v.num v.text a.row a.col a.hr a.hc b.row b.col b.hr b.hc (pvs l).length (fun i => (pvs l).getD i .top) q.b q.b1 q.g q.g1 0 0 0 0 ⟨#[]⟩ 0 0 false false 0 0 false false out
/-- A node that comes back. -/
def IsN (u : Option PV) (n : Nod) : Prop := ∃ r, u = some r ∧ hasSh shN r = true ∧ rbN r = n.pv
theorem mv_loop (l : List Nod) (kind op : Int) (v : Vl) (a b : Rf) (q : Q) (hl : l.length * 120 ≤ 140737488351232) (IH : ∀ y, y ∈ l → IsN (D 7 [y.pv, q.by, q.grid]) (y.mv q)) : ∀ (j i : Nat) (out : List Nod), l.length - i = j → i ≤ l.length → out.length = i → IsN (mvB l kind op v a b q (i : Int) (pvs out)) (.mk kind op v a b (out ++ mvs q (l.drop i))) := by
  intro j
  induction j with
  | zero =>
    intro i out hj hi ho
    have hpl := pvs_len l
    have : i = l.length := by omega
    subst this
    rw [List.drop_length, mvs, List.append_nil]
    refine ⟨.agg [.sc (.int .i64 kind), .sc (.int .i64 op), .sc (.int .i64 v.kind), .sc (.int .i64 v.num), .sc (.string v.text), .sc (.int .i64 a.row), .sc (.int .i64 a.col), .sc (.bool a.hr), .sc (.bool a.hc), .sc (.int .i64 b.row), .sc (.int .i64 b.col), .sc (.bool b.hr), .sc (.bool b.hc), frozen 14 (pvs out)], ?_, ?_, ?_⟩
    · unfold mvB
      rw [f7.l1b_eq]
      exact im (fun hh => by have := of_decide_eq_true hh; omega) rfl
    · have := sh_pv (.mk kind op v a b out)
      simp only [Nod.pv] at this
      exact this
    · have := rb_pv (.mk kind op v a b out)
      simp only [Nod.pv] at this ⊢
      exact this
  | succ j ih =>
    intro i out hj hi ho
    have hi' : i < l.length := by omega
    have hpl := pvs_len l
    obtain ⟨r, hr, hs, he⟩ := IH l[i] (List.getElem_mem hi')
    have h5 := ih (i + 1) (out ++ [l[i].mv q]) (by omega) (by omega) (by simp [ho])
    rw [drop_cons hi', mvs]
    rw [List.append_assoc, List.singleton_append] at h5
    have step : mvB l kind op v a b q (i : Int) (pvs out) = mvB l kind op v a b q ((i + 1 : Nat) : Int) (pvs (out ++ [l[i].mv q])) := by
      unfold mvB
      rw [f7.l1b_eq]
      refine ip (decide_eq_true (by omega)) (ip (by omega) (ip (by omega) (ip (by rw [at_i hi']; exact sh_pv _) ?_)))
      rw [at_i hi']
      refine sb (by rw [← rb_pv] at hr; exact hr) (ip hs (ip (by rw [pvs_len]; simp; omega) ?_))
      rw [next_i (by omega)]
      have key : ∀ x, x = rbN r → mvB l kind op v a b q ((i + 1 : Nat) : Int) (pvs out ++ [x]) = mvB l kind op v a b q ((i + 1 : Nat) : Int) (pvs (out ++ [l[i].mv q])) := fun x hx => by
        rw [hx, he, pvs_app]
        rfl
      exact key _ rfl
    rw [step]
    exact h5
theorem mv_join (l : List Nod) (kind op : Int) (v : Vl) (a b : Rf) (q : Q) (hl : l.length * 120 ≤ 140737488351232) (IH : ∀ y, y ∈ l → IsN (D 7 [y.pv, q.by, q.grid]) (y.mv q)) :
    IsN (f7.j0a 0 kind op v.kind v.num v.text a.row a.col a.hr a.hc b.row b.col b.hr b.hc (pvs l).length (fun i => (pvs l).getD i .top) q.b q.b1 q.g q.g1 0 0 0 0 ⟨#[]⟩ 0 0 false false 0 0 false false) (.mk kind op v a b (mvs q l)) := by
  rw [f7.j0a_eq, f7.l1a_eq]
  have hpl := pvs_len l
  cases hl0 : l with
  | nil =>
    refine ⟨.agg [.sc (.int .i64 kind), .sc (.int .i64 op), .sc (.int .i64 v.kind), .sc (.int .i64 v.num), .sc (.string v.text), .sc (.int .i64 a.row), .sc (.int .i64 a.col), .sc (.bool a.hr), .sc (.bool a.hc), .sc (.int .i64 b.row), .sc (.int .i64 b.col), .sc (.bool b.hr), .sc (.bool b.hc), .nils], im (fun hh => by have := of_decide_eq_true hh; simp [pvs] at this) rfl, by simp [hasSh, hasShL, PV.isInt, PV.isBool, PV.isStr, PV.isLst], ?_⟩
    rw [mvs]
    simp only [Nod.pv, pvs]
    rfl
  | cons y l' =>
    subst hl0
    obtain ⟨r, hr, hs, he⟩ := IH y List.mem_cons_self
    have h5 := mv_loop (y :: l') kind op v a b q hl IH l'.length 1 [y.mv q] (by simp) (by simp) rfl
    have e0 : (pvs (y :: l')).getD ((0 : Int).toNat) .top = y.pv := rfl
    have step : ∀ u, u = mvB (y :: l') kind op v a b q ((1 : Nat) : Int) (pvs [y.mv q]) → IsN u (.mk kind op v a b (mvs q (y :: l'))) := fun u hu => by
      rw [hu, mvs]
      exact h5
    refine step _ ?_
    refine ip (decide_eq_true (by rw [hpl]; simp)) (ip (by omega) (ip (by rw [hpl]; simp) (ip (by rw [e0]; exact sh_pv _) ?_)))
    rw [e0]
    refine sb (by rw [← rb_pv] at hr; exact hr) (ip hs (ip (by simp) ?_))
    have key : ∀ x, x = rbN r → mvB (y :: l') kind op v a b q (IntKind.i64.wrap (0 + 1)) ([x] : List PV) = mvB (y :: l') kind op v a b q ((1 : Nat) : Int) (pvs [y.mv q]) := fun x hx => by
      rw [hx, he, w64 (by omega) (by omega)]
      rfl
    exact key _ rfl
theorem lost_isN : IsN (some (.agg [.sc (.int .i64 2), .sc (.int .i64 0), .sc (.int .i64 0), .sc (.int .i64 0), .sc (.string (⟨#[]⟩ : ByteArray)), .sc (.int .i64 0), .sc (.int .i64 0), .sc (.bool false), .sc (.bool false), .sc (.int .i64 0), .sc (.int .i64 0), .sc (.bool false), .sc (.bool false), .nils])) lostN :=
  ⟨_, rfl, by simp [hasSh, hasShL, PV.isInt, PV.isBool, PV.isStr, PV.isLst], by unfold lostN; simp only [Nod.pv, pvs]; rfl⟩
theorem isN_congr {u u' : Option PV} {n : Nod} (e : u' = u) (h : IsN u n) : IsN u' n := by rw [e]; exact h
/-- Move. -/
theorem move_ev (q : Q) : ∀ (c : Nat) (n : Nod), n.count ≤ c → n.ok → IsN (D 7 [n.pv, q.by, q.grid]) (n.mv q)
  | 0, .mk _ _ _ _ _ l, h, _ => by rw [Nod.count] at h; omega
  | c + 1, .mk kind op v a b l, h, hc => by
    rw [Nod.count] at h
    rw [Nod.ok] at hc
    have hlen := len_counts l
    have IH : ∀ y, y ∈ l → IsN (D 7 [y.pv, q.by, q.grid]) (y.mv q) := fun y hy => move_ev q c y (by have := count_mem hy; omega) (oks_mem hc.2.1 hy)
    have ja := fun a b => mv_join l kind op v a b q hc.2.2 IH
    rw [Nod.mv]
    have hD : D 7 [Nod.pv (.mk kind op v a b l), q.by, q.grid] = D 7 [Nod.pv (.mk kind op v a b l), .agg [.sc (.int .i64 q.b), .sc (.int .i64 q.b1)], .agg [.sc (.int .i64 q.g), .sc (.int .i64 q.g1)]] := rfl
    rw [hD]
    simp only [Nod.pv, frozen]
    rw [f7_eq 0]
    have ra := ref_ev a q
    have rb := ref_ev b q
    have shr : ∀ o, hasSh (.tup [(.agg [(.int .i64), (.int .i64), .bool, .bool]), .bool]) (refRes o) = true := fun o => by simp [refRes, Rf.pv, hasSh, hasShL, PV.isInt, PV.isBool]
    by_cases h3 : kind = 3
    · rw [if_pos h3]
      refine isN_congr (ip (by simpa using h3) (sb ra (ip (shr _) rfl))) ?_
      cases hm : refMv q a with
      | none => exact isN_congr (ip rfl rfl) lost_isN
      | some a' => exact isN_congr (im (by show ¬ (!true) = true; decide) rfl) (ja a' b)
    · rw [if_neg h3]
      by_cases h4 : kind = 4
      · rw [if_pos h4]
        refine isN_congr (im (by simpa using h3) (ip (by simpa using h4) (sb ra (ip (shr _) (sb rb (ip (shr _) (gb rfl))))))) ?_
        cases hm : refMv q a with
        | none => exact isN_congr (ip rfl rfl) lost_isN
        | some a' =>
          cases hm2 : refMv q b with
          | none => exact isN_congr (ip rfl rfl) lost_isN
          | some b' => exact isN_congr (im (by show ¬ (if (!true) = true then true else !true) = true; decide) rfl) (ja a' b')
      · rw [if_neg h4]
        exact isN_congr (im (by simpa using h3) (im (by simpa using h4) rfl)) (ja a b)
end Go.Den.EA
