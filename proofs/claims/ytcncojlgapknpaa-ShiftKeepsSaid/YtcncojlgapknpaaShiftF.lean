/- Moved trees; the rest of what is asked of trees. -/
import Derived.Test.YtcncojlgapknpaaShiftE
set_option linter.unusedVariables false
set_option maxRecDepth 100000
namespace Go.Den.EA
open Go Go.Proofs
theorem alive_ev : D 6 [] = some (.sc (.bool true)) := denI_of (k := 30) (by kernel_rfl)
theorem mvs_len (q : Q) (l : List Nod) : (mvs q l).length = l.length := by rw [mvs_map]; simp
theorem lost_count : lostN.count = 1 := rfl
theorem mv_mk (q : Q) (kind op : Int) (v : Vl) (a b : Rf) (l : List Nod) : Nod.mv q (.mk kind op v a b l) = lostN ∨ ∃ a' b', Nod.mv q (.mk kind op v a b l) = .mk kind op v a' b' (mvs q l) := by
  rw [Nod.mv]
  split
  · split
    · exact .inr ⟨_, _, rfl⟩
    · exact .inl rfl
  · split
    · split
      · exact .inr ⟨_, _, rfl⟩
      · exact .inl rfl
    · exact .inr ⟨_, _, rfl⟩
mutual
theorem mv_count (q : Q) : ∀ n : Nod, (n.mv q).count ≤ n.count
  | .mk kind op v a b l => by
    rcases mv_mk q kind op v a b l with h | ⟨a', b', h⟩
    · rw [h, lost_count, Nod.count]; omega
    · rw [h, Nod.count, Nod.count]; have := mvs_count q l; omega
theorem mvs_count (q : Q) : ∀ l : List Nod, counts (mvs q l) ≤ counts l
  | [] => Nat.le_refl _
  | n :: l => by rw [mvs, counts, counts]; have := mv_count q n; have := mvs_count q l; omega
end
mutual
theorem mv_deep (q : Q) : ∀ n : Nod, (n.mv q).deep ≤ n.deep
  | .mk kind op v a b l => by
    rcases mv_mk q kind op v a b l with h | ⟨a', b', h⟩
    · rw [h, Nod.deep]; show 1 ≤ _; omega
    · rw [h, Nod.deep, Nod.deep]; have := mvs_deep q l; omega
theorem mvs_deep (q : Q) : ∀ l : List Nod, deeps (mvs q l) ≤ deeps l
  | [] => Nat.le_refl _
  | n :: l => by rw [mvs, deeps, deeps]; have := mv_deep q n; have := mvs_deep q l; omega
end
mutual
theorem mv_ok (q : Q) : ∀ n : Nod, n.ok → (n.mv q).ok
  | .mk kind op v a b l, h => by
    rw [Nod.ok] at h
    rcases mv_mk q kind op v a b l with h1 | ⟨a', b', h1⟩
    · rw [h1]; unfold lostN; rw [Nod.ok, oks]; exact ⟨Nat.zero_le _, trivial, Nat.zero_le _⟩
    · rw [h1, Nod.ok]; exact ⟨h.1, mvs_ok q l h.2.1, by rw [mvs_len]; exact h.2.2⟩
theorem mvs_ok (q : Q) : ∀ l : List Nod, oks l → oks (mvs q l)
  | [], _ => trivial
  | n :: l, h => by rw [oks] at h; rw [mvs, oks]; exact ⟨mv_ok q n h.1, mvs_ok q l h.2⟩
end
mutual
/-- Who is there was there, unmoved. -/
theorem mv_list (q : Q) : ∀ n : Nod, ∀ y, y ∈ (n.mv q).list → ∃ x, x ∈ n.list ∧ y = x.mv q
  | .mk kind op v a b l, y, hy => by
    rcases mv_mk q kind op v a b l with h | ⟨a', b', h⟩
    · rw [h] at hy
      refine ⟨.mk kind op v a b l, by rw [Nod.list]; exact List.mem_cons_self, ?_⟩
      rw [h]
      have : lostN.list = [lostN] := rfl
      rw [this] at hy
      exact List.mem_singleton.1 hy
    · rw [h, Nod.list] at hy
      rcases List.mem_cons.1 hy with rfl | hy
      · exact ⟨.mk kind op v a b l, by rw [Nod.list]; exact List.mem_cons_self, h.symm⟩
      · obtain ⟨x, hx, e⟩ := mvs_list q l y hy
        exact ⟨x, by rw [Nod.list]; exact List.mem_cons_of_mem _ hx, e⟩
theorem mvs_list (q : Q) : ∀ l : List Nod, ∀ y, y ∈ lists (mvs q l) → ∃ x, x ∈ lists l ∧ y = x.mv q
  | [], y, hy => by rw [mvs, lists] at hy; cases hy
  | n :: l, y, hy => by
    rw [mvs, lists] at hy
    rcases List.mem_append.1 hy with hy | hy
    · obtain ⟨x, hx, e⟩ := mv_list q n y hy
      exact ⟨x, by rw [lists]; exact List.mem_append_left _ hx, e⟩
    · obtain ⟨x, hx, e⟩ := mvs_list q l y hy
      exact ⟨x, by rw [lists]; exact List.mem_append_right _ hx, e⟩
end
mutual
theorem list_ok : ∀ n : Nod, n.ok → ∀ x, x ∈ n.list → x.ok ∧ x.count ≤ n.count
  | .mk kind op v a b l, h, x, hx => by
    rw [Nod.list] at hx
    rcases List.mem_cons.1 hx with rfl | hx
    · exact ⟨h, Nat.le_refl _⟩
    · rw [Nod.ok] at h
      obtain ⟨h1, h2⟩ := lists_ok l h.2.1 x hx
      refine ⟨h1, ?_⟩
      rw [Nod.count]
      omega
theorem lists_ok : ∀ l : List Nod, oks l → ∀ x, x ∈ lists l → x.ok ∧ x.count ≤ counts l
  | [], _, x, hx => by rw [lists] at hx; cases hx
  | n :: l, h, x, hx => by
    rw [oks] at h
    rw [lists] at hx
    rw [counts]
    rcases List.mem_append.1 hx with hx | hx
    · obtain ⟨h1, h2⟩ := list_ok n h.1 x hx
      exact ⟨h1, by omega⟩
    · obtain ⟨h1, h2⟩ := lists_ok l h.2 x hx
      exact ⟨h1, by omega⟩
end
noncomputable def one1 (x : Nod) : Bool := ((D 15 [x.pv]).getD .top).toBool
theorem one1_ev {x : Nod} (h : x.ok) (hc : x.count ≤ 1000000) : D 15 [x.pv] = some (.sc (.bool (one1 x))) ∧ (one1 x = true → oneP x) ∧ (x.kd ≠ 1 → oneP x → one1 x = true) := by
  obtain ⟨b, h1, h2, h3⟩ := one_ev x h hc
  have e : one1 x = b := by unfold one1; rw [h1]; rfl
  rw [e]
  exact ⟨h1, h2, h3⟩
theorem near_last {q : Q} (h : q.near = true) : 0 ≤ q.L ∧ q.L ≤ 998 ∧ 0 ≤ q.L1 ∧ q.L1 ≤ 701 := by
  unfold Q.near at h
  rw [Bool.and_eq_true] at h
  have := h.1
  unfold may at this
  exact of_decide_eq_true this
theorem refMv_spec {q : Q} {r r' : Rf} (h : refMv q r = some r') : q.near = true ∧ may r.row r.col = true ∧ r' = r.to q ∧ 0 ≤ r'.row ∧ r'.row ≤ q.L ∧ 0 ≤ r'.col ∧ r'.col ≤ q.L1 := by
  unfold refMv at h
  split at h
  · rename_i hc
    simp only [Bool.and_eq_true] at hc
    obtain rfl := Option.some.inj h
    have := hc.2
    unfold inGrid at this
    have := of_decide_eq_true this
    exact ⟨hc.1.1, hc.1.2, rfl, this.1, this.2.1, this.2.2.1, this.2.2.2⟩
  · cases h
theorem refMv_may {q : Q} {r r' : Rf} (h : refMv q r = some r') : may r'.row r'.col = true := by
  obtain ⟨h1, _, _, h2, h3, h4, h5⟩ := refMv_spec h
  have := near_last h1
  unfold may
  exact decide_eq_true ⟨h2, by omega, h4, by omega⟩
noncomputable def argW (kb kd : Int) (v : Vl) : Bool :=
  if (if (kb == 118) = true then true else (kb == 101)) = true then (kd != 4) else
  if (if (kb == 114) = true then true else (kb == 110)) = true then (if decide (kd ≥ 2) = true then decide (kd ≤ 4) else false) else
  if (kb == 116) = true then (if (if (kd == 1) = true then (v.kind == 2) else false) = true then labOk v.text else false) else (kb == 108)
theorem arg_lost {kb kd : Int} {v w : Vl} (h : argW kb kd v = true) (hk : kd ≠ 1) : argW kb 2 w = true := by
  unfold argW at h ⊢
  generalize (if (kb == 118) = true then true else (kb == 101)) = c1 at h ⊢
  generalize (if (kb == 114) = true then true else (kb == 110)) = c2 at h ⊢
  generalize (kb == 116) = c3 at h ⊢
  have hk' : (kd == 1) = false := by simpa using hk
  rw [hk'] at h
  cases c1 <;> cases c2 <;> cases c3 <;> simp at h ⊢
  exact h
theorem arg_mv (q : Q) {kb : Int} {x : Nod} (h : argV kb x = true) : argV kb (x.mv q) = true := by
  cases x with
  | mk kind op v a b l =>
    have h' : argW kb kind v = true := h
    rcases mv_mk q kind op v a b l with e | ⟨a', b', e⟩
    · rw [e]
      show argW kb 2 ⟨0, 0, ⟨#[]⟩⟩ = true
      refine arg_lost h' ?_
      rintro rfl
      rw [Nod.mv, if_neg (by decide), if_neg (by decide)] at e
      unfold lostN at e
      have := Nod.mk.inj e
      exact absurd this.1 (by decide)
    · rw [e]
      exact h'
theorem oneP_lost : oneP lostN := by
  unfold lostN
  exact .inr (.inl ⟨rfl, rfl, by simp [bareB, vz, rz, zR], rfl⟩)
/-- What is as told stays so. -/
theorem oneP_mv (q : Q) {kind op : Int} {v : Vl} {a b : Rf} {l : List Nod} (hk : kind ≠ 1) (h : oneP (.mk kind op v a b l)) : oneP (Nod.mv q (.mk kind op v a b l)) := by
  simp only [oneP] at h
  rcases h with h | ⟨rfl, h1, h2, rfl⟩ | ⟨rfl, h1, h2, h3, rfl, h4⟩ | ⟨rfl, h1, h2, rfl, h3, h4⟩ | ⟨rfl, h1, h2, x, rfl, h3⟩ | ⟨rfl, h1, h2, h3, x, y, rfl, h4, h5⟩ | ⟨rfl, h1, h2, h3⟩
  · exact absurd h.1 hk
  · rw [Nod.mv, if_neg (by decide), if_neg (by decide), mvs]
    exact .inr (.inl ⟨rfl, h1, h2, rfl⟩)
  · rw [Nod.mv, if_pos rfl, mvs]
    cases hm : refMv q a with
    | none => exact oneP_lost
    | some a' => exact .inr (.inr (.inl ⟨rfl, h1, h2, h3, rfl, refMv_may hm⟩))
  · rw [Nod.mv, if_neg (by decide), if_pos rfl, mvs]
    cases hm : refMv q a with
    | none => exact oneP_lost
    | some a' =>
      cases hm2 : refMv q b with
      | none => exact oneP_lost
      | some b' => exact .inr (.inr (.inr (.inl ⟨rfl, h1, h2, rfl, refMv_may hm, refMv_may hm2⟩)))
  · rw [Nod.mv, if_neg (by decide), if_neg (by decide), mvs, mvs]
    exact .inr (.inr (.inr (.inr (.inl ⟨rfl, h1, h2, _, rfl, arg_mv q h3⟩))))
  · rw [Nod.mv, if_neg (by decide), if_neg (by decide), mvs, mvs, mvs]
    exact .inr (.inr (.inr (.inr (.inr (.inl ⟨rfl, h1, h2, h3, _, _, rfl, arg_mv q h4, arg_mv q h5⟩)))))
  · rw [Nod.mv, if_neg (by decide), if_neg (by decide)]
    refine .inr (.inr (.inr (.inr (.inr (.inr ⟨rfl, h1, by rw [mvs_len]; exact h2, fun i hi => ?_⟩)))))
    have hi' : i < l.length := by rw [mvs_len] at hi; exact hi
    have e : (mvs q l)[i] = l[i].mv q := by simp [mvs_map]
    rw [e]
    exact arg_mv q (h3 i hi')
theorem kd_mv (q : Q) (x : Nod) : (x.mv q).kd = x.kd ∨ (x.mv q).kd = 2 := by
  cases x with
  | mk kind op v a b l =>
    rcases mv_mk q kind op v a b l with e | ⟨a', b', e⟩
    · rw [e]; exact .inr rfl
    · rw [e]; exact .inl rfl
theorem one_mv (q : Q) {x : Nod} (hok : x.ok) (hc : x.count ≤ 1000000) (h : one1 x = true) : one1 (x.mv q) = true := by
  obtain ⟨_, h2, _⟩ := one1_ev hok hc
  obtain ⟨_, _, h3⟩ := one1_ev (mv_ok q x hok) (Nat.le_trans (mv_count q x) hc)
  have hP := h2 h
  by_cases h1 : x.kd = 1
  · cases x with
    | mk kind op v a b l =>
      have hk : kind = 1 := h1
      subst hk
      simp only [oneP] at hP
      rcases hP with hP | hP | hP | hP | hP | hP | hP <;> first | (exact absurd hP.1 (by decide)) | skip
      obtain ⟨_, rfl⟩ := hP
      rw [Nod.mv, if_neg (by decide), if_neg (by decide), mvs]
      exact h
  · refine h3 ?_ ?_
    · rcases kd_mv q x with e | e
      · rw [e]; exact h1
      · rw [e]; decide
    · cases x with
      | mk kind op v a b l => exact oneP_mv q h1 hP
/-- Right. -/
theorem right_ev (n : Nod) (hok : n.ok) (hc : n.count ≤ 1000000) : ∃ b, D 8 [n.pv] = some (.sc (.bool b)) ∧ (b = true ↔ ∀ x, x ∈ n.list → one1 x = true) := by
  have hl := list_ev n.count n (Nat.le_refl _) hc
  have hlen := list_len n
  have hpl := pvs_len n.list
  have loop : ∀ (j i : Nat), n.list.length - i = j → i ≤ n.list.length → ∃ b, f8.l0a 0 (pvs n.list).length (fun i => (pvs n.list).getD i .top) (i : Int) = some (.sc (.bool b)) ∧ (b = true ↔ ∀ p (h : p < n.list.length), i ≤ p → one1 n.list[p] = true) := by
    intro j
    induction j with
    | zero =>
      intro i hj hi
      rw [f8.l0a_eq]
      exact ⟨true, im (fun hh => by have := of_decide_eq_true hh; omega) rfl, fun _ p h hp => by omega, fun _ => rfl⟩
    | succ j ih =>
      intro i hj hi
      have hi' : i < n.list.length := by omega
      rw [f8.l0a_eq]
      obtain ⟨o1, o2⟩ := list_ok n hok n.list[i] (List.getElem_mem hi')
      obtain ⟨h15, _⟩ := one1_ev o1 (Nat.le_trans o2 hc)
      have pre : ∀ {r : Option PV}, (if (!one1 n.list[i]) = true then some (.sc (.bool false)) else f8.l0a 0 (pvs n.list).length (fun i => (pvs n.list).getD i .top) (IntKind.i64.wrap ((i : Int) + 1))) = r → (if decide ((i : Int) < ((pvs n.list).length : Int)) = true then
    if 0 ≤ (i : Int) then
      if (i : Int) < ((pvs n.list).length : Int) then
        if hasSh shN ((pvs n.list).getD ((i : Int).toNat) .top) = true then
          (D 15 [rbN ((pvs n.list).getD ((i : Int).toNat) .top)]).bind fun r2 => if hasSh .bool r2 = true then
          if (!r2.toBool) = true then
            some (.sc (.bool false))
          else
            f8.l0a 0 (pvs n.list).length (fun i => (pvs n.list).getD i .top) (IntKind.i64.wrap ((i : Int) + 1))
          else none
        else none
      else none
    else none
  else
    some (.sc (.bool true))) = r := fun {r} h => by
        refine ip (decide_eq_true (by omega)) (ip (by omega) (ip (by omega) (ip (by rw [at_i hi']; exact sh_pv _) ?_)))
        rw [at_i hi', rb_pv]
        exact sb h15 (ip rfl h)
      cases ho : one1 n.list[i] with
      | false =>
        refine ⟨false, pre (by rw [ho]; exact ip rfl rfl), fun h => (by cases h), fun h => ?_⟩
        have := h i hi' (Nat.le_refl _)
        rw [ho] at this
        cases this
      | true =>
        obtain ⟨b, hb, hb2⟩ := ih (i + 1) (by omega) (by omega)
        refine ⟨b, pre ?_, hb2.trans ⟨fun h p hp hip => ?_, fun h p hp hip => h p hp (by omega)⟩⟩
        · rw [ho]
          refine im (by decide) ?_
          rw [next_i (by omega)]
          exact hb
        · by_cases hpi : p = i
          · subst hpi; exact ho
          · exact h p hp (by omega)
  obtain ⟨b, hb, hb2⟩ := loop n.list.length 0 (by omega) (Nat.zero_le _)
  refine ⟨b, ?_, hb2.trans ⟨fun h x hx => ?_, fun h p hp _ => h _ (List.getElem_mem hp)⟩⟩
  · cases n with
    | mk kind op v a b0 l =>
      simp only [Nod.pv, frozen] at hl ⊢
      rw [f8_eq 0]
      exact sb hl (ip (frozen_sh _ _) hb)
  · obtain ⟨p, hp, rfl⟩ := List.getElem_of_mem hx
    exact h p hp (Nat.zero_le _)
theorem formula_ev (n : Nod) (hok : n.ok) (hc : n.count ≤ 1000000) {r : Bool} (hr : D 8 [n.pv] = some (.sc (.bool r))) : ∃ b, D 9 [n.pv] = some (.sc (.bool b)) ∧ (b = true ↔ n.kd ≠ 4 ∧ n.deep ≤ 12 ∧ r = true) := by
  have hd := deep_ev n.count n (Nat.le_refl _) hc
  cases n with
  | mk kind op v a b0 l =>
    have hr' := hr
    have hd' := hd
    simp only [Nod.pv, frozen] at hr' hd' ⊢
    rw [f9_eq 0]
    generalize (Nod.mk kind op v a b0 l).deep = dp at hd'
    refine ⟨if (if (kind != 4) = true then decide ((dp : Int) ≤ 12) else false) = true then r else false, gt (fun _ => sb (sb hd' (ip rfl rfl)) rfl) (gt (fun _ => sb (sb hr' (ip rfl rfl)) rfl) rfl), ?_⟩
    rw [and_if, and_if]
    constructor
    · rintro ⟨⟨h1, h2⟩, h3⟩
      exact ⟨by show kind ≠ 4; simpa using h1, by have := of_decide_eq_true h2; omega, h3⟩
    · rintro ⟨h1, h2, h3⟩
      have h1' : kind ≠ 4 := h1
      exact ⟨⟨by simpa using h1', decide_eq_true (by omega)⟩, h3⟩
/-- WHAT IS RIGHT STAYS RIGHT. -/
theorem shiftKeeps (n : Nod) (hok : n.ok) (q : Q) : D 3 [n.pv, q.by, q.grid] = some (.sc (.bool true)) := by
  have hfew := few_ev n
  have hD : D 3 [n.pv, q.by, q.grid] = D 3 [n.pv, .agg [.sc (.int .i64 q.b), .sc (.int .i64 q.b1)], .agg [.sc (.int .i64 q.g), .sc (.int .i64 q.g1)]] := rfl
  by_cases hc : n.count ≤ 200
  · obtain ⟨r3, hm, hs, he⟩ := move_ev q n.count n (Nat.le_refl _) hok
    have hmc := mv_count q n
    obtain ⟨b8, h8, h8'⟩ := right_ev n hok (by omega)
    obtain ⟨b9, h9, h9'⟩ := formula_ev n hok (by omega) h8
    obtain ⟨c8, k8, k8'⟩ := right_ev (n.mv q) (mv_ok q n hok) (by omega)
    obtain ⟨c9, k9, k9'⟩ := formula_ev (n.mv q) (mv_ok q n hok) (by omega) k8
    have h10 := list_ev n.count n (Nat.le_refl _) (by omega)
    have k10 := list_ev (n.mv q).count (n.mv q) (Nat.le_refl _) (by omega)
    have r8 : b8 = true → c8 = true := fun h => k8'.2 fun y hy => by
      obtain ⟨x, hx, rfl⟩ := mv_list q n y hy
      obtain ⟨o1, o2⟩ := list_ok n hok x hx
      exact one_mv q o1 (by omega) (h8'.1 h x hx)
    have r9 : b9 = true → c9 = true := fun h => by
      obtain ⟨g1, g2, g3⟩ := h9'.1 h
      refine k9'.2 ⟨?_, Nat.le_trans (mv_deep q n) g2, r8 g3⟩
      rcases kd_mv q n with e | e
      · rw [e]; exact g1
      · rw [e]; decide
    rw [← he] at k8 k9 k10
    have hle : decide (((pvs (n.mv q).list).length : Int) ≤ ((pvs n.list).length : Int)) = true := by
      rw [pvs_len, pvs_len, list_len, list_len]
      exact decide_eq_true (by omega)
    rw [hD]
    cases n with
    | mk kind op v a b l =>
      simp only [Nod.pv, frozen] at hfew hm h8 h9 h10 ⊢
      rw [f3_eq 0]
      refine sb hfew (ip rfl (im (by show ¬ (!decide _) = true; rw [decide_eq_true hc]; decide) (sb hm (ip hs (sb h8 (ip rfl ?_))))))
      have fin : ∀ {r6 r7 : PV}, r6 = frozen 14 (pvs (Nod.mv q (.mk kind op v a b l)).list) → r7 = frozen 14 (pvs (Nod.mk kind op v a b l).list) → (if decide ((r6.len : Int) ≤ (r7.len : Int)) = true then
          (D 6 []).bind fun r8 => if hasSh .bool r8 = true then
          some (PV.sc (.bool r8.toBool))
          else none
        else
          some (PV.sc (.bool false))) = some (PV.sc (.bool true)) := fun e1 e2 => by
        subst e1; subst e2
        exact ip hle (sb alive_ev (ip rfl rfl))
      have tail9 : ∀ {r : Option PV}, some (PV.sc (.bool true)) = r → (if (!b9) = true then
          (D 10 [rbN r3]).bind fun r6 => if hasSh (.lst 14) r6 = true then
          (D 10 [PV.agg [PV.sc (.int .i64 kind), .sc (.int .i64 op), .sc (.int .i64 v.kind), .sc (.int .i64 v.num), .sc (.string v.text), .sc (.int .i64 a.row), .sc (.int .i64 a.col), .sc (.bool a.hr), .sc (.bool a.hc), .sc (.int .i64 b.row), .sc (.int .i64 b.col), .sc (.bool b.hr), .sc (.bool b.hc), .lst 14 (pvs l).length fun i => (pvs l).getD i .top]]).bind fun r7 => if hasSh (.lst 14) r7 = true then
          if decide ((r6.len : Int) ≤ (r7.len : Int)) = true then
            (D 6 []).bind fun r8 => if hasSh .bool r8 = true then
            some (PV.sc (.bool r8.toBool))
            else none
          else
            some (PV.sc (.bool false))
          else none
          else none
        else
          (D 9 [rbN r3]).bind fun r9 => if hasSh .bool r9 = true then
          if r9.toBool = true then
            (D 10 [rbN r3]).bind fun r10 => if hasSh (.lst 14) r10 = true then
            (D 10 [PV.agg [PV.sc (.int .i64 kind), .sc (.int .i64 op), .sc (.int .i64 v.kind), .sc (.int .i64 v.num), .sc (.string v.text), .sc (.int .i64 a.row), .sc (.int .i64 a.col), .sc (.bool a.hr), .sc (.bool a.hc), .sc (.int .i64 b.row), .sc (.int .i64 b.col), .sc (.bool b.hr), .sc (.bool b.hc), .lst 14 (pvs l).length fun i => (pvs l).getD i .top]]).bind fun r11 => if hasSh (.lst 14) r11 = true then
            if decide ((r10.len : Int) ≤ (r11.len : Int)) = true then
              (D 6 []).bind fun r12 => if hasSh .bool r12 = true then
              some (PV.sc (.bool r12.toBool))
              else none
            else
              some (PV.sc (.bool false))
            else none
            else none
          else
            some (PV.sc (.bool false))
          else none) = r := fun {r} hr => by
        subst hr
        cases b9 with
        | false => exact ip rfl (sb k10 (ip (frozen_sh _ _) (sb h10 (ip (frozen_sh _ _) (fin rfl rfl)))))
        | true =>
          rw [r9 rfl] at k9
          exact im (by decide) (sb k9 (ip rfl (ip rfl (sb k10 (ip (frozen_sh _ _) (sb h10 (ip (frozen_sh _ _) (fin rfl rfl))))))))
      cases b8 with
      | false => exact ip rfl (sb h9 (ip rfl (tail9 rfl)))
      | true =>
        rw [r8 rfl] at k8
        exact im (by decide) (sb k8 (ip rfl (ip rfl (sb h9 (ip rfl (tail9 rfl))))))
  · rw [hD]
    cases n with
    | mk kind op v a b l =>
      simp only [Nod.pv, frozen] at hfew ⊢
      rw [f3_eq 0]
      exact sb hfew (ip rfl (ip (by show (!decide _) = true; rw [decide_eq_false hc]; decide) (sb alive_ev (ip rfl rfl))))
end Go.Den.EA
