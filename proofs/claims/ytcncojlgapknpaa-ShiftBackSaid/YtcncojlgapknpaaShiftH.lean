/- There and back. -/
import Derived.Test.YtcncojlgapknpaaShiftG
set_option linter.unusedVariables false
set_option maxRecDepth 100000
namespace Go.Den.EA
open Go Go.Proofs
mutual
def Nod.lc : Nod → Nat
  | .mk kind _ _ _ _ l => (if kind = 2 then 1 else 0) + lcs l
def lcs : List Nod → Nat
  | [] => 0
  | n :: l => n.lc + lcs l
end
noncomputable def lostC (l : List Nod) : Nat := (l.filter fun x => x.kd == 2).length
mutual
theorem lc_list : ∀ n : Nod, lostC n.list = n.lc
  | .mk kind op v a b l => by
    have h := lcs_lists l
    rw [Nod.list, Nod.lc]
    unfold lostC at h ⊢
    rw [List.filter_cons]
    by_cases hk : kind = 2
    · subst hk
      rw [if_pos (by rfl), if_pos rfl, List.length_cons, h]
      omega
    · rw [if_neg (by show ¬ (kind == 2) = true; simpa using hk), if_neg hk, h]
      omega
theorem lcs_lists : ∀ l : List Nod, lostC (lists l) = lcs l
  | [] => rfl
  | n :: l => by
    have h1 := lc_list n
    have h2 := lcs_lists l
    rw [lists, lcs]
    unfold lostC at h1 h2 ⊢
    rw [List.filter_append, List.length_append, h1, h2]
end
mutual
/-- References have nothing below them. -/
def Nod.shp : Nod → Prop
  | .mk kind _ _ _ _ l => ((kind = 3 ∨ kind = 4) → l = []) ∧ shps l
def shps : List Nod → Prop
  | [] => True
  | n :: l => n.shp ∧ shps l
end
mutual
theorem shp_of : ∀ n : Nod, (∀ x, x ∈ n.list → oneP x) → n.shp
  | .mk kind op v a b l, h => by
    rw [Nod.shp]
    have h0 := h (.mk kind op v a b l) (by rw [Nod.list]; exact List.mem_cons_self)
    refine ⟨fun hk => ?_, shps_of l fun x hx => h x (by rw [Nod.list]; exact List.mem_cons_of_mem _ hx)⟩
    simp only [oneP] at h0
    rcases h0 with h | h | h | h | h | h | h
    · omega
    · omega
    · exact h.2.2.2.2.1
    · exact h.2.2.2.1
    · omega
    · omega
    · omega
theorem shps_of : ∀ l : List Nod, (∀ x, x ∈ lists l → oneP x) → shps l
  | [], _ => trivial
  | n :: l, h => by
    rw [shps]
    exact ⟨shp_of n fun x hx => h x (by rw [lists]; exact List.mem_append_left _ hx), shps_of l fun x hx => h x (by rw [lists]; exact List.mem_append_right _ hx)⟩
end
mutual
theorem shp_mv (q : Q) : ∀ n : Nod, n.shp → (n.mv q).shp
  | .mk kind op v a b l, h => by
    rw [Nod.shp] at h
    rcases mv_mk q kind op v a b l with e | ⟨a', b', e⟩
    · rw [e]; unfold lostN; rw [Nod.shp, shps]; exact ⟨fun h => by omega, trivial⟩
    · rw [e, Nod.shp]
      exact ⟨fun hk => by rw [h.1 hk]; rfl, shps_mv q l h.2⟩
theorem shps_mv (q : Q) : ∀ l : List Nod, shps l → shps (mvs q l)
  | [], _ => trivial
  | n :: l, h => by rw [shps] at h; rw [mvs, shps]; exact ⟨shp_mv q n h.1, shps_mv q l h.2⟩
end
mutual
/-- Nothing is lost. -/
def kept (q : Q) : Nod → Prop
  | .mk kind _ _ a b l => (kind = 3 → (refMv q a).isSome = true) ∧ (kind = 4 → (refMv q a).isSome = true ∧ (refMv q b).isSome = true) ∧ kepts q l
def kepts (q : Q) : List Nod → Prop
  | [] => True
  | n :: l => kept q n ∧ kepts q l
end
mutual
theorem lc_mv (q : Q) : ∀ n : Nod, n.shp → n.lc ≤ (n.mv q).lc ∧ ((n.mv q).lc ≤ n.lc → kept q n)
  | .mk kind op v a b l, h => by
    rw [Nod.shp] at h
    obtain ⟨i1, i2⟩ := lcs_mv q l h.2
    have ll : lostN.lc = 1 := rfl
    by_cases h3 : kind = 3
    · obtain rfl := h.1 (.inl h3)
      subst h3
      rw [Nod.mv, if_pos rfl]
      cases hm : refMv q a with
      | none =>
        rw [Nod.lc, if_neg (by decide), lcs]
        exact ⟨by rw [ll]; omega, fun hh => by rw [ll] at hh; omega⟩
      | some a' =>
        refine ⟨by rw [Nod.lc, Nod.lc, mvs]; exact Nat.le_refl _, fun _ => ?_⟩
        rw [kept]
        exact ⟨fun _ => by rw [hm]; rfl, fun h => by omega, trivial⟩
    · by_cases h4 : kind = 4
      · obtain rfl := h.1 (.inr h4)
        subst h4
        rw [Nod.mv, if_neg (by decide), if_pos rfl]
        cases hm : refMv q a with
        | none =>
          rw [Nod.lc, if_neg (by decide), lcs]
          exact ⟨by show 0 + 0 ≤ lostN.lc; rw [ll]; omega, fun hh => by
            have hh' : lostN.lc ≤ 0 + 0 := hh
            rw [ll] at hh'; omega⟩
        | some a' =>
          cases hm2 : refMv q b with
          | none =>
            rw [Nod.lc, if_neg (by decide), lcs]
            exact ⟨by show 0 + 0 ≤ lostN.lc; rw [ll]; omega, fun hh => by
              have hh' : lostN.lc ≤ 0 + 0 := hh
              rw [ll] at hh'; omega⟩
          | some b' =>
            refine ⟨by show _ ≤ (Nod.mk 4 op v a' b' (mvs q [])).lc; rw [Nod.lc, Nod.lc, mvs]; exact Nat.le_refl _, fun _ => ?_⟩
            rw [kept]
            exact ⟨fun h => by omega, fun _ => ⟨by rw [hm]; rfl, by rw [hm2]; rfl⟩, trivial⟩
      · rw [Nod.mv, if_neg h3, if_neg h4, Nod.lc, Nod.lc]
        refine ⟨by omega, fun hh => ?_⟩
        rw [kept]
        exact ⟨fun h => absurd h h3, fun h => absurd h h4, i2 (by omega)⟩
theorem lcs_mv (q : Q) : ∀ l : List Nod, shps l → lcs l ≤ lcs (mvs q l) ∧ (lcs (mvs q l) ≤ lcs l → kepts q l)
  | [], _ => ⟨Nat.le_refl _, fun _ => trivial⟩
  | n :: l, h => by
    rw [shps] at h
    obtain ⟨a1, a2⟩ := lc_mv q n h.1
    obtain ⟨b1, b2⟩ := lcs_mv q l h.2
    rw [mvs, lcs, lcs]
    refine ⟨by omega, fun hh => ?_⟩
    rw [kepts]
    exact ⟨a2 (by omega), b2 (by omega)⟩
end
/-- Two moves in one. -/
def Q.plus (q p : Q) : Q := ⟨q.b + p.b, q.b1 + p.b1, q.g, q.g1⟩
theorem to_to (q p : Q) (r : Rf) : (r.to q).to p = r.to (q.plus p) := by
  obtain ⟨row, col, hr, hc⟩ := r
  cases hr <;> cases hc <;> simp [Rf.to, Q.plus] <;> omega
theorem refMv_two {q p : Q} (hg : p.g = q.g ∧ p.g1 = q.g1) (hn : (q.plus p).near = true) {r r1 r2 : Rf} (h1 : refMv q r = some r1) (h2 : refMv p r1 = some r2) : refMv (q.plus p) r = some r2 := by
  obtain ⟨_, m1, e1, _⟩ := refMv_spec h1
  obtain ⟨_, _, e2, i1, i2, i3, i4⟩ := refMv_spec h2
  have e : r.to (q.plus p) = r2 := by rw [e2, e1, to_to]
  have eL : p.L = (q.plus p).L := by unfold Q.L; rw [hg.1]; rfl
  have eL1 : p.L1 = (q.plus p).L1 := by unfold Q.L1; rw [hg.2]; rfl
  unfold refMv
  rw [hn, m1, e]
  have hi : inGrid (q.plus p) r2 = true := by
    unfold inGrid
    rw [← eL, ← eL1]
    exact decide_eq_true ⟨i1, i2, i3, i4⟩
  rw [hi]
  rfl
mutual
theorem mv_two {q p : Q} (hg : p.g = q.g ∧ p.g1 = q.g1) (hn : (q.plus p).near = true) : ∀ n : Nod, kept q n → kept p (n.mv q) → (n.mv q).mv p = n.mv (q.plus p)
  | .mk kind op v a b l, h1, h2 => by
    rw [kept] at h1
    by_cases h3 : kind = 3
    · subst h3
      obtain ⟨a1, ha1⟩ := Option.isSome_iff_exists.1 (h1.1 rfl)
      rw [Nod.mv, if_pos rfl, ha1] at h2
      have h2' : kept p (.mk 3 op v a1 b (mvs q l)) := h2
      rw [kept] at h2'
      obtain ⟨a2, ha2⟩ := Option.isSome_iff_exists.1 (h2'.1 rfl)
      have hl := mvs_two hg hn l h1.2.2 h2'.2.2
      rw [Nod.mv, if_pos rfl, ha1]
      show Nod.mv p (.mk 3 op v a1 b (mvs q l)) = Nod.mv (q.plus p) (.mk 3 op v a b l)
      rw [Nod.mv, if_pos rfl, ha2, Nod.mv, if_pos rfl, refMv_two hg hn ha1 ha2, hl]
    · by_cases h4 : kind = 4
      · subst h4
        obtain ⟨s1, s2⟩ := h1.2.1 rfl
        obtain ⟨a1, ha1⟩ := Option.isSome_iff_exists.1 s1
        obtain ⟨b1, hb1⟩ := Option.isSome_iff_exists.1 s2
        rw [Nod.mv, if_neg (by decide), if_pos rfl, ha1, hb1] at h2
        have h2' : kept p (.mk 4 op v a1 b1 (mvs q l)) := h2
        rw [kept] at h2'
        obtain ⟨t1, t2⟩ := h2'.2.1 rfl
        obtain ⟨a2, ha2⟩ := Option.isSome_iff_exists.1 t1
        obtain ⟨b2, hb2⟩ := Option.isSome_iff_exists.1 t2
        have hl := mvs_two hg hn l h1.2.2 h2'.2.2
        rw [Nod.mv, if_neg (by decide), if_pos rfl, ha1, hb1]
        show Nod.mv p (.mk 4 op v a1 b1 (mvs q l)) = Nod.mv (q.plus p) (.mk 4 op v a b l)
        rw [Nod.mv, if_neg (by decide), if_pos rfl, ha2, hb2, Nod.mv, if_neg (by decide), if_pos rfl, refMv_two hg hn ha1 ha2, refMv_two hg hn hb1 hb2, hl]
      · rw [Nod.mv, if_neg h3, if_neg h4] at h2
        rw [kept] at h2
        have hl := mvs_two hg hn l h1.2.2 h2.2.2
        rw [Nod.mv, if_neg h3, if_neg h4, Nod.mv, if_neg h3, if_neg h4, Nod.mv, if_neg h3, if_neg h4, hl]
theorem mvs_two {q p : Q} (hg : p.g = q.g ∧ p.g1 = q.g1) (hn : (q.plus p).near = true) : ∀ l : List Nod, kepts q l → kepts p (mvs q l) → mvs p (mvs q l) = mvs (q.plus p) l
  | [], _, _ => rfl
  | n :: l, h1, h2 => by
    rw [kepts] at h1
    rw [mvs, kepts] at h2
    rw [mvs, mvs, mvs, mv_two hg hn n h1.1 h2.1, mvs_two hg hn l h1.2 h2.2]
end
/-- No move. -/
theorem to_zero {q : Q} (h0 : q.b = 0) (h1 : q.b1 = 0) (r : Rf) : r.to q = r := by
  obtain ⟨row, col, hr, hc⟩ := r
  simp [Rf.to, h0, h1]
mutual
theorem mv_zero {q : Q} (h0 : q.b = 0) (h1 : q.b1 = 0) : ∀ n : Nod, kept q n → n.mv q = n
  | .mk kind op v a b l, h => by
    rw [kept] at h
    have hl := mvs_zero h0 h1 l h.2.2
    by_cases h3 : kind = 3
    · subst h3
      obtain ⟨a1, ha1⟩ := Option.isSome_iff_exists.1 (h.1 rfl)
      obtain ⟨_, _, e, _⟩ := refMv_spec ha1
      rw [to_zero h0 h1] at e
      rw [Nod.mv, if_pos rfl, ha1, hl, e]
    · by_cases h4 : kind = 4
      · subst h4
        obtain ⟨s1, s2⟩ := h.2.1 rfl
        obtain ⟨a1, ha1⟩ := Option.isSome_iff_exists.1 s1
        obtain ⟨b1, hb1⟩ := Option.isSome_iff_exists.1 s2
        obtain ⟨_, _, e, _⟩ := refMv_spec ha1
        obtain ⟨_, _, e2, _⟩ := refMv_spec hb1
        rw [to_zero h0 h1] at e e2
        rw [Nod.mv, if_neg (by decide), if_pos rfl, ha1, hb1, hl, e, e2]
      · rw [Nod.mv, if_neg h3, if_neg h4, hl]
theorem mvs_zero {q : Q} (h0 : q.b = 0) (h1 : q.b1 = 0) : ∀ l : List Nod, kepts q l → mvs q l = l
  | [], _ => rfl
  | n :: l, h => by
    rw [kepts] at h
    rw [mvs, mv_zero h0 h1 n h.1, mvs_zero h0 h1 l h.2]
end
mutual
theorem kept_two {q p : Q} (hg : p.g = q.g ∧ p.g1 = q.g1) (hn : (q.plus p).near = true) : ∀ n : Nod, kept q n → kept p (n.mv q) → kept (q.plus p) n
  | .mk kind op v a b l, h1, h2 => by
    rw [kept] at h1 ⊢
    by_cases h3 : kind = 3
    · subst h3
      obtain ⟨a1, ha1⟩ := Option.isSome_iff_exists.1 (h1.1 rfl)
      rw [Nod.mv, if_pos rfl, ha1] at h2
      have h2' : kept p (.mk 3 op v a1 b (mvs q l)) := h2
      rw [kept] at h2'
      obtain ⟨a2, ha2⟩ := Option.isSome_iff_exists.1 (h2'.1 rfl)
      exact ⟨fun _ => by rw [refMv_two hg hn ha1 ha2]; rfl, fun h => by omega, kepts_two hg hn l h1.2.2 h2'.2.2⟩
    · by_cases h4 : kind = 4
      · subst h4
        obtain ⟨s1, s2⟩ := h1.2.1 rfl
        obtain ⟨a1, ha1⟩ := Option.isSome_iff_exists.1 s1
        obtain ⟨b1, hb1⟩ := Option.isSome_iff_exists.1 s2
        rw [Nod.mv, if_neg (by decide), if_pos rfl, ha1, hb1] at h2
        have h2' : kept p (.mk 4 op v a1 b1 (mvs q l)) := h2
        rw [kept] at h2'
        obtain ⟨t1, t2⟩ := h2'.2.1 rfl
        obtain ⟨a2, ha2⟩ := Option.isSome_iff_exists.1 t1
        obtain ⟨b2, hb2⟩ := Option.isSome_iff_exists.1 t2
        exact ⟨fun h => by omega, fun _ => ⟨by rw [refMv_two hg hn ha1 ha2]; rfl, by rw [refMv_two hg hn hb1 hb2]; rfl⟩, kepts_two hg hn l h1.2.2 h2'.2.2⟩
      · rw [Nod.mv, if_neg h3, if_neg h4] at h2
        rw [kept] at h2
        exact ⟨fun h => absurd h h3, fun h => absurd h h4, kepts_two hg hn l h1.2.2 h2.2.2⟩
theorem kepts_two {q p : Q} (hg : p.g = q.g ∧ p.g1 = q.g1) (hn : (q.plus p).near = true) : ∀ l : List Nod, kepts q l → kepts p (mvs q l) → kepts (q.plus p) l
  | [], _, _ => trivial
  | n :: l, h1, h2 => by
    rw [kepts] at h1 ⊢
    rw [mvs, kepts] at h2
    exact ⟨kept_two hg hn n h1.1 h2.1, kepts_two hg hn l h1.2 h2.2⟩
end
/-- lost. -/
theorem lost_ev (n : Nod) (hc : n.count ≤ 1000000) : D 11 [n.pv] = some (.sc (.int .i64 (n.lc : Int))) := by
  have hl := list_ev n.count n (Nat.le_refl _) hc
  have hlen := list_len n
  have hpl := pvs_len n.list
  have loop : ∀ (j i : Nat) (c : Nat), n.list.length - i = j → i ≤ n.list.length → c ≤ i → f11.l0a 0 (c : Int) (pvs n.list).length (fun i => (pvs n.list).getD i .top) ((pvs n.list).length : Int) (i : Int) = some (.sc (.int .i64 ((c + lostC (n.list.drop i) : Nat) : Int))) := by
    intro j
    induction j with
    | zero =>
      intro i c hj hi hci
      rw [f11.l0a_eq]
      refine im (fun hh => by have := of_decide_eq_true hh; omega) ?_
      rw [List.drop_eq_nil_of_le (by omega)]
      rfl
    | succ j ih =>
      intro i c hj hi hci
      have hi' : i < n.list.length := by omega
      rw [f11.l0a_eq]
      refine ip (decide_eq_true (by omega)) (ip (by omega) (ip (by omega) (ip (by rw [at_i hi']; exact sh_pv _) ?_)))
      rw [at_i hi', next_i (by omega), next_i (by omega)]
      have ek : (cel 0 (n.list[i].pv).cells).toInt = n.list[i].kd := by cases n.list[i]; rfl
      rw [ek, drop_cons hi']
      unfold lostC
      rw [List.filter_cons]
      by_cases h2 : n.list[i].kd = 2
      · rw [if_pos (by simpa using h2), if_pos (by simpa using h2)]
        refine (ih (i + 1) (c + 1) (by omega) (by omega) (by omega)).trans ?_
        unfold lostC
        rw [List.length_cons]
        congr 4
        omega
      · rw [if_neg (by simpa using h2), if_neg (by simpa using h2)]
        exact ih (i + 1) c (by omega) (by omega) (by omega)
  have h := loop n.list.length 0 0 (by omega) (Nat.zero_le _) (Nat.le_refl _)
  rw [List.drop_zero, lc_list, Nat.zero_add] at h
  cases n with
  | mk kind op v a b l =>
    simp only [Nod.pv, frozen] at hl ⊢
    rw [f11_eq 0]
    exact sb hl (ip (frozen_sh _ _) h)
/-- A tree is the same as itself. -/
theorem same_ev (n : Nod) (hc : n.count ≤ 1000000) : D 12 [n.pv, n.pv] = some (.sc (.bool true)) := by
  have hl := list_ev n.count n (Nat.le_refl _) hc
  have hlen := list_len n
  have hpl := pvs_len n.list
  have loop : ∀ (j i : Nat), n.list.length - i = j → i ≤ n.list.length → f12.l0a 0 (pvs n.list).length (fun i => (pvs n.list).getD i .top) (pvs n.list).length (fun i => (pvs n.list).getD i .top) (i : Int) = some (.sc (.bool true)) := by
    intro j
    induction j with
    | zero =>
      intro i hj hi
      rw [f12.l0a_eq]
      exact im (fun hh => by have := of_decide_eq_true hh; omega) rfl
    | succ j ih =>
      intro i hj hi
      have hi' : i < n.list.length := by omega
      have h0 : 0 ≤ (i : Int) := by omega
      have h1 : (i : Int) < ((pvs n.list).length : Int) := by omega
      have hs : hasSh shN ((pvs n.list).getD ((i : Int).toNat) .top) = true := by rw [at_i hi']; exact sh_pv _
      have hi2 := ih (i + 1) (by omega) (by omega)
      rw [f12.l0a_eq]
      simp only [if_pos h0, if_pos h1, if_pos hs, bne_self_eq_false, beq_self_eq_true, Bool.and_true, Bool.not_true, Option.bind_some, PV.toBool, Bool.false_eq_true, if_false, decide_eq_true h1, if_true]
      rw [next_i (by omega)]
      exact hi2
  have h := loop n.list.length 0 (by omega) (Nat.zero_le _)
  cases n with
  | mk kind op v a b l =>
    simp only [Nod.pv, frozen] at hl ⊢
    rw [f12_eq 0]
    exact sb hl (ip (frozen_sh _ _) (sb hl (ip (frozen_sh _ _) (im (by simp) h))))
end Go.Den.EA
