/- Which nodes are as told; it stays so. -/
import Derived.Test.YtcncojlgapknpaaShiftD
import Derived.KernelRfl
set_option linter.unusedVariables false
set_option maxRecDepth 100000
namespace Go.Den.EA
open Go Go.Proofs
def strOk (x : PV) : Bool := match x with
  | .sc (.string s) => decide (2 ≤ s.size)
  | _ => false
theorem rows_ev : ∃ l, D 28 [] = some (frozen 1 l) ∧ l.length = 78 ∧ l.all strOk = true := ⟨_, f28_eq 0, by kernel_rfl, by kernel_rfl⟩
theorem row_at : ∃ l, D 28 [] = some (frozen 1 l) ∧ l.length = 78 ∧ ∀ p : Nat, p < 78 → ∃ s, l.getD p .top = .sc (.string s) ∧ 2 ≤ s.size := by
  obtain ⟨l, h1, h2, h3⟩ := rows_ev
  refine ⟨l, h1, h2, fun p hp => ?_⟩
  have hx := List.all_eq_true.1 h3 l[p] (List.getElem_mem (by omega))
  have e : l.getD p .top = l[p] := by simp [show p < l.length by omega]
  rw [e]
  unfold strOk at hx
  split at hx
  · rename_i s hs
    exact ⟨s, hs, of_decide_eq_true hx⟩
  · cases hx
theorem out_cond (op : Int) : (PV.sc (.bool (if decide (op < 1) = true then true else decide (op > 78)))).toBool = true ↔ ¬ (1 ≤ op ∧ op ≤ 78) := by
  show (if decide (op < 1) = true then true else decide (op > 78)) = true ↔ _
  by_cases h : op < 1
  · rw [if_pos (decide_eq_true h)]; simp; omega
  · rw [if_neg (by simpa using h)]; simp; omega
theorem fits_ev (op n : Int) : IsB (D 23 [.sc (.int .i64 op), .sc (.int .i64 n)]) := by
  rw [f23_eq 0]
  by_cases ho : 1 ≤ op ∧ op ≤ 78
  · obtain ⟨l, h1, h2, h3⟩ := row_at
    have hw : IntKind.i64.wrap (op - 1) = op - 1 := w64 (by omega) (by omega)
    obtain ⟨s, hs, hl⟩ := h3 (op - 1).toNat (by omega)
    have e : (frozen 1 l).at (IntKind.i64.wrap (op - 1)).toNat = .sc (.string s) := by rw [hw]; exact hs
    have goal : IsB (Option.bind (α := PV) (β := PV) (
              if decide (n ≥ (IntKind.i64.wrap ((IntKind.i64.wrap (bt s 0)) - 48))) = true then
                Option.bind (α := PV) (β := PV) (
                  Option.bind (α := PV) (β := PV) (
                    if 1 < (s.size : Int) then
                      some (.sc (.bool (decide (n ≤ (IntKind.i64.wrap ((IntKind.i64.wrap (bt s 1)) - 48))))))
                    else none) fun r3 =>
                  some (.sc (.bool r3.toBool))) fun r4 =>
                some (.sc (.bool r4.toBool))
              else
                some (.sc (.bool false))) fun r5 =>
            some (.sc (.bool r5.toBool))) :=
      IsB.bind (IsB.ite (IsB.bind (IsB.bind (IsB.pos (by omega) (IsB.now _)) fun _ => IsB.now _) fun _ => IsB.now _) (IsB.now _)) fun _ => IsB.now _
    obtain ⟨b, hb⟩ := goal
    refine ⟨b, gb (im (fun hh => (out_cond op).1 hh ho) (sb h1 (ip (frozen_sh _ _) (ip (by rw [hw]; omega) (ip (by rw [hw, frozen_len]; omega) (ip (by rw [e]; rfl) ?_))))))⟩
    rw [e]
    exact ip (by show (0 : Int) < (s.size : Int); omega) hb
  · exact ⟨false, gb (ip ((out_cond op).2 ho) rfl)⟩
theorem kind_ev (op i : Int) (h0 : 0 ≤ i) (h1 : i ≤ 1000000000) : IsI .u8 (D 24 [.sc (.int .i64 op), .sc (.int .i64 i)]) := by
  rw [f24_eq 0]
  by_cases ho : 1 ≤ op ∧ op ≤ 78
  · obtain ⟨l, g1, g2, g3⟩ := row_at
    have hw : IntKind.i64.wrap (op - 1) = op - 1 := w64 (by omega) (by omega)
    obtain ⟨s, hs, hl⟩ := g3 (op - 1).toNat (by omega)
    have e : (frozen 1 l).at (IntKind.i64.wrap (op - 1)).toNat = .sc (.string s) := by rw [hw]; exact hs
    have hc : ¬ (PV.sc (.bool (if (PV.sc (.bool (if decide (op < 1) = true then true else decide (op > 78)))).toBool = true then true else decide (i < 0)))).toBool = true := by
      show ¬ (if (PV.sc (.bool (if decide (op < 1) = true then true else decide (op > 78)))).toBool = true then true else decide (i < 0)) = true
      rw [if_neg (fun hh => (out_cond op).1 hh ho)]
      simp; omega
    have hw2 : IntKind.i64.wrap ((2 : Int) + i) = 2 + i := w64 (by omega) (by omega)
    by_cases c1 : i ≥ IntKind.i64.wrap ((IntKind.i64.wrap (bt s 1)) - 48)
    · refine ⟨0, gb (gb (im hc (sb g1 (ip (frozen_sh _ _) (ip (by rw [hw]; omega) (ip (by rw [hw, frozen_len]; omega) (ip (by rw [e]; rfl) ?_)))))))⟩
      rw [e]
      exact ip (by show (1 : Int) < (s.size : Int); omega) (ip (decide_eq_true c1) rfl)
    · by_cases c2 : 2 + i < (s.size : Int)
      · refine ⟨bt s (2 + i), gb (gb (im hc (sb g1 (ip (frozen_sh _ _) (ip (by rw [hw]; omega) (ip (by rw [hw, frozen_len]; omega) (ip (by rw [e]; rfl) ?_)))))))⟩
        rw [e, hw2]
        exact ip (by show (1 : Int) < (s.size : Int); omega) (im (fun hh => c1 (of_decide_eq_true hh)) (ip (decide_eq_true c2) (ip (by omega) (ip c2 rfl))))
      · by_cases hbig : s.size ≤ 9223372036854775807
        · have hw3 : IntKind.i64.wrap ((s.size : Int) - 1) = (s.size : Int) - 1 := w64 (by omega) (by omega)
          refine ⟨bt s (IntKind.i64.wrap ((s.size : Int) - 1)), gb (gb (im hc (sb g1 (ip (frozen_sh _ _) (ip (by rw [hw]; omega) (ip (by rw [hw, frozen_len]; omega) (ip (by rw [e]; rfl) ?_)))))))⟩
          rw [e, hw2]
          refine ip (by show (1 : Int) < (s.size : Int); omega) (im (fun hh => c1 (of_decide_eq_true hh)) (im (fun hh => c2 (of_decide_eq_true hh)) ?_))
          exact ip (by show 0 ≤ IntKind.i64.wrap ((s.size : Int) - 1); rw [hw3]; omega) (ip (by show IntKind.i64.wrap ((s.size : Int) - 1) < (s.size : Int); rw [hw3]; omega) rfl)
        · omega
  · refine ⟨0, gb (gb (ip ?_ rfl))⟩
    show (if (PV.sc (.bool (if decide (op < 1) = true then true else decide (op > 78)))).toBool = true then true else decide (i < 0)) = true
    rw [if_pos ((out_cond op).2 ho)]
noncomputable def labOk (t : ByteArray) : Bool := (cel 2 ((D 27 [.sc (.string t)]).getD .top).cells).toBool
noncomputable def Nod.kd : Nod → Int
  | .mk kind _ _ _ _ _ => kind
noncomputable def Nod.vl : Nod → Vl
  | .mk _ _ v _ _ _ => v
noncomputable def argV (kb : Int) (x : Nod) : Bool :=
  if (if (kb == 118) = true then true else (kb == 101)) = true then (x.kd != 4) else
  if (if (kb == 114) = true then true else (kb == 110)) = true then (if decide (x.kd ≥ 2) = true then decide (x.kd ≤ 4) else false) else
  if (kb == 116) = true then (if (if (x.kd == 1) = true then (x.vl.kind == 2) else false) = true then labOk x.vl.text else false) else (kb == 108)
theorem arg_ev (kb : Int) (x : Nod) (hx : x.ok) : D 22 [.sc (.int .u8 kb), x.pv] = some (.sc (.bool (argV kb x))) := by
  cases x with
  | mk kind op v a b l =>
    rw [Nod.ok] at hx
    simp only [Nod.pv, frozen]
    rw [f22_eq 0]
    unfold argV
    simp only [Nod.kd, Nod.vl]
    refine gb ?_
    by_cases h1 : (if (kb == 118) = true then true else (kb == 101)) = true
    · rw [if_pos h1]
      exact ip h1 rfl
    · rw [if_neg h1]
      refine im h1 (gb ?_)
      by_cases h2 : (if (kb == 114) = true then true else (kb == 110)) = true
      · rw [if_pos h2]
        exact ip h2 (gb rfl)
      · rw [if_neg h2]
        refine im h2 ?_
        by_cases h3 : (kb == 116) = true
        · refine Eq.trans (ip h3 (Eq.refl _)) ?_
          rw [if_pos h3]
          refine gb ?_
          refine gt (x := labOk v.text) (fun _ => ?_) rfl
          obtain ⟨a', b', ok, h27⟩ := label_ev v.text hx.1
          have e : labOk v.text = ok := by unfold labOk; rw [h27]; rfl
          rw [e]
          exact sb (sb (sb (sb h27 (ip rfl rfl)) rfl) rfl) rfl
        · refine im h3 ?_
          rw [if_neg h3]
noncomputable def fitsV (op n : Int) : Bool := ((D 23 [.sc (.int .i64 op), .sc (.int .i64 n)]).getD .top).toBool
noncomputable def kindV (op i : Int) : Int := ((D 24 [.sc (.int .i64 op), .sc (.int .i64 i)]).getD .top).toInt
def rz (r : Rf) : Bool := ((r.row == 0) && ((r.col == 0) && ((r.hr == false) && ((r.hc == false) && true))))
def vz (v : Vl) : Bool := ((v.kind == 0) && ((v.num == 0) && ((v.text.toList == (⟨#[]⟩ : ByteArray).toList) && true)))
def bareB (v : Vl) (a b : Rf) : Bool := if (if vz v = true then rz a else false) = true then rz b else false
/-- As told. -/
def oneP : Nod → Prop
  | .mk kind op v a b l => (kind = 1 ∧ l = []) ∨ (kind = 2 ∧ op = 0 ∧ bareB v a b = true ∧ l = []) ∨ (kind = 3 ∧ op = 0 ∧ vz v = true ∧ rz b = true ∧ l = [] ∧ may a.row a.col = true) ∨
    (kind = 4 ∧ op = 0 ∧ vz v = true ∧ l = [] ∧ may a.row a.col = true ∧ may b.row b.col = true) ∨ (kind = 5 ∧ op = 0 ∧ bareB v a b = true ∧ ∃ x, l = [x] ∧ argV 118 x = true) ∨
    (kind = 6 ∧ 1 ≤ op ∧ op ≤ 12 ∧ bareB v a b = true ∧ ∃ x y, l = [x, y] ∧ argV 118 x = true ∧ argV 118 y = true) ∨
    (kind = 7 ∧ bareB v a b = true ∧ fitsV op (l.length : Int) = true ∧ ∀ i (h : i < l.length), argV (kindV op (i : Int)) l[i] = true)
theorem len0 {l : List Nod} : (((pvs l).length : Int) == 0) = true ↔ l = [] := by
  rw [pvs_len, beq_iff_eq]
  constructor
  · intro h; exact List.eq_nil_of_length_eq_zero (by omega)
  · rintro rfl; rfl
/-- Does D 15 answer b, and what it says. -/
def Tells (u : Option PV) (n : Nod) : Prop := ∃ b, u = some (.sc (.bool b)) ∧ (b = true → oneP n) ∧ (n.kd ≠ 1 → oneP n → b = true)
theorem and_if {x y : Bool} : (if x = true then y else false) = true ↔ x = true ∧ y = true := by cases x <;> simp
theorem plain_loop (op : Int) (v : Vl) (a b : Rf) (l : List Nod) (hv : v.text.size ≤ 9223372036854775807) : ∃ r, f15.l0a 0 0 1 op v.kind v.num v.text a.row a.col a.hr a.hc b.row b.col b.hr b.hc (pvs l).length (fun i => (pvs l).getD i .top) 0 0 false false = some (.sc (.bool r)) ∧ (r = true → l = []) := by
  have loop : ∀ (j : Nat) (i : Int), ((v.text.size : Int) - i).toNat = j → 0 ≤ i → i ≤ (v.text.size : Int) → ∃ r, f15.l0a 0 i 1 op v.kind v.num v.text a.row a.col a.hr a.hc b.row b.col b.hr b.hc (pvs l).length (fun i => (pvs l).getD i .top) 0 0 false false = some (.sc (.bool r)) ∧ (r = true → l = []) := by
    intro j
    induction j with
    | zero =>
      intro i hj h0 h1
      rw [f15.l0a_eq]
      obtain ⟨m, hm⟩ := mayV_ev v
      refine ⟨_, im (fun hh => by have := of_decide_eq_true hh; omega) (gb (gb (gb (gb (gb (gb (gt (x := m) (fun _ => sb (sb (sb hm (ip rfl rfl)) rfl) rfl) rfl))))))), fun h => ?_⟩
      have h2 := (and_if.1 (and_if.1 (and_if.1 (and_if.1 h).1).1).1).1
      exact len0.1 (and_if.1 h2).2
    | succ j ih =>
      intro i hj h0 h1
      rw [f15.l0a_eq]
      have hlt : i < (v.text.size : Int) := by omega
      have h19 : IsB (D 19 [.sc (.int .u8 (bt v.text i))]) := by
        rw [f19_eq 0]
        exact IsB.bind (IsB.ite (IsB.now _) (IsB.now _)) fun _ => IsB.now _
      obtain ⟨p, hp⟩ := h19
      cases p with
      | false => exact ⟨false, ip (decide_eq_true hlt) (ip h0 (ip hlt (sb hp (ip rfl (ip rfl rfl))))), fun h => by cases h⟩
      | true =>
        obtain ⟨r, hr, hr2⟩ := ih (i + 1) (by omega) (by omega) (by omega)
        refine ⟨r, ip (decide_eq_true hlt) (ip h0 (ip hlt (sb hp (ip rfl (im (by show ¬ (!true) = true; decide) ?_))))), hr2⟩
        rw [w64 (by omega) (by omega)]
        exact hr
  exact loop _ 0 rfl (by omega) (by omega)
theorem len2 {l : List Nod} (h : l.length = 2) : ∃ x y, l = [x, y] := by
  match l, h with
  | [x, y], _ => exact ⟨x, y, rfl⟩
theorem one_ev (n : Nod) (hok : n.ok) (hc : n.count ≤ 1000000) : Tells (D 15 [n.pv]) n := by
  cases n with
  | mk kind op v a b l =>
    rw [Nod.ok] at hok
    rw [Nod.count] at hc
    have hlen := len_counts l
    have hpl := pvs_len l
    unfold Tells
    simp only [Nod.pv, frozen]
    rw [f15_eq 0]
    have argL : ∀ (i : Nat) (hi : i < l.length) (kb : Int), D 22 [.sc (.int .u8 kb), rbN ((pvs l).getD i .top)] = some (.sc (.bool (argV kb l[i]))) := fun i hi kb => by
      rw [pvs_get hi, rb_pv]
      exact arg_ev kb _ (oks_mem hok.2.1 (List.getElem_mem hi))
    have shL : ∀ (i : Nat) (hi : i < l.length), hasSh shN ((pvs l).getD i .top) = true := fun i hi => by rw [pvs_get hi]; exact sh_pv _
    by_cases k1 : kind = 1
    · subst k1
      obtain ⟨r, hr, hr2⟩ := plain_loop op v a b l hok.1
      exact ⟨r, gb (gb (ip (by decide) hr)), fun h => .inl ⟨rfl, hr2 h⟩, fun h => absurd rfl h⟩
    have n1 : ¬ (kind == 1) = true := by simpa using k1
    by_cases k2 : kind = 2
    · subst k2
      refine ⟨if (if (op == 0) = true then bareB v a b else false) = true then (((pvs l).length : Int) == 0) else false, gb (gb (im n1 (ip (by decide) (gb (gb rfl))))), fun h => ?_, fun _ h => ?_⟩
      · obtain ⟨h1, h2⟩ := and_if.1 h
        obtain ⟨h3, h4⟩ := and_if.1 h1
        exact .inr (.inl ⟨rfl, by simpa using h3, h4, len0.1 h2⟩)
      · simp only [oneP] at h
        rcases h with h | h | h | h | h | h | h <;> first | (exact absurd h.1 (by decide)) | skip
        obtain ⟨_, h1, h2, h3⟩ := h
        rw [and_if, and_if]
        exact ⟨⟨by simpa using h1, h2⟩, len0.2 h3⟩
    have n2 : ¬ (kind == 2) = true := by simpa using k2
    by_cases k3 : kind = 3
    · subst k3
      refine ⟨if (if (if (if (op == 0) = true then vz v else false) = true then rz b else false) = true then (((pvs l).length : Int) == 0) else false) = true then may a.row a.col else false, gb (gb (im n1 (im n2 (ip (by decide) (gb (gb (gb (gt (fun _ => sb (sb (sb (refB_ev a) (ip rfl rfl)) rfl) rfl) rfl)))))))), fun h => ?_, fun _ h => ?_⟩
      · obtain ⟨h, g1⟩ := and_if.1 h
        obtain ⟨h, g2⟩ := and_if.1 h
        obtain ⟨h, g3⟩ := and_if.1 h
        obtain ⟨h, g4⟩ := and_if.1 h
        exact .inr (.inr (.inl ⟨rfl, by simpa using h, g4, g3, len0.1 g2, g1⟩))
      · simp only [oneP] at h
        rcases h with h | h | h | h | h | h | h <;> first | (exact absurd h.1 (by decide)) | skip
        obtain ⟨_, h1, h2, h3, h4, h5⟩ := h
        exact and_if.2 ⟨and_if.2 ⟨and_if.2 ⟨and_if.2 ⟨by simpa using h1, h2⟩, h3⟩, len0.2 h4⟩, h5⟩
    have n3 : ¬ (kind == 3) = true := by simpa using k3
    by_cases k4 : kind = 4
    · subst k4
      refine ⟨if (if (if (if (op == 0) = true then vz v else false) = true then (((pvs l).length : Int) == 0) else false) = true then may a.row a.col else false) = true then may b.row b.col else false, gb (gb (im n1 (im n2 (im n3 (ip (by decide) (gb (gb (gt (fun _ => sb (sb (sb (refB_ev a) (ip rfl rfl)) rfl) rfl) (gt (fun _ => sb (sb (sb (refB_ev b) (ip rfl rfl)) rfl) rfl) rfl))))))))), fun h => ?_, fun _ h => ?_⟩
      · obtain ⟨h, g1⟩ := and_if.1 h
        obtain ⟨h, g2⟩ := and_if.1 h
        obtain ⟨h, g3⟩ := and_if.1 h
        obtain ⟨h, g4⟩ := and_if.1 h
        exact .inr (.inr (.inr (.inl ⟨rfl, by simpa using h, g4, len0.1 g3, g2, g1⟩)))
      · simp only [oneP] at h
        rcases h with h | h | h | h | h | h | h <;> first | (exact absurd h.1 (by decide)) | skip
        obtain ⟨_, h1, h2, h3, h4, h5⟩ := h
        exact and_if.2 ⟨and_if.2 ⟨and_if.2 ⟨and_if.2 ⟨by simpa using h1, h2⟩, len0.2 h3⟩, h4⟩, h5⟩
    have n4 : ¬ (kind == 4) = true := by simpa using k4
    by_cases k5 : kind = 5
    · subst k5
      refine ⟨if (if (if (op == 0) = true then bareB v a b else false) = true then (((pvs l).length : Int) == 1) else false) = true then (if h : 0 < l.length then argV 118 l[0] else false) else false, gb (gb (im n1 (im n2 (im n3 (im n4 (ip (by decide) (gb (gb (gt (fun hc => ?_) rfl))))))))), fun h => ?_, fun _ h => ?_⟩
      · have h0 : (if (if (op == 0) = true then bareB v a b else false) = true then (((pvs l).length : Int) == 1) else false) = true := hc
        have h1 := (and_if.1 h0).2
        rw [beq_iff_eq, hpl] at h1
        have hl : 0 < l.length := by omega
        rw [dif_pos hl]
        exact sb (sb (ip (by rw [hpl]; omega) (ip (shL 0 hl) (sb (sb (sb (argL 0 hl 118) (ip rfl rfl)) rfl) rfl))) rfl) rfl
      · obtain ⟨h, h4⟩ := and_if.1 h
        obtain ⟨h, h3⟩ := and_if.1 h
        obtain ⟨h1, h2⟩ := and_if.1 h
        rw [beq_iff_eq, hpl] at h3
        obtain ⟨x, rfl⟩ := List.length_eq_one_iff.1 (show l.length = 1 by omega)
        rw [dif_pos (by simp)] at h4
        exact .inr (.inr (.inr (.inr (.inl ⟨rfl, by simpa using h1, h2, x, rfl, h4⟩))))
      · simp only [oneP] at h
        rcases h with h | h | h | h | h | h | h <;> first | (exact absurd h.1 (by decide)) | skip
        obtain ⟨_, h1, h2, x, rfl, h3⟩ := h
        refine and_if.2 ⟨and_if.2 ⟨and_if.2 ⟨by simpa using h1, h2⟩, rfl⟩, ?_⟩
        rw [dif_pos (by simp)]
        exact h3
    have n5 : ¬ (kind == 5) = true := by simpa using k5
    by_cases k6 : kind = 6
    · subst k6
      refine ⟨if (if (if (if (if decide (op ≥ 1) = true then decide (op ≤ 12) else false) = true then bareB v a b else false) = true then (((pvs l).length : Int) == 2) else false) = true then (if h : 0 < l.length then argV 118 l[0] else false) else false) = true then (if h : 1 < l.length then argV 118 l[1] else false) else false, gb (gb (im n1 (im n2 (im n3 (im n4 (im n5 (ip (by decide) (gb (gb (gb (gt (x := if h : 0 < l.length then argV 118 l[0] else false) (fun hc => ?_) (gt (x := if h : 1 < l.length then argV 118 l[1] else false) (fun hc => ?_) rfl)))))))))))), fun h => ?_, fun _ h => ?_⟩
      · have h0 : (if (if (if decide (op ≥ 1) = true then decide (op ≤ 12) else false) = true then bareB v a b else false) = true then (((pvs l).length : Int) == 2) else false) = true := hc
        have h1 := (and_if.1 h0).2
        rw [beq_iff_eq, hpl] at h1
        have hl : 0 < l.length := by omega
        rw [dif_pos hl]
        exact sb (sb (ip (by rw [hpl]; omega) (ip (shL 0 hl) (sb (sb (sb (argL 0 hl 118) (ip rfl rfl)) rfl) rfl))) rfl) rfl
      · have h0 : (if (if (if (if decide (op ≥ 1) = true then decide (op ≤ 12) else false) = true then bareB v a b else false) = true then (((pvs l).length : Int) == 2) else false) = true then (if h : 0 < l.length then argV 118 l[0] else false) else false) = true := hc
        have h1 := (and_if.1 (and_if.1 h0).1).2
        rw [beq_iff_eq, hpl] at h1
        have hl : 1 < l.length := by omega
        rw [dif_pos hl]
        exact sb (sb (ip (by rw [hpl]; omega) (ip (shL 1 hl) (sb (sb (sb (argL 1 hl 118) (ip rfl rfl)) rfl) rfl))) rfl) rfl
      · obtain ⟨h, h6⟩ := and_if.1 h
        obtain ⟨h, h5⟩ := and_if.1 h
        obtain ⟨h, h4⟩ := and_if.1 h
        obtain ⟨h, h3⟩ := and_if.1 h
        obtain ⟨h1, h2⟩ := and_if.1 h
        rw [beq_iff_eq, hpl] at h4
        obtain ⟨x, y, rfl⟩ := len2 (show l.length = 2 by omega)
        rw [dif_pos (by simp)] at h5
        rw [dif_pos (by simp)] at h6
        exact .inr (.inr (.inr (.inr (.inr (.inl ⟨rfl, of_decide_eq_true h1, of_decide_eq_true h2, h3, x, y, rfl, h5, h6⟩)))))
      · simp only [oneP] at h
        rcases h with h | h | h | h | h | h | h <;> first | (exact absurd h.1 (by decide)) | skip
        obtain ⟨_, h1, h2, h3, x, y, rfl, h4, h5⟩ := h
        refine and_if.2 ⟨and_if.2 ⟨and_if.2 ⟨and_if.2 ⟨and_if.2 ⟨decide_eq_true h1, decide_eq_true h2⟩, h3⟩, rfl⟩, ?_⟩, ?_⟩
        · rw [dif_pos (by simp)]; exact h4
        · rw [dif_pos (by simp)]; exact h5
    have n6 : ¬ (kind == 6) = true := by simpa using k6
    by_cases k7 : kind = 7
    · subst k7
      obtain ⟨f, hf⟩ := fits_ev op (l.length : Int)
      have ef : fitsV op (l.length : Int) = f := by unfold fitsV; rw [hf]; rfl
      have hf' : D 23 [.sc (.int .i64 op), .sc (.int .i64 ((pvs l).length : Int))] = some (.sc (.bool f)) := by rw [hpl]; exact hf
      have loop : ∀ (j i : Nat), l.length - i = j → i ≤ l.length → ∃ r, f15.l1a 0 (i : Int) 7 op v.kind v.num v.text a.row a.col a.hr a.hc b.row b.col b.hr b.hc (pvs l).length (fun i => (pvs l).getD i .top) = some (.sc (.bool r)) ∧ (r = true ↔ ∀ p (h : p < l.length), i ≤ p → argV (kindV op (p : Int)) l[p] = true) := by
        intro j
        induction j with
        | zero =>
          intro i hj hi
          rw [f15.l1a_eq]
          exact ⟨true, im (fun hh => by have := of_decide_eq_true hh; omega) rfl, fun _ p h hp => by omega, fun _ => rfl⟩
        | succ j ih =>
          intro i hj hi
          have hi' : i < l.length := by omega
          rw [f15.l1a_eq]
          obtain ⟨kb, hkb⟩ := kind_ev op (i : Int) (by omega) (by omega)
          have ek : kindV op (i : Int) = kb := by unfold kindV; rw [hkb]; rfl
          have ha := argL i hi' kb
          have e0 : (pvs l).getD ((i : Int).toNat) .top = (pvs l).getD i .top := by rw [Int.toNat_natCast]
          cases hb : argV kb l[i] with
          | false =>
            rw [hb] at ha
            refine ⟨false, ip (decide_eq_true (by omega)) (sb hkb (ip rfl (ip (by omega) (ip (by omega) (ip (by rw [e0]; exact shL i hi') ?_))))), fun h => (by cases h), fun h => ?_⟩
            · rw [e0]
              exact sb ha (ip rfl (ip rfl rfl))
            · have := h i hi' (Nat.le_refl _)
              rw [ek, hb] at this
              cases this
          | true =>
            rw [hb] at ha
            obtain ⟨r, hr, hr2⟩ := ih (i + 1) (by omega) (by omega)
            refine ⟨r, ip (decide_eq_true (by omega)) (sb hkb (ip rfl (ip (by omega) (ip (by omega) (ip (by rw [e0]; exact shL i hi') ?_))))), hr2.trans ⟨fun h p hp hip => ?_, fun h p hp hip => h p hp (by omega)⟩⟩
            · rw [e0]
              refine sb ha (ip rfl (im (by show ¬ (!true) = true; decide) ?_))
              rw [next_i (by omega)]
              exact hr
            · by_cases hpi : p = i
              · subst hpi
                rw [ek]
                exact hb
              · exact h p hp (by omega)
      obtain ⟨r, hr, hr2⟩ := loop l.length 0 (by omega) (Nat.zero_le _)
      have hX : ¬ (!bareB v a b) = true → (Option.bind (α := PV) (β := PV) (
                      Option.bind (α := PV) (β := PV) (
                        Option.bind (α := PV) (β := PV) (
                          Option.bind (α := PV) (β := PV) (
                            Option.bind (α := PV) (β := PV) (
                              (D 23 [.sc (.int .i64 op), .sc (.int .i64 ((pvs l).length : Int))]).bind fun r45 => if hasSh .bool r45 = true then
                              some (.sc (.bool (!r45.toBool)))
                              else none) fun r46 =>
                            some (.sc (.bool r46.toBool))) fun r47 =>
                          some (.sc (.bool r47.toBool))) fun r48 =>
                        some (.sc (.bool r48.toBool))) fun r49 =>
                      some (.sc (.bool r49.toBool))) fun r50 =>
                    some (.sc (.bool r50.toBool))) = some (.sc (.bool (!f))) := fun _ =>
        sb (sb (sb (sb (sb (sb hf' (ip rfl rfl)) rfl) rfl) rfl) rfl) rfl
      by_cases hbad : (if (!bareB v a b) = true then true else !f) = true
      · refine ⟨false, gb (gb (im n1 (im n2 (im n3 (im n4 (im n5 (im n6 (ip (by decide) (gf hX (ip hbad rfl)))))))))), fun h => (by cases h), fun _ h => ?_⟩
        simp only [oneP] at h
        rcases h with h | h | h | h | h | h | h <;> first | (exact absurd h.1 (by decide)) | skip
        obtain ⟨_, h1, h2, _⟩ := h
        rw [ef] at h2
        rw [h1, h2] at hbad
        simp at hbad
      · refine ⟨r, gb (gb (im n1 (im n2 (im n3 (im n4 (im n5 (im n6 (ip (by decide) (gf hX (im hbad hr)))))))))), fun h => ?_, fun _ h => ?_⟩
        · have hbf : bareB v a b = true ∧ f = true := by
            cases h1 : bareB v a b <;> cases h2 : f <;> simp [h1, h2] at hbad ⊢
          exact .inr (.inr (.inr (.inr (.inr (.inr ⟨rfl, hbf.1, by rw [ef]; exact hbf.2, fun i hi => hr2.1 h i hi (Nat.zero_le _)⟩)))))
        · simp only [oneP] at h
          rcases h with h | h | h | h | h | h | h <;> first | (exact absurd h.1 (by decide)) | skip
          exact hr2.2 fun p hp _ => h.2.2.2 p hp
    have n7 : ¬ (kind == 7) = true := by simpa using k7
    refine ⟨false, gb (gb (im n1 (im n2 (im n3 (im n4 (im n5 (im n6 (im n7 rfl)))))))), fun h => (by cases h), fun _ h => ?_⟩
    simp only [oneP] at h
    rcases h with h | h | h | h | h | h | h
    · exact absurd h.1 k1
    · exact absurd h.1 k2
    · exact absurd h.1 k3
    · exact absurd h.1 k4
    · exact absurd h.1 k5
    · exact absurd h.1 k6
    · exact absurd h.1 k7
end Go.Den.EA
