/- Moved there and back a tree is as it was. -/
import Derived.Test.YtcncojlgapknpaaShiftH
set_option linter.unusedVariables false
set_option maxRecDepth 100000
namespace Go.Den.EA
open Go Go.Proofs
theorem refMv_far {q : Q} (h : q.near = false) (r : Rf) : refMv q r = none := by
  unfold refMv
  rw [h, Bool.false_and, Bool.false_and]
  rfl
mutual
theorem mv_none {q : Q} (h : q.near = false) (p : Q) : ∀ n : Nod, kept q n → n.mv p = n ∧ kept p n
  | .mk kind op v a b l, hk => by
    rw [kept] at hk
    obtain ⟨i1, i2⟩ := mvs_none h p l hk.2.2
    have h3 : ¬ kind = 3 := fun e => by have := hk.1 e; rw [refMv_far h] at this; cases this
    have h4 : ¬ kind = 4 := fun e => by have := (hk.2.1 e).1; rw [refMv_far h] at this; cases this
    rw [Nod.mv, if_neg h3, if_neg h4, i1, kept]
    exact ⟨rfl, fun e => absurd e h3, fun e => absurd e h4, i2⟩
theorem mvs_none {q : Q} (h : q.near = false) (p : Q) : ∀ l : List Nod, kepts q l → mvs p l = l ∧ kepts p l
  | [], _ => ⟨rfl, trivial⟩
  | n :: l, hk => by
    rw [kepts] at hk
    obtain ⟨a1, a2⟩ := mv_none h p n hk.1
    obtain ⟨b1, b2⟩ := mvs_none h p l hk.2
    rw [mvs, a1, b1, kepts]
    exact ⟨rfl, a2, b2⟩
end
theorem near_of {q p : Q} (hg : p.g = q.g ∧ p.g1 = q.g1) (h : q.near = true) (hb : -1000 ≤ p.b ∧ p.b ≤ 1000 ∧ -1000 ≤ p.b1 ∧ p.b1 ≤ 1000) : p.near = true := by
  unfold Q.near at h ⊢
  rw [Bool.and_eq_true] at h ⊢
  refine ⟨?_, decide_eq_true hb⟩
  have e1 : p.L = q.L := by unfold Q.L; rw [hg.1]
  have e2 : p.L1 = q.L1 := by unfold Q.L1; rw [hg.2]
  rw [e1, e2]
  exact h.1
/-- Two moves are one. -/
theorem both {q p : Q} (hg : p.g = q.g ∧ p.g1 = q.g1) (hb : -1000 ≤ q.b + p.b ∧ q.b + p.b ≤ 1000 ∧ -1000 ≤ q.b1 + p.b1 ∧ q.b1 + p.b1 ≤ 1000) (n : Nod) (h1 : kept q n) (h2 : kept p (n.mv q)) : (n.mv q).mv p = n.mv (q.plus p) ∧ kept (q.plus p) n := by
  cases hn : q.near with
  | true =>
    have hn2 : (q.plus p).near = true := near_of (q := q) (p := q.plus p) ⟨rfl, rfl⟩ hn hb
    exact ⟨mv_two hg hn2 n h1 h2, kept_two hg hn2 n h1 h2⟩
  | false =>
    obtain ⟨e1, _⟩ := mv_none hn q n h1
    obtain ⟨e2, _⟩ := mv_none hn p n h1
    obtain ⟨e3, k3⟩ := mv_none hn (q.plus p) n h1
    rw [e1, e2, e3]
    exact ⟨rfl, k3⟩
theorem isN_back {u : Option PV} {n : Nod} (h : IsN u n) : ∃ r, u = some r ∧ hasSh shN r = true ∧ rbN r = n.pv := h
/-- Behind the four bounds. -/
theorem back_main (n : Nod) (hok : n.ok) (a a1 b b1 g g1 : Int) (ra : -500 ≤ a ∧ a ≤ 500) (ra1 : -500 ≤ a1 ∧ a1 ≤ 500) (rb : -500 ≤ b ∧ b ≤ 500) (rb1 : -500 ≤ b1 ∧ b1 ≤ 500) : ∀ (kind op : Int) (v : Vl) (x y : Rf) (l : List Nod), n = .mk kind op v x y l →
    f4.l0a 0 4 4 kind op v.kind v.num v.text x.row x.col x.hr x.hc y.row y.col y.hr y.hc (pvs l).length (fun i => (pvs l).getD i .top) g g1 a a1 b b1 [.sc (.int .i64 a), .sc (.int .i64 a1), .sc (.int .i64 b), .sc (.int .i64 b1)] = some (.sc (.bool true)) := by
  have hD7 : ∀ (m : Nod) (x x1 : Int), D 7 [m.pv, .agg [.sc (.int .i64 x), .sc (.int .i64 x1)], .agg [.sc (.int .i64 g), .sc (.int .i64 g1)]] = D 7 [m.pv, (⟨x, x1, g, g1⟩ : Q).by, (⟨x, x1, g, g1⟩ : Q).grid] := fun _ _ _ => rfl
  have hfew := few_ev n
  obtain ⟨r3, hm3, hs3, he3⟩ := move_ev ⟨a, a1, g, g1⟩ n.count n (Nat.le_refl _) hok
  have hmok := mv_ok ⟨a, a1, g, g1⟩ n hok
  have hmc := mv_count ⟨a, a1, g, g1⟩ n
  have hm3' : D 7 [n.pv, .agg [.sc (.int .i64 a), .sc (.int .i64 a1)], .agg [.sc (.int .i64 g), .sc (.int .i64 g1)]] = some r3 := by rw [hD7]; exact hm3
  by_cases hc : n.count ≤ 200
  · obtain ⟨b8, h8, h8'⟩ := right_ev n hok (by omega)
    have l0 := lost_ev n (by omega)
    have lm := lost_ev (Nod.mv ⟨a, a1, g, g1⟩ n) (by omega)
    obtain ⟨r15, hm15, hs15, he15⟩ := move_ev ⟨-a, -a1, g, g1⟩ _ (Nod.mv ⟨a, a1, g, g1⟩ n) (Nat.le_refl _) hmok
    obtain ⟨r22, hm22, hs22, he22⟩ := move_ev ⟨b, b1, g, g1⟩ _ (Nod.mv ⟨a, a1, g, g1⟩ n) (Nat.le_refl _) hmok
    obtain ⟨r26, hm26, hs26, he26⟩ := move_ev ⟨a + b, a1 + b1, g, g1⟩ n.count n (Nat.le_refl _) hok
    have c15 := mv_count ⟨-a, -a1, g, g1⟩ (Nod.mv ⟨a, a1, g, g1⟩ n)
    have c22 := mv_count ⟨b, b1, g, g1⟩ (Nod.mv ⟨a, a1, g, g1⟩ n)
    have l15 := lost_ev (Nod.mv ⟨-a, -a1, g, g1⟩ (Nod.mv ⟨a, a1, g, g1⟩ n)) (by omega)
    have l22 := lost_ev (Nod.mv ⟨b, b1, g, g1⟩ (Nod.mv ⟨a, a1, g, g1⟩ n)) (by omega)
    have sh : b8 = true → n.shp := fun hb => shp_of n fun x hx => by
      obtain ⟨o1, o2⟩ := list_ok n hok x hx
      exact (one1_ev o1 (by omega)).2.1 (h8'.1 hb x hx)
    have S15 : b8 = true → (Nod.mv ⟨a, a1, g, g1⟩ n).lc ≤ n.lc → (Nod.mv ⟨-a, -a1, g, g1⟩ (Nod.mv ⟨a, a1, g, g1⟩ n)).lc = n.lc → D 12 [rbN r15, n.pv] = some (.sc (.bool true)) := fun hb h1 h2 => by
      have hs := sh hb
      obtain ⟨x1, x2⟩ := lc_mv ⟨a, a1, g, g1⟩ n hs
      obtain ⟨y1, y2⟩ := lc_mv ⟨-a, -a1, g, g1⟩ _ (shp_mv ⟨a, a1, g, g1⟩ n hs)
      obtain ⟨e, k⟩ := both (q := ⟨a, a1, g, g1⟩) (p := ⟨-a, -a1, g, g1⟩) ⟨rfl, rfl⟩ (by dsimp only; omega) n (x2 h1) (y2 (by omega))
      have e0 := mv_zero (q := Q.plus ⟨a, a1, g, g1⟩ ⟨-a, -a1, g, g1⟩) (by show a + -a = 0; omega) (by show a1 + -a1 = 0; omega) n k
      rw [he15, e, e0]
      exact same_ev n (by omega)
    have S22 : b8 = true → (Nod.mv ⟨a, a1, g, g1⟩ n).lc ≤ n.lc → (Nod.mv ⟨b, b1, g, g1⟩ (Nod.mv ⟨a, a1, g, g1⟩ n)).lc ≤ n.lc → D 12 [rbN r22, rbN r26] = some (.sc (.bool true)) := fun hb h1 h2 => by
      have hs := sh hb
      obtain ⟨x1, x2⟩ := lc_mv ⟨a, a1, g, g1⟩ n hs
      obtain ⟨y1, y2⟩ := lc_mv ⟨b, b1, g, g1⟩ _ (shp_mv ⟨a, a1, g, g1⟩ n hs)
      obtain ⟨e, k⟩ := both (q := ⟨a, a1, g, g1⟩) (p := ⟨b, b1, g, g1⟩) ⟨rfl, rfl⟩ (by dsimp only; omega) n (x2 h1) (y2 (by omega))
      have e2 : Nod.mv ⟨a + b, a1 + b1, g, g1⟩ n = Nod.mv (Q.plus ⟨a, a1, g, g1⟩ ⟨b, b1, g, g1⟩) n := rfl
      rw [he22, he26, e2, ← e]
      exact same_ev _ (by omega)
    have w1 : IntKind.i64.wrap (0 - a) = -a := by rw [w64 (by omega) (by omega)]; omega
    have w2 : IntKind.i64.wrap (0 - a1) = -a1 := by rw [w64 (by omega) (by omega)]; omega
    have w3 : IntKind.i64.wrap (a + b) = a + b := w64 (by omega) (by omega)
    have w4 : IntKind.i64.wrap (a1 + b1) = a1 + b1 := w64 (by omega) (by omega)
    have hm15' : D 7 [rbN r3, .agg [.sc (.int .i64 (IntKind.i64.wrap (0 - a))), .sc (.int .i64 (IntKind.i64.wrap (0 - a1)))], .agg [.sc (.int .i64 g), .sc (.int .i64 g1)]] = some r15 := by rw [he3, w1, w2, hD7]; exact hm15
    have hm22' : D 7 [rbN r3, .agg [.sc (.int .i64 b), .sc (.int .i64 b1)], .agg [.sc (.int .i64 g), .sc (.int .i64 g1)]] = some r22 := by rw [he3, hD7]; exact hm22
    have hm26' : D 7 [n.pv, .agg [.sc (.int .i64 (IntKind.i64.wrap (a + b))), .sc (.int .i64 (IntKind.i64.wrap (a1 + b1)))], .agg [.sc (.int .i64 g), .sc (.int .i64 g1)]] = some r26 := by rw [w3, w4, hD7]; exact hm26
    rw [← he3] at lm
    rw [← he15] at l15
    rw [← he22] at l22
    generalize (Nod.mv ⟨a, a1, g, g1⟩ n).lc = c3 at lm S15 S22
    generalize (Nod.mv ⟨-a, -a1, g, g1⟩ (Nod.mv ⟨a, a1, g, g1⟩ n)).lc = c15' at l15 S15
    generalize (Nod.mv ⟨b, b1, g, g1⟩ (Nod.mv ⟨a, a1, g, g1⟩ n)).lc = c22' at l22 S22
    generalize n.lc = c0 at l0 S15 S22
    generalize hdc : decide (n.count ≤ 200) = dc at hfew
    have hdc' : dc = true := by rw [← hdc]; exact decide_eq_true hc
    subst hdc'
    intro kind op v x y l hn
    subst hn
    simp only [Nod.pv, frozen] at hm3' hfew h8 l0 hm26' S15
    rw [f4.l0a_eq]
    refine im (by decide) (sb hm3' (ip hs3 (sb hfew (ip rfl (gf (x := !b8) (fun _ => sb (sb h8 (ip rfl rfl)) rfl) (gf (x := decide ((c3 : Int) > (c0 : Int))) (fun _ => sb (sb lm (ip rfl (sb (sb (sb l0 (ip rfl rfl)) rfl) rfl))) rfl) ?_))))))
    cases hb : b8 with
    | false => exact ip rfl (sb alive_ev (ip rfl rfl))
    | true =>
      by_cases hl : (c3 : Int) > (c0 : Int)
      · refine ip ?_ (sb alive_ev (ip rfl rfl))
        show decide ((c3 : Int) > (c0 : Int)) = true
        exact decide_eq_true hl
      · refine im (fun hh => ?_) ?_
        · have h2 : decide ((c3 : Int) > (c0 : Int)) = true := hh
          exact hl (of_decide_eq_true h2)
        refine sb hm15' (ip hs15 (sb l15 (ip rfl (sb l0 (ip rfl (gt (x := false) (fun hh => ?_) ?_))))))
        · have h2 : ((c15' : Int) == (c0 : Int)) = true := hh
          rw [beq_iff_eq] at h2
          exact sb (sb (sb (S15 hb (by omega) (by omega)) (ip rfl rfl)) rfl) rfl
        · have e21 : ∀ c : Bool, (if c = true then false else false) = false := fun c => by cases c <;> rfl
          refine im (fun hh => ?_) ?_
          · have h2 : (if ((c15' : Int) == (c0 : Int)) = true then false else false) = true := hh
            rw [e21] at h2
            cases h2
          refine sb hm22' (ip hs22 (sb l22 (ip rfl (sb l0 (ip rfl ?_)))))
          by_cases ho : (c22' : Int) > (c0 : Int)
          · exact ip (decide_eq_true ho) (sb alive_ev (ip rfl rfl))
          · exact im (fun hh => ho (of_decide_eq_true hh)) (sb hm26' (ip hs26 (sb (S22 hb (by omega) (by omega)) (ip rfl (ip rfl (sb alive_ev (ip rfl rfl)))))))
  · intro kind op v x y l hn
    generalize hdc : decide (n.count ≤ 200) = dc at hfew
    have hdc' : dc = false := by rw [← hdc]; exact decide_eq_false hc
    subst hdc'
    subst hn
    simp only [Nod.pv, frozen] at hm3' hfew
    rw [f4.l0a_eq]
    exact im (by decide) (sb hm3' (ip hs3 (sb hfew (ip rfl (gf (x := false) (fun hh => absurd (show (!false) = true by rfl) hh) (gf (x := false) (fun hh => absurd (show (if (!false) = true then true else false) = true by rfl) hh) (ip rfl (sb alive_ev (ip rfl rfl)))))))))
/-- MOVED THERE AND BACK A TREE IS AS IT WAS. -/
theorem shiftBack (n : Nod) (hok : n.ok) (a a1 b b1 g g1 : Int) : D 4 [n.pv, .agg [.sc (.int .i64 a), .sc (.int .i64 a1), .sc (.int .i64 b), .sc (.int .i64 b1)], .agg [.sc (.int .i64 g), .sc (.int .i64 g1)]] = some (.sc (.bool true)) := by
  have main := back_main n hok a a1 b b1 g g1
  cases n with
  | mk kind op v x y l =>
    have step : ∀ (i : Nat) (z : Int), i < 4 → ([.sc (.int .i64 a), .sc (.int .i64 a1), .sc (.int .i64 b), .sc (.int .i64 b1)] : List PV).getD i .top = .sc (.int .i64 z) → ((-500 ≤ z ∧ z ≤ 500) → f4.l0a 0 4 ((i + 1 : Nat) : Int) kind op v.kind v.num v.text x.row x.col x.hr x.hc y.row y.col y.hr y.hc (pvs l).length (fun i => (pvs l).getD i .top) g g1 a a1 b b1 [.sc (.int .i64 a), .sc (.int .i64 a1), .sc (.int .i64 b), .sc (.int .i64 b1)] = some (.sc (.bool true))) →
        f4.l0a 0 4 (i : Int) kind op v.kind v.num v.text x.row x.col x.hr x.hc y.row y.col y.hr y.hc (pvs l).length (fun i => (pvs l).getD i .top) g g1 a a1 b b1 [.sc (.int .i64 a), .sc (.int .i64 a1), .sc (.int .i64 b), .sc (.int .i64 b1)] = some (.sc (.bool true)) := fun i z hi hz hgo => by
      rw [f4.l0a_eq]
      have e : ([.sc (.int .i64 a), .sc (.int .i64 a1), .sc (.int .i64 b), .sc (.int .i64 b1)] : List PV).getD ((i : Int).toNat) .top = .sc (.int .i64 z) := by rw [Int.toNat_natCast]; exact hz
      refine ip (decide_eq_true (by omega)) (ip (by omega) (ip (by show (i : Int) < ((4 : Nat) : Int); omega) (ip (by rw [e]; rfl) ?_)))
      rw [e]
      refine gb ?_
      by_cases hr : -500 ≤ z ∧ z ≤ 500
      · refine im (fun hh => ?_) (by rw [next_i (by omega)]; exact hgo hr)
        have h2 : (if decide (z < -500) = true then true else decide (z > 500)) = true := hh
        rw [if_neg (by simp; omega)] at h2
        have := of_decide_eq_true h2
        omega
      · refine ip ?_ (sb alive_ev (ip rfl rfl))
        show (if decide (z < -500) = true then true else decide (z > 500)) = true
        by_cases h1 : z < -500
        · rw [if_pos (decide_eq_true h1)]
        · rw [if_neg (by simpa using h1)]
          exact decide_eq_true (by omega)
    simp only [Nod.pv, frozen]
    rw [f4_eq 0]
    refine step 0 a (by omega) rfl fun ra => step 1 a1 (by omega) rfl fun ra1 => step 2 b (by omega) rfl fun rb => step 3 b1 (by omega) rfl fun rb1 => ?_
    exact main ra ra1 rb rb1 kind op v x y l rfl
theorem shiftBack_D (W : World) (vs : List Value) (xs : List PV) (h : Handed Try.prog W [28, 36, 30] vs xs) : D 4 xs = some (.sc (.bool true)) := by
  obtain ⟨a, b, c, rfl, ha, hb, hc⟩ := three h
  obtain ⟨n, en, hn⟩ := (node_of ha).1 rfl
  obtain ⟨hl, hx⟩ := ty_array hb Try.underlying36
  rw [c36] at hl
  obtain ⟨y0, y1, y2, y3, rfl⟩ : ∃ y0 y1 y2 y3, b = [y0, y1, y2, y3] := by
    match b, hl with
    | [y0, y1, y2, y3], _ => exact ⟨_, _, _, _, rfl⟩
  have h0 := hx 0 (by omega)
  have h1 := hx 1 (by omega)
  simp only [c30] at h0 h1
  obtain ⟨r0, k0, e0, _, _⟩ := cell_of h0
  obtain ⟨r1, k1, e1, _, _⟩ := cell_of h1
  obtain ⟨r2, c2, rfl, _, _⟩ := cell_of hc
  simp at e0 e1
  obtain ⟨rfl, rfl⟩ := e0
  obtain ⟨rfl, rfl⟩ := e1
  rw [agg28, agg36, agg30, en]
  exact shiftBack n hn r0 k0 r1 k1 r2 c2
end Go.Den.EA
