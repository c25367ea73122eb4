/- ReplyTells: whatever the input, the law returns true; each argument reads behind the call as it read before. No condition. -/
import Derived.Test.YtbkdoeghgdbjlaaGreatDoorMReplyTells0
import Derived.Test.YtbkdoeghgdbjlaaGreatDoorDenY
import Derived.Test.YtbkdoeghgdbjlaaGreatDoorTie
import Derived.Test.YtbkdoeghgdbjlaaGreatDoorCards
import Derived.LaidMore
import Derived.Lay
import Derived.SevenTiedAt
import Derived.Stop.Joined
import Derived.Handy
import Derived.Test.YtbkdoeghgdbjlaaGreatDoorDenU
import Derived.Test.YtbkdoeghgdbjlaaGreatDoorRows
import Derived.Test.YtbkdoeghgdbjlaaGreatDoorERh
/- Replies with rows, values, formulas and counts: the law. -/
set_option linter.unusedVariables false
set_option linter.unusedSimpArgs false
set_option maxRecDepth 100000
namespace Go.Den.ER
open Go Go.Proofs
def wVal : List UInt8 := [118, 97, 108, 117, 101]
theorem value_ev (r : Rw) (th : Bool) (h : smR r = true) (hn : goR r) : ∃ x : ByteArray, D 27 [r.pv, .sc (.bool th)] = some (.sc (.string x)) ∧ D 28 [r.pv, .sc (.bool th)] = some (.sc (.string x)) := by
  unfold smR at h
  simp only [Bool.and_eq_true, decide_eq_true_eq] at h
  have h2 := showV_len h.1
  have e1 := show_ev r.v hn h.1
  have e2 := rshow_ev r.v hn h.1
  have q1 := f27_eq 0 r.row r.col r.text r.hidden r.kind r.num r.vtext th
  have q2 := f28_eq 0 r.row r.col r.text r.hidden r.kind r.num r.vtext th
  cases th
  · exact ⟨_, q1.trans (ip rfl rfl), q2.trans (ip rfl rfl)⟩
  · by_cases hh : r.hidden = true
    · exact ⟨_, q1.trans (im (by decide) (ip hh rfl)), q2.trans (im (by decide) (ip hh rfl))⟩
    · exact ⟨(⟨#[118, 97, 108, 117, 101, 32]⟩ : ByteArray) ++ B (showV r.v), q1.trans (im (by decide) (im hh (cb e1 rfl (ip (by simp only [ts, B_size]; omega) rfl)))), q2.trans (im (by decide) (im hh (cb e2 rfl (ip (by simp only [ts, B_size]; omega) rfl))))⟩
theorem formula_ev (r : Rw) (th : Bool) (h : smR r = true) : ∃ x : ByteArray, D 29 [r.pv, .sc (.bool th)] = some (.sc (.string x)) ∧ D 30 [r.pv, .sc (.bool th)] = some (.sc (.string x)) := by
  unfold smR at h
  simp only [Bool.and_eq_true, decide_eq_true_eq] at h
  have q1 := f29_eq 0 r.row r.col r.text r.hidden r.kind r.num r.vtext th
  have q2 := f30_eq 0 r.row r.col r.text r.hidden r.kind r.num r.vtext th
  cases th
  · exact ⟨_, q1.trans (ip rfl rfl), q2.trans (ip rfl rfl)⟩
  · exact ⟨_, q1.trans (im (by decide) (ip (by omega) rfl)), q2.trans (im (by decide) (ip (by omega) rfl))⟩
def wView : List UInt8 := [118, 105, 101, 119, 32]
theorem view_l (l : List Rw) (hl : l.length ≤ 100) (hg : ∀ r ∈ l, smR r = true ∧ goR r) (h : List UInt8) (hh : h.length ≤ 1000) : ∀ (d i : Nat), i + d = l.length → f31.l0a 0 l.length (fun i => (rpv l).getD i .top) (l.length : Int) (i : Int) (bsp (B h :: (l.take i).map rowB)) = some (.sc (.string (B (catN h (l.map rowB))))) := by
  have hsz : ∀ w ∈ l.map rowB, w.size ≤ 1000 := by
    intro w hw
    obtain ⟨c, hc, rfl⟩ := List.mem_map.1 hw
    exact rowB_size (hg c hc).1
  intro d
  induction d with
  | zero =>
    intro i hi
    rw [f31.l0a_eq, List.take_of_length_le (by omega)]
    refine im (by rw [decide_eq_true_eq]; omega) ?_
    exact cb (joinN_ev h (l.map rowB) (by simp; omega) hh hsz) rfl rfl
  | succ d ih =>
    intro i hi
    have hlt : i < l.length := by omega
    obtain ⟨g1, g2⟩ := hg l[i] (List.getElem_mem hlt)
    rw [f31.l0a_eq, Int.toNat_natCast, rpv_get hlt]
    refine ip (by rw [decide_eq_true_eq]; omega) (ip (by omega) (ip (by omega) (ip rfl (cb (vtext_ev l[i] g1 g2) rfl (ip (by rw [bsp_len]; simp; omega) ?_)))))
    show f31.l0a 0 l.length (fun i => (rpv l).getD i .top) (l.length : Int) (IntKind.i64.wrap ((i : Int) + 1)) (bsp (B h :: (l.take i).map rowB) ++ [.sc (.string (rowB l[i]))]) = _
    rw [bsp_app, nx hlt (by omega)]
    have e : (B h :: (l.take i).map rowB) ++ [rowB l[i]] = B h :: (l.take (i + 1)).map rowB := by
      rw [List.take_add_one, List.getElem?_eq_getElem hlt, List.map_append]; rfl
    rw [e]
    exact ih (i + 1) (by omega)
theorem view_ev (l : List Rw) (hl : l.length ≤ 100) (hg : ∀ r ∈ l, smR r = true ∧ goR r) : D 31 [.lst 7 l.length (fun i => (rpv l).getD i .top)] = some (.sc (.string (B (catN (wView ++ dS (l.length : Int)) (l.map rowB))))) := by
  rw [f31_eq 0]
  have hn : okS (l.length : Int) = true := by rw [okS_iff]; omega
  have hd := dS_len hn
  refine cb (rcount_ev hn) rfl (ip (by simp only [ts, B_size]; omega) ?_)
  simp only [ts]
  rw [show (⟨#[118, 105, 101, 119, 32]⟩ : ByteArray) = B wView from rfl, B_append]
  exact view_l l hl hg (wView ++ dS (l.length : Int)) (by rw [List.length_append]; show 5 + _ ≤ _; omega) l.length 0 (by omega)
theorem rview_l (l : List Rw) (hl : l.length ≤ 100) (hg : ∀ r ∈ l, smR r = true ∧ goR r) (h : List UInt8) (hh : h.length ≤ 1000) : ∀ (d i : Nat), i + d = l.length → f32.l0a 0 l.length (fun i => (rpv l).getD i .top) (B (catN h ((l.take i).map rowB))) (i : Int) = some (.sc (.string (B (catN h (l.map rowB))))) := by
  have hsz : ∀ i, (catN h ((l.take i).map rowB)).length ≤ 1000 + 100 * 1001 := by
    intro i
    have := catN_len ((l.take i).map rowB) h (by
      intro w hw
      obtain ⟨c, hc, rfl⟩ := List.mem_map.1 hw
      exact rowB_size (hg c (List.mem_of_mem_take hc)).1)
    rw [List.length_map, List.length_take] at this
    omega
  intro d
  induction d with
  | zero =>
    intro i hi
    rw [f32.l0a_eq, List.take_of_length_le (by omega)]
    exact im (by rw [decide_eq_true_eq]; omega) rfl
  | succ d ih =>
    intro i hi
    have hlt : i < l.length := by omega
    obtain ⟨g1, g2⟩ := hg l[i] (List.getElem_mem hlt)
    have hs := hsz i
    have hc := rowB_size g1
    rw [f32.l0a_eq, Int.toNat_natCast, rpv_get hlt]
    refine ip (by rw [decide_eq_true_eq]; omega) (ip (by rw [B_size]; omega) (ip (by omega) (ip (by omega) (ip rfl (cb (rvtext_ev l[i] g1 g2) rfl ?_)))))
    simp only [ts]
    rw [show (⟨#[10]⟩ : ByteArray) = B [10] from rfl, B_append]
    refine ip (by rw [B_size, List.length_append, List.length_singleton]; omega) ?_
    rw [nx hlt (by omega)]
    have e : B (catN h ((l.take i).map rowB) ++ [10]) ++ rowB l[i] = B (catN h ((l.take (i + 1)).map rowB)) := by
      rw [List.take_add_one, List.getElem?_eq_getElem hlt, List.map_append]
      show _ = B (catN h ((l.take i).map rowB ++ [rowB l[i]]))
      rw [catN_app]
      conv => lhs; rw [← B_back (rowB l[i])]
      rw [B_append, List.append_assoc]; rfl
    rw [e]
    exact ih (i + 1) (by omega)
theorem rview_ev (l : List Rw) (hl : l.length ≤ 100) (hg : ∀ r ∈ l, smR r = true ∧ goR r) : D 32 [.lst 7 l.length (fun i => (rpv l).getD i .top)] = some (.sc (.string (B (catN (wView ++ dS (l.length : Int)) (l.map rowB))))) := by
  rw [f32_eq 0]
  have hn : okS (l.length : Int) = true := by rw [okS_iff]; omega
  have hd := dS_len hn
  refine cb (digits_okS hn) rfl (ip (by simp only [ts, B_size]; omega) ?_)
  simp only [ts]
  rw [show (⟨#[118, 105, 101, 119, 32]⟩ : ByteArray) = B wView from rfl, B_append]
  have := rview_l l hl hg (wView ++ dS (l.length : Int)) (by rw [List.length_append]; show 5 + _ ≤ _; omega) l.length 0 (by omega)
  rw [List.take_zero, List.map_nil, catN_nil] at this
  exact this
def wRev : List UInt8 := [114, 101, 118, 105, 115, 105, 111, 110, 32]
theorem rev_ev {n : Int} (hn : okS n = true) : D 33 [.sc (.int .i64 n)] = some (.sc (.string (B (wRev ++ dS n)))) := by
  rw [f33_eq 0]
  have hd := dS_len hn
  refine cb (rcount_ev hn) rfl (ip (by simp only [ts, B_size]; omega) ?_)
  simp only [ts]
  rw [show (⟨#[114, 101, 118, 105, 115, 105, 111, 110, 32]⟩ : ByteArray) = B wRev from rfl, B_append]
theorem rrev_ev {n : Int} (hn : okS n = true) : D 34 [.sc (.int .i64 n)] = some (.sc (.string (B (wRev ++ dS n)))) := by
  rw [f34_eq 0]
  have hd := dS_len hn
  refine cb (digits_okS hn) rfl (ip (by simp only [ts, B_size]; omega) ?_)
  simp only [ts]
  rw [show (⟨#[114, 101, 118, 105, 115, 105, 111, 110, 32]⟩ : ByteArray) = B wRev from rfl, B_append]
theorem textS_size (s : S8) : (textS s).size ≤ 1000 := by
  unfold textS
  split
  · rw [B_size]; exact tL_len _ _ _ _ _ _ _ _ (by assumption)
  · exact Nat.zero_le _
theorem wRev_len {n : Int} (hn : okS n = true) : (wRev ++ dS n).length ≤ 20 := by
  have hd := dS_len hn
  rw [List.length_append]; show 9 + _ ≤ _; omega
theorem pstats_ev (s : S8) {n : Int} (hn : okS n = true) : D 35 [s.pv, .sc (.int .i64 n)] = some (.sc (.string ((textS s ++ (⟨#[32]⟩ : ByteArray)) ++ B (wRev ++ dS n)))) := by
  have h1 := textS_size s
  have h2 := wRev_len hn
  have e1 : (⟨#[32]⟩ : ByteArray).size = 1 := rfl
  refine (f35_eq 0 s.a s.b s.c s.d s.e s.f s.g s.h n).trans ?_
  refine cb (stats_text s) rfl (ip (by simp only [ts]; omega) (cb (rev_ev hn) rfl (ip ?_ rfl)))
  simp only [ts, size_app, B_size]; omega
theorem rstats_ev (l : List Rw) (hl : l.length ≤ 1000) {n : Int} (hn : okS n = true) : D 37 [.lst 7 l.length (fun i => (rpv l).getD i .top), .sc (.int .i64 n)] = some (.sc (.string ((textS (ofR l) ++ (⟨#[32]⟩ : ByteArray)) ++ B (wRev ++ dS n)))) := by
  have h1 := textS_size (ofR l)
  have h2 := wRev_len hn
  have e1 : (⟨#[32]⟩ : ByteArray).size = 1 := rfl
  rw [f37_eq 0]
  have hc := counts_of l (by omega)
  have ef : frozen 7 (rpv l) = .lst 7 l.length (fun i => (rpv l).getD i .top) := by unfold frozen; rw [rpv_len]
  rw [ef] at hc
  refine cb hc rfl (cb (ref_text (ofR l)) rfl (ip (by simp only [ts]; omega) (cb (rrev_ev hn) rfl (ip ?_ rfl))))
  simp only [ts, size_app, B_size]; omega
theorem tells_end (l : List Rw) (hl : l.length ≤ 100) (hg : ∀ r ∈ l, smR r = true ∧ goR r) {n : Int} (hn : okS n = true) (t28 t29 : Int) (ht : ¬ t29 < t28) (r : Rw) (xs : List PV) : f5.l0a 0 l.length (fun i => (rpv l).getD i .top) n t28 t29 r.row r.col r.text r.hidden r.kind r.num r.vtext xs = some (.sc (.bool true)) := by
  rw [f5.l0a_eq]
  have ho := sof_ev l (by omega)
  have ef : frozen 7 (rpv l) = .lst 7 l.length (fun i => (rpv l).getD i .top) := by unfold frozen; rw [rpv_len]
  rw [ef] at ho
  refine im (by rw [decide_eq_true_eq]; exact ht) (cb (view_ev l hl hg) rfl (cb (rview_ev l hl hg) rfl ?_))
  rw [rev_ev hn, rrev_ev hn, ho]
  have ps := pstats_ev (ofR l) hn
  have rs := rstats_ev l (by omega) hn
  rw [rs]
  simp only [bs, shs, shb, S8.sh, S8.c0, S8.c1, S8.c2, S8.c3, S8.c4, S8.c5, S8.c6, S8.c7, S8.fold, S8.rb, ps, tb, ts, beq_self_eq_true, if_true, alive45_ev]
theorem tells_step (l : List Rw) (n : Int) (r : Rw) (hr : smR r = true) (hgr : goR r) (t29 : Nat) (b : Bool) (xs : List PV) (hx : t29 < xs.length) (hb : xs.getD t29 .top = .sc (.bool b)) : f5.l0a 0 l.length (fun i => (rpv l).getD i .top) n (xs.length : Int) (t29 : Int) r.row r.col r.text r.hidden r.kind r.num r.vtext xs = f5.l0a 0 l.length (fun i => (rpv l).getD i .top) n (xs.length : Int) (IntKind.i64.wrap ((t29 : Int) + 1)) r.row r.col r.text r.hidden r.kind r.num r.vtext xs := by
  obtain ⟨x, x1, x2⟩ := value_ev r b hr hgr
  obtain ⟨y, y1, y2⟩ := formula_ev r b hr
  conv => lhs; rw [f5.l0a_eq]
  rw [Int.toNat_natCast, hb]
  refine ip (by rw [decide_eq_true_eq]; omega) (ip (by omega) (ip (by omega) (ip rfl (cb x1 rfl (cb x2 rfl ?_)))))
  have y1' : D 29 [.agg [.sc (.int .i64 r.row), .sc (.int .i64 r.col), .sc (.string r.text), .sc (.bool r.hidden), .sc (.int .i64 r.kind), .sc (.int .i64 r.num), .sc (.string r.vtext)], .sc (.bool (PV.sc (.bool b)).toBool)] = some (.sc (.string y)) := y1
  have y2' : D 30 [.agg [.sc (.int .i64 r.row), .sc (.int .i64 r.col), .sc (.string r.text), .sc (.bool r.hidden), .sc (.int .i64 r.kind), .sc (.int .i64 r.num), .sc (.string r.vtext)], .sc (.bool (PV.sc (.bool b)).toBool)] = some (.sc (.string y)) := y2
  rw [y1', y2']
  simp only [bs, shs, tb, ts, beq_self_eq_true, Bool.not_true, Bool.false_eq_true, if_false, if_true]
theorem replyTells_D (l : List Rw) (hl : ∀ r ∈ l, goR r) (r : Rw) (hr : goR r) (n : Int) : D 5 [frozen 7 (rpv l), r.pv, .sc (.int .i64 n)] = some (.sc (.bool true)) := by
  have ef : frozen 7 (rpv l) = .lst 7 l.length (fun i => (rpv l).getD i .top) := by unfold frozen; rw [rpv_len]
  rw [ef]
  refine (f5_eq 0 l.length _ r.row r.col r.text r.hidden r.kind r.num r.vtext n).trans ?_
  refine cb (small_ev l hl) rfl ?_
  by_cases h : decide (l.length ≤ 100) && l.all smR
  · rw [h]
    simp only [Bool.and_eq_true, decide_eq_true_eq, List.all_eq_true] at h
    refine im (show ¬ (!true) = true by decide) ?_
    have hg : ∀ x ∈ l, smR x = true ∧ goR x := fun x hx => ⟨h.2 x hx, hl x hx⟩
    have so := small_one r hr
    have so' : D 22 [frozen 7 [.agg [.sc (.int .i64 r.row), .sc (.int .i64 r.col), .sc (.string r.text), .sc (.bool r.hidden), .sc (.int .i64 r.kind), .sc (.int .i64 r.num), .sc (.string r.vtext)]]] = some (.sc (.bool (smR r))) := so
    rw [so']
    simp only [bs, shb, tb, if_true, bO]
    by_cases h2 : smR r = true ∧ okS n = true
    · have hn := okS_iff.1 h2.2
      refine im (by rw [h2.1]; simp only [Bool.not_true, Bool.false_or, Bool.or_eq_true, decide_eq_true_eq]; omega) ?_
      have s0 := tells_step l n r h2.1 hr 0 true [.sc (.bool true), .sc (.bool false)] (by simp) rfl
      have s1 := tells_step l n r h2.1 hr 1 false [.sc (.bool true), .sc (.bool false)] (by simp) rfl
      have s2 := tells_end l h.1 hg h2.2 2 2 (by decide) r [.sc (.bool true), .sc (.bool false)]
      exact s0.trans (s1.trans s2)
    · refine ip ?_ al45
      rw [okS_iff] at h2
      cases hs : smR r
      · simp
      · simp only [Bool.not_true, Bool.false_or, Bool.or_eq_true, decide_eq_true_eq]
        have : ¬ (0 ≤ n ∧ n ≤ 1000000000) := fun hh => h2 ⟨hs, hh⟩
        omega
  · have h' : (decide (l.length ≤ 100) && l.all smR) = false := by simpa using h
    rw [h']
    exact ip rfl al45
theorem rw_of {xs : List PV} (h : Ty Tryz.prog 34 xs) : ∃ c : Rw, ofCells Tryz.prog 34 xs = c.pv ∧ goR c := by
  obtain ⟨a3, a4, a5, a6, a7, a8, a9, rfl, _, _, _, _, hn, _⟩ := of34 h
  exact ⟨⟨a3, a4, a5, a6, a7, a8, a9⟩, ag34 _, hn⟩
theorem rws_of : ∀ {l : List PV}, (∀ x, x ∈ l → Ty Tryz.prog 34 x.cells ∧ x = ofCells Tryz.prog 34 x.cells) → ∃ rs : List Rw, l = rpv rs ∧ ∀ c ∈ rs, goR c
  | [], _ => ⟨[], rfl, fun c h => by cases h⟩
  | x :: l, h => by
    obtain ⟨rs, e, g⟩ := rws_of fun y hy => h y (List.mem_cons_of_mem _ hy)
    obtain ⟨h1, h2⟩ := h x List.mem_cons_self
    obtain ⟨r, er, gr⟩ := rw_of h1
    refine ⟨r :: rs, by rw [h2, er, e]; rfl, ?_⟩
    intro c hc
    rcases List.mem_cons.1 hc with rfl | hc
    · exact gr
    · exact g c hc
theorem replyTells_law (W : World) (vs : List Value) (xs : List PV) (h : Handed Tryz.prog W [38, 34, 3] vs xs) : D 5 xs = some (.sc (.bool true)) := by
  obtain ⟨a, _, _, rfl, ha, h⟩ := handed_cons h
  obtain ⟨b, _, _, rfl, hb, h⟩ := handed_cons h
  obtain ⟨c, _, _, rfl, hc, h⟩ := handed_cons h
  obtain rfl := handed_nil h
  obtain ⟨a, rfl, _, la, ha⟩ := of38 ha
  obtain ⟨r, er, hr⟩ := rw_of hb
  obtain ⟨n, rfl, _⟩ := of3 hc
  obtain ⟨l, rfl, hg⟩ := rws_of ha
  rw [on38, er, on3]
  exact replyTells_D l hg r hr n
end Go.Den.ER
set_option maxRecDepth 100000
namespace Go.Proofs.YtbkdoeghgdbjlaaGreatDoor.replyTells
open Go.ChangeShapes Go.WideShapes Go.ChangeAt Go.RowKit Go.Den
theorem own : ownKnob Tryz.prog.godebug = none := by kernel_rfl
theorem laidOut : laidOutB Tryz.prog = true := by kernel_rfl
theorem good : goodAll Tryz.prog [38, 34, 32, 3, 9, 4, 23, 2] = true := by kernel_rfl
theorem follows : Tryz.prog.follows .mixedOrders = true := by kernel_rfl
theorem tabs_laid {W : World} (h : laidMet Tryz.prog Rows.replyTellsRow.laid W) (hS : W.ShapedOpen Tryz.prog) : Tabs2 W := by
  refine ⟨⟨?_, ?_⟩, ?_⟩
  · exact Lib.tabIs_of_head (g := 5) (t := 212) (e := 158) (n := 20) (by kernel_rfl) (by kernel_rfl) (by kernel_rfl) (by kernel_rfl) (by kernel_rfl) (by kernel_rfl) (laidMet.tail (laidMet.tail h))
  · exact Go.Proofs.cell_of_shapedOpen_int (g := 1) (zero := #[.int .i64 0]) (t := 3) hS (of_decide_eq_true (by kernel_rfl)) (by kernel_rfl) rfl (by kernel_rfl) (by kernel_rfl) Tryz.underlying3
  · exact Lib.tabIs_of_head (g := 0) (t := 177) (e := 5) (n := 256) (by kernel_rfl) (by kernel_rfl) (by kernel_rfl) (by kernel_rfl) (by kernel_rfl) (by kernel_rfl) (laidMet.tail (laidMet.tail (laidMet.tail (laidMet.tail (laidMet.tail h)))))
theorem lifted (os : Os) (started : os.Started) (H : Type) (enc : TypeId × Value → H) :
    ReturnsInHanded {} Tryz.checked os 5 .any (fun w args => (Rows.replyTellsSpec.pre enc Tryz.prog Tryz.f5 Rows.replyTellsRow.domain false w args ∧ laidMetH Tryz.prog Rows.replyTellsRow.laid w) ∧ sizedMet enc Tryz.prog Tryz.f5 (OpenSpec.ofChange Rows.replyTellsSpec) false w args) (Rows.replyTellsSpec.post enc Tryz.prog Tryz.f5 false true false false) := by
  refine returns_and_shaped (C := Tryz.checked) (X := fun w _ => laidMetH Tryz.prog Rows.replyTellsRow.laid w) (fun _ _ _ hh h => h.of_heap hh) own started (by kernel_rfl) Tryz.func5
    (ChangeSpec.witness_shaped (enc := enc) (C := Tryz.checked) (os := os) (X := fun w _ => laidMetH Tryz.prog Rows.replyTellsRow.laid w) false (World.laidAll Tryz.prog os Rows.replyTellsRow.laid) #[.slice none 0 0, .agg #[.int .i64 0, .int .i64 0, .string ⟨#[]⟩, .bool false, .int .i64 0, .int .i64 0, .string ⟨#[]⟩], .int .i64 0] 8 (World.laidAll_os _ _ _)
      (World.shaped_of_ZipB (by kernel_rfl) (by kernel_rfl)) (by kernel_rfl) (by kernel_rfl) (by kernel_rfl)
      (by rw [MakeChecks.laidMetH_plain _ _ _ (by kernel_rfl)]; exact laidMet_laidAll _ (by kernel_rfl) (by kernel_rfl))) ?_
  intro W base args ds gs before hval0 hW hcnd hsz0 hL hS
  have hval : ∀ (j : Nat) t v, Tryz.f5.params[j]? = some t → args[j]? = some v → Value.okWide Tryz.prog W .any base t v := hval0
  have hW' := hW
  obtain ⟨p, q, hA0, hV, rfl, hfz, hnd⟩ := hW
  have hA : DataW.TrodAll enc Tryz.prog W 0 (fun _ => true) true [38, 34, 3] args.toList ds p := hA0
  obtain ⟨rfl, rfl⟩ := trodVars_none hV
  obtain ⟨xs, hH⟩ := open_all good [38, 34, 3] args.toList ds p (by decide) hA (fun j t v ht hv => hval j t v (by rw [Tryz.params5]; simpa using ht) (by simpa using hv)) fun n hn => by
    have hz : (DataW.weightsEach Tryz.prog (Tryz.f5.params.toList ++ Rows.replyTellsSpec.plain.varTypes Tryz.prog) (ds ++ [])).all (· ≤ reachBytes) = true := hsz0
    rw [Tryz.params5] at hz
    have := List.all_eq_true.1 hz n (weights_app n hn)
    simpa using this
  have hD := ER.replyTells_law W args.toList xs hH
  have hok := Den.denI_ok (T := Tabs2) follows Tabs2.below ER.ext_ok 5 xs _ hD
  refine (Den.law_calls hok (tabs_laid (by rw [MakeChecks.laidMetH_plain _ _ _ (by kernel_rfl)] at hL; exact hL) hS) hH).mono fun e W' ⟨he, bel⟩ => ?_
  subst he
  have hback := carry_all laidOut bel [38, 34, 3] args.toList ds p (by kernel_rfl) hA
  obtain ⟨v0, vs0, d0, ds0, p0, q0, hargs0, rfl, rfl, h0, r0⟩ := trodAll_cons hA
  obtain ⟨v1, vs1, d1, ds1, p1, q1, hargs1, rfl, rfl, h1, r1⟩ := trodAll_cons r0
  obtain ⟨v2, vs2, d2, ds2, p2, q2, hargs2, rfl, rfl, h2, r2⟩ := trodAll_cons r1
  obtain ⟨_, rfl, _⟩ := trodAll_nil r2
  exact ⟨_, rfl, _, _, _, [], _, [], hW', trodAll_mk1 (shut_bool Tryz.underlying4 _), hback, rfl, bel.frame _, fun h => by cases h⟩
theorem over : Rows.replyTellsRow.holds Tryz.pinned (OpenSpec.ofChange Rows.replyTellsSpec) :=
  OpenClaim.holds_of_wide 5 Tryz.f5 rfl rfl rfl rfl rfl rfl rfl ⟨rfl, rfl, rfl, rfl, rfl⟩ rfl rfl rfl rfl rfl (by kernel_rfl) Tryz.func5 (by kernel_rfl)
    (of_decide_eq_true (by kernel_rfl)) (by unfold Func.isWrapper; first | (rw [if_pos (by decide +kernel)]; kernel_rfl) | (rw [if_neg (by decide +kernel)]; exact ⟨rfl, rfl⟩))
    (fun os started H enc _ => lifted os started H enc)
theorem card : Rows.ReplyTellsCardSaid :=
  Claim7.holds_tied_plain_at .later [] [.data, .data, .data, .data, .listed, .data, .pinned] true (true, "659ed9991f33e97e3d8b980347ba9c2a1e08588dd83fbf37082a2ffb49c49e8b") false over (fun _ h => by cases h) (by kernel_rfl) (fun _ h => by cases h) replyTells_row_tie rfl ⟨rfl, rfl⟩ (by kernel_rfl) rfl
    (fun f fn hf hfn => by
      obtain rfl : f = 5 := Option.some.inj ((show Tryz.prog.funcNamed Rows.replyTellsRow.func = some 5 by kernel_rfl).symm.trans hf) |>.symm
      obtain rfl : fn = Tryz.f5 := (Option.some.inj (Tryz.func5.symm.trans hfn)).symm
      refine ⟨by kernel_rfl, fun j t ht => ?_⟩
      have hall : (Tryz.f5.params.toList.all fun u => !Tryz.prog.wantsStandIn u) = true := by kernel_rfl
      have hm : t ∈ Tryz.f5.params.toList := by simpa using Array.mem_of_getElem? ht
      exact (show Tryz.prog.wantsStandIn t = false by simpa using List.all_eq_true.1 hall t hm))
    (by kernel_rfl)
end Go.Proofs.YtbkdoeghgdbjlaaGreatDoor.replyTells
namespace Go.Proofs.YtbkdoeghgdbjlaaGreatDoor
theorem replyTells_holds : Rows.ReplyTellsCardSaid := replyTells.card
end Go.Proofs.YtbkdoeghgdbjlaaGreatDoor
