/- Costs as texts, told and read: what the program's functions answer. -/
import Derived.Test.YtbkdoeghgdbjlaaDoorCntTM
set_option linter.unusedVariables false
set_option linter.unusedSimpArgs false
set_option maxRecDepth 100000
namespace Go.Den.EM
open Go Go.Proofs
structure C5 where
  a : Int
  b : Int
  c : Int
  d : Int
  e : Int
def C5.pv (v : C5) : PV := .agg [.sc (.int .i64 v.a), .sc (.int .i64 v.b), .sc (.int .i64 v.c), .sc (.int .i64 v.d), .sc (.int .i64 v.e)]
theorem C5.fold (a b c d e : Int) : PV.agg [.sc (.int .i64 a), .sc (.int .i64 b), .sc (.int .i64 c), .sc (.int .i64 d), .sc (.int .i64 e)] = (C5.mk a b c d e).pv := rfl
theorem C5.sh (v : C5) : hasSh (.agg [(.int .i64), (.int .i64), (.int .i64), (.int .i64), (.int .i64)]) v.pv = true := rfl
theorem C5.c0 (v : C5) : (cel 0 v.pv.cells).toInt = v.a := rfl
theorem C5.c1 (v : C5) : (cel 1 v.pv.cells).toInt = v.b := rfl
theorem C5.c2 (v : C5) : (cel 2 v.pv.cells).toInt = v.c := rfl
theorem C5.c3 (v : C5) : (cel 3 v.pv.cells).toInt = v.d := rfl
theorem C5.c4 (v : C5) : (cel 4 v.pv.cells).toInt = v.e := rfl
theorem C5.rb (v : C5) : C5.mk v.a v.b v.c v.d v.e = v := rfl
def mq0 : List UInt8 := [101, 118, 97, 108, 115]
theorem mq0_len : mq0.length = 5 := rfl
def mq1 : List UInt8 := [114, 101, 97, 100, 115]
theorem mq1_len : mq1.length = 5 := rfl
def mq2 : List UInt8 := [99, 104, 97, 115, 101, 115]
theorem mq2_len : mq2.length = 6 := rfl
def mq3 : List UInt8 := [101, 100, 103, 101, 115]
theorem mq3_len : mq3.length = 5 := rfl
def mq4 : List UInt8 := [118, 105, 115, 105, 116, 115]
theorem mq4_len : mq4.length = 6 := rfl
def mWS : List ByteArray := [B mq0, B mq1, B mq2, B mq3, B mq4]
def mWF : Nat → PV := fun i => (mWS.map fun s => PV.sc (.string s)).getD i .top
theorem mst_0 (n0 n1 n2 n3 n4 : Int) : f6.l0a 0 5 mWF 5 n0 n1 n2 n3 n4 = if okS n0 = true then f6.l0b 0 5 mWF 5 [.sc (.string (B mq0)), .sc (.string (B (dS n0)))] n0 n1 n2 n3 n4 else some (.sc (.string (⟨#[]⟩ : ByteArray))) := by
  rw [f6.l0a_eq]
  refine ip (by decide) (ip (by decide) (ip rfl ?_))
  simp only [bO, tb]
  by_cases h : okS n0 = true
  · rw [if_pos h]
    refine im (okS_good h) (cb (text_okS h) rfl (ip (by simp; try omega) rfl))
  · rw [if_neg h]
    exact ip (okS_bad h) rfl
theorem mst_1 (out : List PV) (ho : out.length ≤ 100) (n0 n1 n2 n3 n4 : Int) : f6.l0b 0 5 mWF 5 out n0 n1 n2 n3 n4 = if okS n1 = true then f6.l0c 0 5 mWF 5 (out ++ [.sc (.string (B mq1)), .sc (.string (B (dS n1)))]) n0 n1 n2 n3 n4 else some (.sc (.string (⟨#[]⟩ : ByteArray))) := by
  rw [f6.l0b_eq]
  refine ip (by decide) (ip (by decide) (ip rfl ?_))
  simp only [bO, tb]
  by_cases h : okS n1 = true
  · rw [if_pos h]
    refine im (okS_good h) (cb (text_okS h) rfl (ip (by simp; try omega) rfl))
  · rw [if_neg h]
    exact ip (okS_bad h) rfl
theorem mst_2 (out : List PV) (ho : out.length ≤ 100) (n0 n1 n2 n3 n4 : Int) : f6.l0c 0 5 mWF 5 out n0 n1 n2 n3 n4 = if okS n2 = true then f6.l0d 0 5 mWF 5 (out ++ [.sc (.string (B mq2)), .sc (.string (B (dS n2)))]) n0 n1 n2 n3 n4 else some (.sc (.string (⟨#[]⟩ : ByteArray))) := by
  rw [f6.l0c_eq]
  refine ip (by decide) (ip (by decide) (ip rfl ?_))
  simp only [bO, tb]
  by_cases h : okS n2 = true
  · rw [if_pos h]
    refine im (okS_good h) (cb (text_okS h) rfl (ip (by simp; try omega) rfl))
  · rw [if_neg h]
    exact ip (okS_bad h) rfl
theorem mst_3 (out : List PV) (ho : out.length ≤ 100) (n0 n1 n2 n3 n4 : Int) : f6.l0d 0 5 mWF 5 out n0 n1 n2 n3 n4 = if okS n3 = true then f6.l0e 0 5 mWF 5 (out ++ [.sc (.string (B mq3)), .sc (.string (B (dS n3)))]) n0 n1 n2 n3 n4 else some (.sc (.string (⟨#[]⟩ : ByteArray))) := by
  rw [f6.l0d_eq]
  refine ip (by decide) (ip (by decide) (ip rfl ?_))
  simp only [bO, tb]
  by_cases h : okS n3 = true
  · rw [if_pos h]
    refine im (okS_good h) (cb (text_okS h) rfl (ip (by simp; try omega) rfl))
  · rw [if_neg h]
    exact ip (okS_bad h) rfl
theorem mst_4 (out : List PV) (ho : out.length ≤ 100) (n0 n1 n2 n3 n4 : Int) : f6.l0e 0 5 mWF 5 out n0 n1 n2 n3 n4 = if okS n4 = true then f6.l0f 0 5 mWF 5 (out ++ [.sc (.string (B mq4)), .sc (.string (B (dS n4)))]) n0 n1 n2 n3 n4 else some (.sc (.string (⟨#[]⟩ : ByteArray))) := by
  rw [f6.l0e_eq]
  refine ip (by decide) (ip (by decide) (ip rfl ?_))
  simp only [bO, tb]
  by_cases h : okS n4 = true
  · rw [if_pos h]
    refine im (okS_good h) (cb (text_okS h) rfl (ip (by simp; try omega) rfl))
  · rw [if_neg h]
    exact ip (okS_bad h) rfl
def all5 (n0 n1 n2 n3 n4 : Int) : Bool := okS n0 && okS n1 && okS n2 && okS n3 && okS n4
theorem all5_iff {n0 n1 n2 n3 n4 : Int} : all5 n0 n1 n2 n3 n4 = true ↔ okS n0 = true ∧ okS n1 = true ∧ okS n2 = true ∧ okS n3 = true ∧ okS n4 = true := by unfold all5; simp [and_assoc]
def mouts (n0 n1 n2 n3 n4 : Int) : List ByteArray := [B mq0, B (dS n0), B mq1, B (dS n1), B mq2, B (dS n2), B mq3, B (dS n3), B mq4, B (dS n4)]
def mtL (n0 n1 n2 n3 n4 : Int) : List UInt8 := mq0 ++ ([32] ++ (dS n0 ++ ([32] ++ (mq1 ++ ([32] ++ (dS n1 ++ ([32] ++ (mq2 ++ ([32] ++ (dS n2 ++ ([32] ++ (mq3 ++ ([32] ++ (dS n3 ++ ([32] ++ (mq4 ++ ([32] ++ dS n4)))))))))))))))))
theorem mtL_join (n0 n1 n2 n3 n4 : Int) : Lib.join ((mouts n0 n1 n2 n3 n4).map (·.data.toList)) [32] = mtL n0 n1 n2 n3 n4 := by
  unfold mouts mtL Lib.join
  simp only [List.map_cons, List.map_nil, B_data]
  simp [List.intercalate, List.intersperse]
theorem mtL_spl (n0 n1 n2 n3 n4 : Int) : spl (mtL n0 n1 n2 n3 n4) = [mq0, dS n0, mq1, dS n1, mq2, dS n2, mq3, dS n3, mq4, dS n4] := by
  unfold mtL
  have d : ∀ n, (32 : UInt8) ∉ dS n := dS_no
  rw [spl_w (show (32 : UInt8) ∉ mq0 by decide), spl_w (d n0), spl_w (show (32 : UInt8) ∉ mq1 by decide), spl_w (d n1), spl_w (show (32 : UInt8) ∉ mq2 by decide), spl_w (d n2), spl_w (show (32 : UInt8) ∉ mq3 by decide), spl_w (d n3), spl_w (show (32 : UInt8) ∉ mq4 by decide), spl_last _ (d n4)]
theorem mtL_aux {y0 y1 y2 y3 y4 : Nat} (l0 : y0 ≤ 10) (l1 : y1 ≤ 10) (l2 : y2 ≤ 10) (l3 : y3 ≤ 10) (l4 : y4 ≤ 10) : 5 + (1 + (y0 + (1 + (5 + (1 + (y1 + (1 + (6 + (1 + (y2 + (1 + (5 + (1 + (y3 + (1 + (6 + (1 + y4))))))))))))))))) ≤ 100 := by
  simp only [← Nat.add_assoc]
  omega
theorem mtL_len (n0 n1 n2 n3 n4 : Int) (h : all5 n0 n1 n2 n3 n4 = true) : (mtL n0 n1 n2 n3 n4).length ≤ 100 := by
  rw [all5_iff] at h
  obtain ⟨h0, h1, h2, h3, h4⟩ := h
  have l0 := dS_len h0
  have l1 := dS_len h1
  have l2 := dS_len h2
  have l3 := dS_len h3
  have l4 := dS_len h4
  unfold mtL
  generalize dS n0 = x0 at *
  generalize dS n1 = x1 at *
  generalize dS n2 = x2 at *
  generalize dS n3 = x3 at *
  generalize dS n4 = x4 at *
  clear h0 h1 h2 h3 h4
  simp only [List.length_append, List.length_cons, List.length_nil, mq0_len, mq1_len, mq2_len, mq3_len, mq4_len, Nat.zero_add]
  exact mtL_aux l0 l1 l2 l3 l4
theorem mjn (x t : PV) : D 19 [x, t] = xJoin [x, t] := (denI_eq 0 _ _).trans (by kernel_rfl)
theorem mjoin_ev (n0 n1 n2 n3 n4 : Int) (h : all5 n0 n1 n2 n3 n4 = true) : D 19 [frozen 1 ((mouts n0 n1 n2 n3 n4).map fun s => PV.sc (.string s)), .sc (.string (⟨#[32]⟩ : ByteArray))] = some (.sc (.string (B (mtL n0 n1 n2 n3 n4)))) := by
  rw [mjn]
  unfold xJoin frozen
  show (if _ ∧ _ ∧ _ then _ else _) = _
  have ej : joinArgs ((mouts n0 n1 n2 n3 n4).map fun s => PV.sc (.string s)).length (fun i => ((mouts n0 n1 n2 n3 n4).map fun s => PV.sc (.string s)).getD i .top) = mouts n0 n1 n2 n3 n4 := rfl
  have e32 : (⟨#[32]⟩ : ByteArray).data.toList = [32] := rfl
  rw [ej, e32, mtL_join]
  have := mtL_len n0 n1 n2 n3 n4 h
  exact if_pos ⟨by simp [mouts], rfl, by omega⟩
theorem mlast_ev (n0 n1 n2 n3 n4 : Int) (h : all5 n0 n1 n2 n3 n4 = true) : f6.l0f 0 5 mWF 5 ((mouts n0 n1 n2 n3 n4).map fun s => PV.sc (.string s)) n0 n1 n2 n3 n4 = some (.sc (.string (B (mtL n0 n1 n2 n3 n4)))) := by
  rw [f6.l0f_eq]
  refine im (by decide) (cb (mjoin_ev n0 n1 n2 n3 n4 h) rfl rfl)
def okC (c : C5) : Bool := all5 c.a c.b c.c c.d c.e
def mtC (c : C5) : List UInt8 := mtL c.a c.b c.c c.d c.e
def mtext (c : C5) : List UInt8 := if okC c = true then mtC c else []
theorem mtext_len (c : C5) : (mtext c).length ≤ 100 := by
  unfold mtext
  split
  · exact mtL_len _ _ _ _ _ (by assumption)
  · simp
theorem mfields_ev : D 17 [.sc (.string (⟨#[101, 118, 97, 108, 115, 32, 114, 101, 97, 100, 115, 32, 99, 104, 97, 115, 101, 115, 32, 101, 100, 103, 101, 115, 32, 118, 105, 115, 105, 116, 115]⟩ : ByteArray))] = some (strs mWS) := denI_of (k := 2) (by kernel_rfl)
theorem mcounts_ev (c : C5) : D 16 [c.pv] = some c.pv := f16_eq 0 c.a c.b c.c c.d c.e
theorem mcost_ev (c : C5) : D 22 [c.pv] = some c.pv := f22_eq 0 c.a c.b c.c c.d c.e
theorem meter_text (c : C5) : D 6 [c.pv] = some (.sc (.string (B (mtext c)))) := by
  obtain ⟨n0, n1, n2, n3, n4⟩ := c
  refine (f6_eq 0 n0 n1 n2 n3 n4).trans ?_
  have ec := mcounts_ev ⟨n0, n1, n2, n3, n4⟩
  simp only [C5.fold]
  refine cb ec rfl (cb mfields_ev rfl ?_)
  show f6.l0a 0 5 mWF 5 n0 n1 n2 n3 n4 = _
  rw [mst_0]
  unfold mtext okC all5
  by_cases g0 : ¬ okS n0 = true
  · rw [if_neg g0, if_neg (by simp [g0])]; rfl
  have h0 : okS n0 = true := Classical.not_not.1 g0
  rw [if_pos h0]
  rw [mst_1 _ (by simp)]
  by_cases g1 : ¬ okS n1 = true
  · rw [if_neg g1, if_neg (by simp [g1])]; rfl
  have h1 : okS n1 = true := Classical.not_not.1 g1
  rw [if_pos h1]
  rw [mst_2 _ (by simp)]
  by_cases g2 : ¬ okS n2 = true
  · rw [if_neg g2, if_neg (by simp [g2])]; rfl
  have h2 : okS n2 = true := Classical.not_not.1 g2
  rw [if_pos h2]
  rw [mst_3 _ (by simp)]
  by_cases g3 : ¬ okS n3 = true
  · rw [if_neg g3, if_neg (by simp [g3])]; rfl
  have h3 : okS n3 = true := Classical.not_not.1 g3
  rw [if_pos h3]
  rw [mst_4 _ (by simp)]
  by_cases g4 : ¬ okS n4 = true
  · rw [if_neg g4, if_neg (by simp [g4])]; rfl
  have h4 : okS n4 = true := Classical.not_not.1 g4
  rw [if_pos h4]
  have h : all5 n0 n1 n2 n3 n4 = true := all5_iff.2 ⟨h0, h1, h2, h3, h4⟩
  have := mlast_ev n0 n1 n2 n3 n4 h
  rw [if_pos (by simp [h0, h1, h2, h3, h4])]
  exact this
theorem rright_ev (n : Int) : D 26 [.sc (.int .i64 n)] = some (.sc (.bool (okS n))) := by
  rw [f26_eq 0]
  simp only [bA, bs, tb]
  have e : (decide (n ≥ 0) && decide (n ≤ 1000000000)) = okS n := rfl
  rw [e]
theorem rrights_ev (c : C5) : D 10 [c.pv] = some (.sc (.bool (okC c))) := by
  obtain ⟨n0, n1, n2, n3, n4⟩ := c
  refine (f10_eq 0 n0 n1 n2 n3 n4).trans ?_
  simp only [rright_ev, bs, shb, if_true, tb, bA]
  rfl
theorem rmeter_text (c : C5) : D 9 [c.pv] = some (.sc (.string (B (mtext c)))) := by
  obtain ⟨n0, n1, n2, n3, n4⟩ := c
  refine (f9_eq 0 n0 n1 n2 n3 n4).trans ?_
  simp only [C5.fold]
  refine cb (rrights_ev _) rfl ?_
  unfold mtext
  by_cases h : okC ⟨n0, n1, n2, n3, n4⟩ = true
  · rw [if_pos h]
    have h' := all5_iff.1 h
    dsimp only at h'
    obtain ⟨h0, h1, h2, h3, h4⟩ := h'
    have l0 := dS_len h0
    have l1 := dS_len h1
    have l2 := dS_len h2
    have l3 := dS_len h3
    have l4 := dS_len h4
    refine im (by rw [h]; decide) ?_
    refine cb (digits_okS h0) rfl ?_
    have k0 : (⟨#[101, 118, 97, 108, 115, 32]⟩ : ByteArray) = B (mq0 ++ [32]) := rfl
    have k1 : (⟨#[32, 114, 101, 97, 100, 115, 32]⟩ : ByteArray) = B ([32] ++ (mq1 ++ [32])) := rfl
    have k2 : (⟨#[32, 99, 104, 97, 115, 101, 115, 32]⟩ : ByteArray) = B ([32] ++ (mq2 ++ [32])) := rfl
    have k3 : (⟨#[32, 101, 100, 103, 101, 115, 32]⟩ : ByteArray) = B ([32] ++ (mq3 ++ [32])) := rfl
    have k4 : (⟨#[32, 118, 105, 115, 105, 116, 115, 32]⟩ : ByteArray) = B ([32] ++ (mq4 ++ [32])) := rfl
    rw [k0, k1, k2, k3, k4]
    simp only [ts, B_append, B_size]
    refine ip (by omega) (ip (by simp only [List.length_append, List.length_cons, List.length_nil, mq0_len]; omega) ?_)
    refine cb (digits_okS h1) rfl ?_
    simp only [ts, B_append, B_size]
    refine ip (by simp only [List.length_append, List.length_cons, List.length_nil, mq0_len, mq1_len]; omega) (ip (by simp only [List.length_append, List.length_cons, List.length_nil, mq0_len, mq1_len]; omega) ?_)
    refine cb (digits_okS h2) rfl ?_
    simp only [ts, B_append, B_size]
    refine ip (by simp only [List.length_append, List.length_cons, List.length_nil, mq0_len, mq1_len, mq2_len]; omega) (ip (by simp only [List.length_append, List.length_cons, List.length_nil, mq0_len, mq1_len, mq2_len]; omega) ?_)
    refine cb (digits_okS h3) rfl ?_
    simp only [ts, B_append, B_size]
    refine ip (by simp only [List.length_append, List.length_cons, List.length_nil, mq0_len, mq1_len, mq2_len, mq3_len]; omega) (ip (by simp only [List.length_append, List.length_cons, List.length_nil, mq0_len, mq1_len, mq2_len, mq3_len]; omega) ?_)
    refine cb (digits_okS h4) rfl ?_
    simp only [ts, B_append, B_size]
    refine ip (by simp only [List.length_append, List.length_cons, List.length_nil, mq0_len, mq1_len, mq2_len, mq3_len, mq4_len]; omega) ?_
    unfold mtC mtL
    simp only [List.append_assoc]
  · rw [if_neg h]
    refine ip (by simpa using h) rfl
/-- The reference's count of a word. -/
theorem rnum_l (w : List UInt8) (hw : w.length ≤ 1000000) : ∀ (d i n : Nat), i + d = w.length → n ≤ 10000000009 → ∃ v : Int, f24.l0a 0 (B w) (n : Int) (i : Int) = some (.sc (.int .i64 v)) ∧ ((w.drop i).all isD = true → valL (w.drop i) n ≤ 1000000000 → v = (valL (w.drop i) n : Int)) := by
  intro d
  induction d with
  | zero =>
    intro i n h hn
    refine ⟨n, ?_, ?_⟩
    · rw [f24.l0a_eq]
      exact im (by rw [decide_eq_true_eq, B_size]; omega) rfl
    · intro _ _
      rw [List.drop_eq_nil_of_le (by omega)]; rfl
  | succ d ih =>
    intro i n h hn
    have hi : i < w.length := by omega
    rw [f24.l0a_eq]
    have c1 : (0 : Int) ≤ (i : Int) := by omega
    have c2 : (i : Int) < ((B w).size : Int) := by rw [B_size]; omega
    rw [if_pos (show decide ((i : Int) < ((B w).size : Int)) = true from decide_eq_true c2)]
    simp only [if_pos c1, if_pos c2, bs, tb, bO, B_bt hi]
    rw [List.drop_eq_getElem_cons hi, List.all_cons, valL]
    by_cases hc : ((decide ((w[i].toNat : Int) < 48) || decide ((w[i].toNat : Int) > 57)) || decide ((n : Int) > 1000000000)) = true
    · refine ⟨-1, ip hc rfl, ?_⟩
      intro ha hv
      exfalso
      rw [Bool.and_eq_true] at ha
      have hd : 48 ≤ w[i].toNat ∧ w[i].toNat ≤ 57 := by have := ha.1; unfold isD at this; simpa using this
      have hge := valL_ge (w.drop (i + 1)) (n * 10 + (w[i].toNat - 48))
      simp only [Bool.or_eq_true, decide_eq_true_eq] at hc
      omega
    · have hc' := hc
      simp only [Bool.or_eq_true, decide_eq_true_eq] at hc
      obtain ⟨v, h1, h2⟩ := ih (i + 1) (n * 10 + (w[i].toNat - 48)) (by omega) (by omega)
      refine ⟨v, im hc' ?_, ?_⟩
      · rw [w64 (x := (n : Int) * 10) (by omega) (by omega), w64 (x := (w[i].toNat : Int)) (by omega) (by omega), w64 (x := (n : Int) * 10 + (w[i].toNat : Int)) (by omega) (by omega), w64 (x := (n : Int) * 10 + (w[i].toNat : Int) - 48) (by omega) (by omega), w64 (x := (i : Int) + 1) (by omega) (by omega), show (n : Int) * 10 + (w[i].toNat : Int) - 48 = ((n * 10 + (w[i].toNat - 48) : Nat) : Int) by omega]
        exact h1
      · intro ha hv
        rw [Bool.and_eq_true] at ha
        exact h2 ha.2 hv
theorem rnum36_ev (w : List UInt8) (hw : w.length ≤ 1000000) : ∃ v : Int, D 24 [.sc (.string (B w))] = some (.sc (.int .i64 v)) ∧ ∀ n, okS n = true → w = dS n → v = n := by
  obtain ⟨v, h1, h2⟩ := rnum_l w hw w.length 0 0 (by omega) (by omega)
  refine ⟨v, by rw [f24_eq 0]; exact h1, ?_⟩
  intro n hn e
  rw [okS_iff] at hn
  rw [List.drop_zero] at h2
  have ev : valL w 0 = n.toNat := by rw [e]; exact dd_val _
  have := h2 (by rw [e]; exact dd_all _) (by omega)
  omega
/-- What is read of a text is the cost whose text it is; of other texts none is. -/
def goodC (r : C5 × Bool) (l : List UInt8) : Prop := (r.2 = true → okC r.1 = true ∧ mtC r.1 = l) ∧ (r.2 = false → r.1 = ⟨0, 0, 0, 0, 0⟩ ∧ ∀ c, okC c = true → mtC c ≠ l)
theorem good_one {r s : C5 × Bool} {l : List UInt8} (h : goodC r l) (g : goodC s l) (inj : ∀ a b, okC a = true → okC b = true → mtC a = mtC b → a = b) : r = s := by
  obtain ⟨c, x⟩ := r
  obtain ⟨d, y⟩ := s
  cases x
  · obtain ⟨e1, h1⟩ := h.2 rfl
    cases y
    · obtain ⟨e2, _⟩ := g.2 rfl
      dsimp only at e1 e2
      rw [e1, e2]
    · obtain ⟨g1, g2⟩ := g.1 rfl
      exact absurd g2 (h1 d g1)
  · obtain ⟨h1, h2⟩ := h.1 rfl
    cases y
    · obtain ⟨_, g2⟩ := g.2 rfl
      exact absurd h2 (g2 c h1)
    · obtain ⟨g1, g2⟩ := g.1 rfl
      dsimp only at h1 h2 g1 g2
      rw [inj c d h1 g1 (h2.trans g2.symm)]
theorem mt_inj (a b : C5) (ha : okC a = true) (hb : okC b = true) (h : mtC a = mtC b) : a = b := by
  have e := congrArg spl h
  unfold mtC at e
  rw [mtL_spl, mtL_spl] at e
  simp only [List.cons.injEq, and_true, true_and] at e
  have ha' := all5_iff.1 ha
  have hb' := all5_iff.1 hb
  obtain ⟨e0, e1, e2, e3, e4⟩ := e
  cases a; cases b
  simp only [C5.mk.injEq]
  exact ⟨dS_inj ha'.1 hb'.1 e0, dS_inj ha'.2.1 hb'.2.1 e1, dS_inj ha'.2.2.1 hb'.2.2.1 e2, dS_inj ha'.2.2.2.1 hb'.2.2.2.1 e3, dS_inj ha'.2.2.2.2 hb'.2.2.2.2 e4⟩
theorem good_uniq {r s : C5 × Bool} {l : List UInt8} (h : goodC r l) (g : goodC s l) : r = s := good_one h g mt_inj
theorem good_told {r : C5 × Bool} {c : C5} (hc : okC c = true) (h : goodC r (mtC c)) : r = (c, true) := by
  refine good_uniq h ⟨fun _ => ⟨hc, rfl⟩, fun e => ?_⟩
  cases e
/-- The words of a text: ten, or not. -/
theorem ten_words {l : List UInt8} {c : C5} (h : mtC c = l) : spl l = [mq0, dS c.a, mq1, dS c.b, mq2, dS c.c, mq3, dS c.d, mq4, dS c.e] := by
  rw [← h]
  exact mtL_spl _ _ _ _ _
def pvP (r : C5 × Bool) : PV := .tup [r.1.pv, .sc (.bool r.2)]
def pvW (r : C5 × Bool) : PV := .agg [.sc (.int .i64 r.1.a), .sc (.int .i64 r.1.b), .sc (.int .i64 r.1.c), .sc (.int .i64 r.1.d), .sc (.int .i64 r.1.e), .sc (.bool r.2)]
theorem spl_word_len (l w : List UInt8) (h : w ∈ spl l) : w.length ≤ l.length := by
  have h1 := spl_len l
  have h2 : w.length ≤ (spl l).flatten.length := by
    obtain ⟨s, t, e⟩ := List.append_of_mem h
    rw [e]; simp; omega
  have h3 : 1 ≤ (spl l).length := by
    obtain ⟨a, b, e⟩ := spl_ne l
    rw [e]; simp
  omega
theorem rparse_ev (l : List UInt8) (hl : l.length ≤ 1000000) : ∃ r, D 8 [.sc (.string (B l))] = some (pvW r) ∧ goodC r l := by
  rw [f8_eq 0]
  by_cases h10 : (spl l).length = 10
  · obtain ⟨a0, w0, a1, w1, a2, w2, a3, w3, a4, w4, hs⟩ : ∃ a0 w0 a1 w1 a2 w2 a3 w3 a4 w4, spl l = [a0, w0, a1, w1, a2, w2, a3, w3, a4, w4] := by
      match hh : spl l, h10 with
      | [a0, w0, a1, w1, a2, w2, a3, w3, a4, w4], _ => exact ⟨_, _, _, _, _, _, _, _, _, _, rfl⟩
    have hw : ∀ w, w ∈ [a0, w0, a1, w1, a2, w2, a3, w3, a4, w4] → w.length ≤ 1000000 := fun w h => Nat.le_trans (spl_word_len l w (by rw [hs]; exact h)) hl
    obtain ⟨v0, e0, u0⟩ := rnum36_ev w0 (hw _ (by simp))
    obtain ⟨v1, e1, u1⟩ := rnum36_ev w1 (hw _ (by simp))
    obtain ⟨v2, e2, u2⟩ := rnum36_ev w2 (hw _ (by simp))
    obtain ⟨v3, e3, u3⟩ := rnum36_ev w3 (hw _ (by simp))
    obtain ⟨v4, e4, u4⟩ := rnum36_ev w4 (hw _ (by simp))
    have we := words_ev l hl
    rw [hs] at we
    have uni : ∀ c, okC c = true → mtC c = l → c = ⟨v0, v1, v2, v3, v4⟩ := by
      intro c hc e
      have t := ten_words e
      rw [hs] at t
      simp only [List.cons.injEq, and_true] at t
      obtain ⟨_, t0, _, t1, _, t2, _, t3, _, t4⟩ := t
      have k := all5_iff.1 hc
      cases c
      simp only [C5.mk.injEq]
      exact ⟨(u0 _ k.1 t0).symm, (u1 _ k.2.1 t1).symm, (u2 _ k.2.2.1 t2).symm, (u3 _ k.2.2.2.1 t3).symm, (u4 _ k.2.2.2.2 t4).symm⟩
    by_cases hx : okC ⟨v0, v1, v2, v3, v4⟩ = true ∧ mtC ⟨v0, v1, v2, v3, v4⟩ = l
    · refine ⟨(⟨v0, v1, v2, v3, v4⟩, true), ?_, fun _ => hx, fun h => by cases h⟩
      refine cb we rfl (im (show ¬ ((((10 : Nat) : Int) != 10) = true) by decide) (ip (show (1 : Int) < ((10 : Nat) : Int) by decide) (ip rfl (ip (show (3 : Int) < ((10 : Nat) : Int) by decide) (ip rfl (ip (show (5 : Int) < ((10 : Nat) : Int) by decide) (ip rfl (ip (show (7 : Int) < ((10 : Nat) : Int) by decide) (ip rfl (ip (show (9 : Int) < ((10 : Nat) : Int) by decide) (ip rfl ?_)))))))))))
      refine cb e0 rfl (cb e1 rfl (cb e2 rfl (cb e3 rfl (cb e4 rfl ?_))))
      refine cb (rrights_ev ⟨v0, v1, v2, v3, v4⟩) rfl ?_
      rw [hx.1]
      have t := rmeter_text ⟨v0, v1, v2, v3, v4⟩
      have tt : mtext ⟨v0, v1, v2, v3, v4⟩ = l := by unfold mtext; rw [if_pos hx.1]; exact hx.2
      rw [tt] at t
      simp only [bs, tb, ti, C5.fold, t, shs, if_true, ts, beq_self_eq_true, Bool.not_true, Bool.false_eq_true, if_false]
      rfl
    · refine ⟨(⟨0, 0, 0, 0, 0⟩, false), ?_, (fun h => by cases h), fun _ => ⟨rfl, fun c hc e => hx (by have := uni c hc e; subst this; exact ⟨hc, e⟩)⟩⟩
      refine cb we rfl (im (show ¬ ((((10 : Nat) : Int) != 10) = true) by decide) (ip (show (1 : Int) < ((10 : Nat) : Int) by decide) (ip rfl (ip (show (3 : Int) < ((10 : Nat) : Int) by decide) (ip rfl (ip (show (5 : Int) < ((10 : Nat) : Int) by decide) (ip rfl (ip (show (7 : Int) < ((10 : Nat) : Int) by decide) (ip rfl (ip (show (9 : Int) < ((10 : Nat) : Int) by decide) (ip rfl ?_)))))))))))
      refine cb e0 rfl (cb e1 rfl (cb e2 rfl (cb e3 rfl (cb e4 rfl ?_))))
      refine cb (rrights_ev ⟨v0, v1, v2, v3, v4⟩) rfl ?_
      have t := rmeter_text ⟨v0, v1, v2, v3, v4⟩
      by_cases ho : okC ⟨v0, v1, v2, v3, v4⟩ = true
      · rw [ho]
        have tt : mtext ⟨v0, v1, v2, v3, v4⟩ ≠ l := by unfold mtext; rw [if_pos ho]; exact fun h => hx ⟨ho, h⟩
        have tb' : ((B (mtext ⟨v0, v1, v2, v3, v4⟩)).toList == (B l).toList) = false := by rw [B_toList, B_toList]; exact beq_eq_false_iff_ne.2 tt
        simp only [bs, tb, ti, C5.fold, t, shs, if_true, ts, tb', Bool.not_true, Bool.not_false, Bool.false_eq_true, if_false]
        rfl
      · have ho' : okC ⟨v0, v1, v2, v3, v4⟩ = false := by simpa using ho
        rw [ho']
        simp only [bs, tb, Bool.not_false, if_true]
        rfl
  · refine ⟨(⟨0, 0, 0, 0, 0⟩, false), ?_, (fun h => by cases h), fun _ => ⟨rfl, fun c hc e => h10 (by rw [ten_words e]; rfl)⟩⟩
    refine cb (words_ev l hl) rfl (ip ?_ rfl)
    show (((wp (spl l)).length : Int) != 10) = true
    rw [wp_len, bne_iff_ne]; omega
theorem mstep {g : Int × Bool} {P : Prop} (h : (g.2 = true ∧ 0 ≤ g.1 ∧ g.1.tmod 10000 = 0 ∧ (0 ≤ g.1.tdiv 10000 ∧ g.1.tdiv 10000 ≤ 922337203685477) ∧ P) ) : ((!g.2 || decide (g.1 < 0)) || (g.1.tmod 10000 != 0)) = false := by
  obtain ⟨h1, h2, h3, _⟩ := h
  rw [h1, h3, decide_eq_false (by omega)]; rfl
theorem mfail {g : Int × Bool} (h : g.2 = false ∨ g.1 < 0 ∨ g.1.tmod 10000 ≠ 0) : ((!g.2 || decide (g.1 < 0)) || (g.1.tmod 10000 != 0)) = true := by
  rcases h with h | h | h
  · rw [h]; rfl
  · rw [decide_eq_true h]; simp
  · rw [(bne_iff_ne).2 h]; simp
theorem mp_5 (l : List UInt8) (hl : l.length ≤ 1000000) (a0 w0 a1 w1 a2 w2 a3 w3 a4 w4 : List UInt8) (hs : spl l = [a0, w0, a1, w1, a2, w2, a3, w3, a4, w4]) (m0 m1 m2 m3 m4 : Int) (k0 : ∀ n, okS n = true → w0 = dS n → m0 = n) (k1 : ∀ n, okS n = true → w1 = dS n → m1 = n) (k2 : ∀ n, okS n = true → w2 = dS n → m2 = n) (k3 : ∀ n, okS n = true → w3 = dS n → m3 = n) (k4 : ∀ n, okS n = true → w4 = dS n → m4 = n) : ∃ r, f7.l0f 0 (B l) 10 (fun i => (wp [a0, w0, a1, w1, a2, w2, a3, w3, a4, w4]).getD i .top) m0 m1 m2 m3 m4 = some (pvP r) ∧ goodC r l := by
  rw [f7.l0f_eq]
  have uni : ∀ c, okC c = true → mtC c = l → c = ⟨m0, m1, m2, m3, m4⟩ := by
    intro c hc e
    have t := ten_words e
    rw [hs] at t
    simp only [List.cons.injEq, and_true] at t
    obtain ⟨_, t0, _, t1, _, t2, _, t3, _, t4⟩ := t
    have k := all5_iff.1 hc
    cases c
    simp only [C5.mk.injEq]
    exact ⟨(k0 _ k.1 t0).symm, (k1 _ k.2.1 t1).symm, (k2 _ k.2.2.1 t2).symm, (k3 _ k.2.2.2.1 t3).symm, (k4 _ k.2.2.2.2 t4).symm⟩
  have t := meter_text ⟨m0, m1, m2, m3, m4⟩
  have ce := mcost_ev ⟨m0, m1, m2, m3, m4⟩
  by_cases hx : mtext ⟨m0, m1, m2, m3, m4⟩ = l
  · have ho : okC ⟨m0, m1, m2, m3, m4⟩ = true := by
      cases h : okC ⟨m0, m1, m2, m3, m4⟩
      · exfalso
        unfold mtext at hx
        rw [h] at hx
        have hx2 : [] = l := hx
        rw [← hx2] at hs
        simp [spl] at hs
      · rfl
    refine ⟨(⟨m0, m1, m2, m3, m4⟩, true), ?_, fun _ => ⟨ho, by unfold mtext at hx; rw [if_pos ho] at hx; exact hx⟩, fun h => by cases h⟩
    refine cb ce rfl (cb t rfl ?_)
    rw [hx]
    refine im (by simp only [ts, beq_self_eq_true]; decide) rfl
  · refine ⟨(⟨0, 0, 0, 0, 0⟩, false), ?_, (fun h => by cases h), fun _ => ⟨rfl, fun c hc e => ?_⟩⟩
    · refine cb ce rfl (cb t rfl ?_)
      have tb' : ((B (mtext ⟨m0, m1, m2, m3, m4⟩)).toList == (B l).toList) = false := by rw [B_toList, B_toList]; exact beq_eq_false_iff_ne.2 hx
      refine ip (by simp only [ts, tb']; decide) rfl
    · have := uni c hc e
      subst this
      exact hx (by unfold mtext; rw [if_pos hc]; exact e)
theorem mp_4 (l : List UInt8) (hl : l.length ≤ 1000000) (a0 w0 a1 w1 a2 w2 a3 w3 a4 w4 : List UInt8) (hs : spl l = [a0, w0, a1, w1, a2, w2, a3, w3, a4, w4]) (m0 m1 m2 m3 : Int) (k0 : ∀ n, okS n = true → w0 = dS n → m0 = n) (k1 : ∀ n, okS n = true → w1 = dS n → m1 = n) (k2 : ∀ n, okS n = true → w2 = dS n → m2 = n) (k3 : ∀ n, okS n = true → w3 = dS n → m3 = n) : ∃ r, f7.l0e 0 (B l) 10 (fun i => (wp [a0, w0, a1, w1, a2, w2, a3, w3, a4, w4]).getD i .top) m0 m1 m2 m3 = some (pvP r) ∧ goodC r l := by
  rw [f7.l0e_eq]
  have hw : w4.length ≤ 1000000 := Nat.le_trans (spl_word_len l w4 (by rw [hs]; simp)) hl
  obtain ⟨g, e, u⟩ := cnt_read w4 hw
  have no : (∀ n, okS n = true → w4 ≠ dS n) → goodC (⟨0, 0, 0, 0, 0⟩, false) l := by
    intro hn
    refine ⟨(fun h => by cases h), fun _ => ⟨rfl, fun c hc e => ?_⟩⟩
    have t := ten_words e
    rw [hs] at t
    simp only [List.cons.injEq, and_true] at t
    obtain ⟨_, t0, _, t1, _, t2, _, t3, _, t4⟩ := t
    have k := all5_iff.1 hc
    exact hn _ k.2.2.2.2 t4
  rcases u with h | ⟨h1, h2⟩
  · obtain ⟨r, e2, gr⟩ := mp_5 l hl a0 w0 a1 w1 a2 w2 a3 w3 a4 w4 hs m0 m1 m2 m3 (IntKind.i64.wrap (g.1.tdiv 10000)) k0 k1 k2 k3 (by rw [w64 (by omega) (by omega)]; exact h.2.2.2.2)
    refine ⟨r, ?_, gr⟩
    refine ip (by decide) (ip rfl (cb e rfl ?_))
    rw [bO, bO]
    refine im (show ¬ (((!g.2 || decide (g.1 < 0)) || (g.1.tmod 10000 != 0)) = true) by rw [mstep h]; decide) ?_
    exact e2
  · refine ⟨_, ?_, no h2⟩
    refine ip (by decide) (ip rfl (cb e rfl ?_))
    rw [bO, bO]
    exact ip (show ((!g.2 || decide (g.1 < 0)) || (g.1.tmod 10000 != 0)) = true from mfail h1) rfl
theorem mp_3 (l : List UInt8) (hl : l.length ≤ 1000000) (a0 w0 a1 w1 a2 w2 a3 w3 a4 w4 : List UInt8) (hs : spl l = [a0, w0, a1, w1, a2, w2, a3, w3, a4, w4]) (m0 m1 m2 : Int) (k0 : ∀ n, okS n = true → w0 = dS n → m0 = n) (k1 : ∀ n, okS n = true → w1 = dS n → m1 = n) (k2 : ∀ n, okS n = true → w2 = dS n → m2 = n) : ∃ r, f7.l0d 0 (B l) 10 (fun i => (wp [a0, w0, a1, w1, a2, w2, a3, w3, a4, w4]).getD i .top) m0 m1 m2 = some (pvP r) ∧ goodC r l := by
  rw [f7.l0d_eq]
  have hw : w3.length ≤ 1000000 := Nat.le_trans (spl_word_len l w3 (by rw [hs]; simp)) hl
  obtain ⟨g, e, u⟩ := cnt_read w3 hw
  have no : (∀ n, okS n = true → w3 ≠ dS n) → goodC (⟨0, 0, 0, 0, 0⟩, false) l := by
    intro hn
    refine ⟨(fun h => by cases h), fun _ => ⟨rfl, fun c hc e => ?_⟩⟩
    have t := ten_words e
    rw [hs] at t
    simp only [List.cons.injEq, and_true] at t
    obtain ⟨_, t0, _, t1, _, t2, _, t3, _, t4⟩ := t
    have k := all5_iff.1 hc
    exact hn _ k.2.2.2.1 t3
  rcases u with h | ⟨h1, h2⟩
  · obtain ⟨r, e2, gr⟩ := mp_4 l hl a0 w0 a1 w1 a2 w2 a3 w3 a4 w4 hs m0 m1 m2 (IntKind.i64.wrap (g.1.tdiv 10000)) k0 k1 k2 (by rw [w64 (by omega) (by omega)]; exact h.2.2.2.2)
    refine ⟨r, ?_, gr⟩
    refine ip (by decide) (ip rfl (cb e rfl ?_))
    rw [bO, bO]
    refine im (show ¬ (((!g.2 || decide (g.1 < 0)) || (g.1.tmod 10000 != 0)) = true) by rw [mstep h]; decide) ?_
    exact e2
  · refine ⟨_, ?_, no h2⟩
    refine ip (by decide) (ip rfl (cb e rfl ?_))
    rw [bO, bO]
    exact ip (show ((!g.2 || decide (g.1 < 0)) || (g.1.tmod 10000 != 0)) = true from mfail h1) rfl
theorem mp_2 (l : List UInt8) (hl : l.length ≤ 1000000) (a0 w0 a1 w1 a2 w2 a3 w3 a4 w4 : List UInt8) (hs : spl l = [a0, w0, a1, w1, a2, w2, a3, w3, a4, w4]) (m0 m1 : Int) (k0 : ∀ n, okS n = true → w0 = dS n → m0 = n) (k1 : ∀ n, okS n = true → w1 = dS n → m1 = n) : ∃ r, f7.l0c 0 (B l) 10 (fun i => (wp [a0, w0, a1, w1, a2, w2, a3, w3, a4, w4]).getD i .top) m0 m1 = some (pvP r) ∧ goodC r l := by
  rw [f7.l0c_eq]
  have hw : w2.length ≤ 1000000 := Nat.le_trans (spl_word_len l w2 (by rw [hs]; simp)) hl
  obtain ⟨g, e, u⟩ := cnt_read w2 hw
  have no : (∀ n, okS n = true → w2 ≠ dS n) → goodC (⟨0, 0, 0, 0, 0⟩, false) l := by
    intro hn
    refine ⟨(fun h => by cases h), fun _ => ⟨rfl, fun c hc e => ?_⟩⟩
    have t := ten_words e
    rw [hs] at t
    simp only [List.cons.injEq, and_true] at t
    obtain ⟨_, t0, _, t1, _, t2, _, t3, _, t4⟩ := t
    have k := all5_iff.1 hc
    exact hn _ k.2.2.1 t2
  rcases u with h | ⟨h1, h2⟩
  · obtain ⟨r, e2, gr⟩ := mp_3 l hl a0 w0 a1 w1 a2 w2 a3 w3 a4 w4 hs m0 m1 (IntKind.i64.wrap (g.1.tdiv 10000)) k0 k1 (by rw [w64 (by omega) (by omega)]; exact h.2.2.2.2)
    refine ⟨r, ?_, gr⟩
    refine ip (by decide) (ip rfl (cb e rfl ?_))
    rw [bO, bO]
    refine im (show ¬ (((!g.2 || decide (g.1 < 0)) || (g.1.tmod 10000 != 0)) = true) by rw [mstep h]; decide) ?_
    exact e2
  · refine ⟨_, ?_, no h2⟩
    refine ip (by decide) (ip rfl (cb e rfl ?_))
    rw [bO, bO]
    exact ip (show ((!g.2 || decide (g.1 < 0)) || (g.1.tmod 10000 != 0)) = true from mfail h1) rfl
theorem mp_1 (l : List UInt8) (hl : l.length ≤ 1000000) (a0 w0 a1 w1 a2 w2 a3 w3 a4 w4 : List UInt8) (hs : spl l = [a0, w0, a1, w1, a2, w2, a3, w3, a4, w4]) (m0 : Int) (k0 : ∀ n, okS n = true → w0 = dS n → m0 = n) : ∃ r, f7.l0b 0 (B l) 10 (fun i => (wp [a0, w0, a1, w1, a2, w2, a3, w3, a4, w4]).getD i .top) m0 = some (pvP r) ∧ goodC r l := by
  rw [f7.l0b_eq]
  have hw : w1.length ≤ 1000000 := Nat.le_trans (spl_word_len l w1 (by rw [hs]; simp)) hl
  obtain ⟨g, e, u⟩ := cnt_read w1 hw
  have no : (∀ n, okS n = true → w1 ≠ dS n) → goodC (⟨0, 0, 0, 0, 0⟩, false) l := by
    intro hn
    refine ⟨(fun h => by cases h), fun _ => ⟨rfl, fun c hc e => ?_⟩⟩
    have t := ten_words e
    rw [hs] at t
    simp only [List.cons.injEq, and_true] at t
    obtain ⟨_, t0, _, t1, _, t2, _, t3, _, t4⟩ := t
    have k := all5_iff.1 hc
    exact hn _ k.2.1 t1
  rcases u with h | ⟨h1, h2⟩
  · obtain ⟨r, e2, gr⟩ := mp_2 l hl a0 w0 a1 w1 a2 w2 a3 w3 a4 w4 hs m0 (IntKind.i64.wrap (g.1.tdiv 10000)) k0 (by rw [w64 (by omega) (by omega)]; exact h.2.2.2.2)
    refine ⟨r, ?_, gr⟩
    refine ip (by decide) (ip rfl (cb e rfl ?_))
    rw [bO, bO]
    refine im (show ¬ (((!g.2 || decide (g.1 < 0)) || (g.1.tmod 10000 != 0)) = true) by rw [mstep h]; decide) ?_
    exact e2
  · refine ⟨_, ?_, no h2⟩
    refine ip (by decide) (ip rfl (cb e rfl ?_))
    rw [bO, bO]
    exact ip (show ((!g.2 || decide (g.1 < 0)) || (g.1.tmod 10000 != 0)) = true from mfail h1) rfl
theorem mp_0 (l : List UInt8) (hl : l.length ≤ 1000000) (a0 w0 a1 w1 a2 w2 a3 w3 a4 w4 : List UInt8) (hs : spl l = [a0, w0, a1, w1, a2, w2, a3, w3, a4, w4])   : ∃ r, f7.l0a 0 (B l) 10 (fun i => (wp [a0, w0, a1, w1, a2, w2, a3, w3, a4, w4]).getD i .top)  = some (pvP r) ∧ goodC r l := by
  rw [f7.l0a_eq]
  have hw : w0.length ≤ 1000000 := Nat.le_trans (spl_word_len l w0 (by rw [hs]; simp)) hl
  obtain ⟨g, e, u⟩ := cnt_read w0 hw
  have no : (∀ n, okS n = true → w0 ≠ dS n) → goodC (⟨0, 0, 0, 0, 0⟩, false) l := by
    intro hn
    refine ⟨(fun h => by cases h), fun _ => ⟨rfl, fun c hc e => ?_⟩⟩
    have t := ten_words e
    rw [hs] at t
    simp only [List.cons.injEq, and_true] at t
    obtain ⟨_, t0, _, t1, _, t2, _, t3, _, t4⟩ := t
    have k := all5_iff.1 hc
    exact hn _ k.1 t0
  rcases u with h | ⟨h1, h2⟩
  · obtain ⟨r, e2, gr⟩ := mp_1 l hl a0 w0 a1 w1 a2 w2 a3 w3 a4 w4 hs  (IntKind.i64.wrap (g.1.tdiv 10000))  (by rw [w64 (by omega) (by omega)]; exact h.2.2.2.2)
    refine ⟨r, ?_, gr⟩
    refine ip (by decide) (ip rfl (cb e rfl ?_))
    rw [bO, bO]
    refine im (show ¬ (((!g.2 || decide (g.1 < 0)) || (g.1.tmod 10000 != 0)) = true) by rw [mstep h]; decide) ?_
    exact e2
  · refine ⟨_, ?_, no h2⟩
    refine ip (by decide) (ip rfl (cb e rfl ?_))
    rw [bO, bO]
    exact ip (show ((!g.2 || decide (g.1 < 0)) || (g.1.tmod 10000 != 0)) = true from mfail h1) rfl
theorem mparse_ev (l : List UInt8) (hl : l.length ≤ 1000000) : ∃ r, D 7 [.sc (.string (B l))] = some (pvP r) ∧ goodC r l := by
  rw [f7_eq 0]
  have we := split_ev l hl
  by_cases h10 : (spl l).length = 10
  · obtain ⟨a0, w0, a1, w1, a2, w2, a3, w3, a4, w4, hs⟩ : ∃ a0 w0 a1 w1 a2 w2 a3 w3 a4 w4, spl l = [a0, w0, a1, w1, a2, w2, a3, w3, a4, w4] := by
      match hh : spl l, h10 with
      | [a0, w0, a1, w1, a2, w2, a3, w3, a4, w4], _ => exact ⟨_, _, _, _, _, _, _, _, _, _, rfl⟩
    obtain ⟨r, e, g⟩ := mp_0 l hl a0 w0 a1 w1 a2 w2 a3 w3 a4 w4 hs
    refine ⟨r, ?_, g⟩
    rw [hs] at we
    refine cb we rfl (im (show ¬ ((((10 : Nat) : Int) != 10) = true) by decide) ?_)
    exact e
  · refine ⟨(⟨0, 0, 0, 0, 0⟩, false), ?_, (fun h => by cases h), fun _ => ⟨rfl, fun c hc e => h10 (by rw [ten_words e]; rfl)⟩⟩
    refine cb we rfl (ip ?_ rfl)
    show (((wp (spl l)).length : Int) != 10) = true
    rw [wp_len, bne_iff_ne]; omega
end Go.Den.EM
