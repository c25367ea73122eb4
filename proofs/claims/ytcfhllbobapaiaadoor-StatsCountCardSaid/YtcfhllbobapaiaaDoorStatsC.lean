/- Rows counted: the counts, and their texts. -/
import Derived.Test.YtcfhllbobapaiaaDoorStatsB
import Derived.Test.YtcfhllbobapaiaaDoorDigTS
set_option linter.unusedVariables false
set_option linter.unusedSimpArgs false
set_option maxRecDepth 100000
namespace Go.Den.ES
open Go Go.Proofs
def okS (n : Int) : Bool := decide (0 ≤ n) && decide (n ≤ 1000000000)
def dS (n : Int) : List UInt8 := Lib.decDigits n.toNat
theorem dS_len {n : Int} (h : okS n = true) : (dS n).length ≤ 10 := by
  unfold okS at h
  simp only [Bool.and_eq_true, decide_eq_true_eq] at h
  exact dd_len 9 n.toNat (by omega)
theorem okS_bad {n : Int} (h : ¬ okS n = true) : (decide (n < 0) || decide (n > 1000000000)) = true := by
  unfold okS at h
  simp only [Bool.and_eq_true, decide_eq_true_eq, Bool.or_eq_true] at h ⊢
  omega
theorem okS_good {n : Int} (h : okS n = true) : ¬ (decide (n < 0) || decide (n > 1000000000)) = true := by
  unfold okS at h
  simp only [Bool.and_eq_true, decide_eq_true_eq, Bool.or_eq_true] at h ⊢
  omega
theorem text_okS {n : Int} (h : okS n = true) : D 15 [.sc (.int .i64 (IntKind.i64.wrap (n * 10000)))] = some (.sc (.string (B (dS n)))) := by
  unfold okS at h
  simp only [Bool.and_eq_true, decide_eq_true_eq] at h
  exact count_ev h.1 h.2
theorem digits_okS {n : Int} (h : okS n = true) : D 81 [.sc (.int .i64 n)] = some (.sc (.string (B (dS n)))) := by
  unfold okS at h
  simp only [Bool.and_eq_true, decide_eq_true_eq] at h
  exact digits_ev h.1 (by omega)
def q0 : List UInt8 := [99, 101, 108, 108, 115]
theorem q0_len : q0.length = 5 := rfl
def q1 : List UInt8 := [104, 105, 100, 100, 101, 110]
theorem q1_len : q1.length = 6 := rfl
def q2 : List UInt8 := [98, 108, 97, 110, 107, 115]
theorem q2_len : q2.length = 6 := rfl
def q3 : List UInt8 := [110, 117, 109, 98, 101, 114, 115]
theorem q3_len : q3.length = 7 := rfl
def q4 : List UInt8 := [116, 101, 120, 116, 115]
theorem q4_len : q4.length = 5 := rfl
def q5 : List UInt8 := [116, 114, 117, 116, 104, 115]
theorem q5_len : q5.length = 6 := rfl
def q6 : List UInt8 := [102, 97, 117, 108, 116, 115]
theorem q6_len : q6.length = 6 := rfl
def q7 : List UInt8 := [99, 121, 99, 108, 101, 115]
theorem q7_len : q7.length = 6 := rfl
def WS : List ByteArray := [B q0, B q1, B q2, B q3, B q4, B q5, B q6, B q7]
def WF : Nat → PV := fun i => (WS.map fun s => PV.sc (.string s)).getD i .top
theorem st_0 (n0 n1 n2 n3 n4 n5 n6 n7 : Int) : f29.l0a 0 8 WF 8 n0 n1 n2 n3 n4 n5 n6 n7 = if okS n0 = true then f29.l0b 0 8 WF 8 [.sc (.string (B q0)), .sc (.string (B (dS n0)))] n0 n1 n2 n3 n4 n5 n6 n7 else some (.sc (.string (⟨#[]⟩ : ByteArray))) := by
  rw [f29.l0a_eq]
  refine ip (by decide) (ip (by decide) (ip rfl ?_))
  simp only [bO, tb]
  by_cases h : okS n0 = true
  · rw [if_pos h]
    refine im (okS_good h) (cb (text_okS h) rfl (ip (by simp; try omega) rfl))
  · rw [if_neg h]
    exact ip (okS_bad h) rfl
theorem st_1 (out : List PV) (ho : out.length ≤ 100) (n0 n1 n2 n3 n4 n5 n6 n7 : Int) : f29.l0b 0 8 WF 8 out n0 n1 n2 n3 n4 n5 n6 n7 = if okS n1 = true then f29.l0c 0 8 WF 8 (out ++ [.sc (.string (B q1)), .sc (.string (B (dS n1)))]) n0 n1 n2 n3 n4 n5 n6 n7 else some (.sc (.string (⟨#[]⟩ : ByteArray))) := by
  rw [f29.l0b_eq]
  refine ip (by decide) (ip (by decide) (ip rfl ?_))
  simp only [bO, tb]
  by_cases h : okS n1 = true
  · rw [if_pos h]
    refine im (okS_good h) (cb (text_okS h) rfl (ip (by simp; try omega) rfl))
  · rw [if_neg h]
    exact ip (okS_bad h) rfl
theorem st_2 (out : List PV) (ho : out.length ≤ 100) (n0 n1 n2 n3 n4 n5 n6 n7 : Int) : f29.l0c 0 8 WF 8 out n0 n1 n2 n3 n4 n5 n6 n7 = if okS n2 = true then f29.l0d 0 8 WF 8 (out ++ [.sc (.string (B q2)), .sc (.string (B (dS n2)))]) n0 n1 n2 n3 n4 n5 n6 n7 else some (.sc (.string (⟨#[]⟩ : ByteArray))) := by
  rw [f29.l0c_eq]
  refine ip (by decide) (ip (by decide) (ip rfl ?_))
  simp only [bO, tb]
  by_cases h : okS n2 = true
  · rw [if_pos h]
    refine im (okS_good h) (cb (text_okS h) rfl (ip (by simp; try omega) rfl))
  · rw [if_neg h]
    exact ip (okS_bad h) rfl
theorem st_3 (out : List PV) (ho : out.length ≤ 100) (n0 n1 n2 n3 n4 n5 n6 n7 : Int) : f29.l0d 0 8 WF 8 out n0 n1 n2 n3 n4 n5 n6 n7 = if okS n3 = true then f29.l0e 0 8 WF 8 (out ++ [.sc (.string (B q3)), .sc (.string (B (dS n3)))]) n0 n1 n2 n3 n4 n5 n6 n7 else some (.sc (.string (⟨#[]⟩ : ByteArray))) := by
  rw [f29.l0d_eq]
  refine ip (by decide) (ip (by decide) (ip rfl ?_))
  simp only [bO, tb]
  by_cases h : okS n3 = true
  · rw [if_pos h]
    refine im (okS_good h) (cb (text_okS h) rfl (ip (by simp; try omega) rfl))
  · rw [if_neg h]
    exact ip (okS_bad h) rfl
theorem st_4 (out : List PV) (ho : out.length ≤ 100) (n0 n1 n2 n3 n4 n5 n6 n7 : Int) : f29.l0e 0 8 WF 8 out n0 n1 n2 n3 n4 n5 n6 n7 = if okS n4 = true then f29.l0f 0 8 WF 8 (out ++ [.sc (.string (B q4)), .sc (.string (B (dS n4)))]) n0 n1 n2 n3 n4 n5 n6 n7 else some (.sc (.string (⟨#[]⟩ : ByteArray))) := by
  rw [f29.l0e_eq]
  refine ip (by decide) (ip (by decide) (ip rfl ?_))
  simp only [bO, tb]
  by_cases h : okS n4 = true
  · rw [if_pos h]
    refine im (okS_good h) (cb (text_okS h) rfl (ip (by simp; try omega) rfl))
  · rw [if_neg h]
    exact ip (okS_bad h) rfl
theorem st_5 (out : List PV) (ho : out.length ≤ 100) (n0 n1 n2 n3 n4 n5 n6 n7 : Int) : f29.l0f 0 8 WF 8 out n0 n1 n2 n3 n4 n5 n6 n7 = if okS n5 = true then f29.l0g 0 8 WF 8 (out ++ [.sc (.string (B q5)), .sc (.string (B (dS n5)))]) n0 n1 n2 n3 n4 n5 n6 n7 else some (.sc (.string (⟨#[]⟩ : ByteArray))) := by
  rw [f29.l0f_eq]
  refine ip (by decide) (ip (by decide) (ip rfl ?_))
  simp only [bO, tb]
  by_cases h : okS n5 = true
  · rw [if_pos h]
    refine im (okS_good h) (cb (text_okS h) rfl (ip (by simp; try omega) rfl))
  · rw [if_neg h]
    exact ip (okS_bad h) rfl
theorem st_6 (out : List PV) (ho : out.length ≤ 100) (n0 n1 n2 n3 n4 n5 n6 n7 : Int) : f29.l0g 0 8 WF 8 out n0 n1 n2 n3 n4 n5 n6 n7 = if okS n6 = true then f29.l0h 0 8 WF 8 (out ++ [.sc (.string (B q6)), .sc (.string (B (dS n6)))]) n0 n1 n2 n3 n4 n5 n6 n7 else some (.sc (.string (⟨#[]⟩ : ByteArray))) := by
  rw [f29.l0g_eq]
  refine ip (by decide) (ip (by decide) (ip rfl ?_))
  simp only [bO, tb]
  by_cases h : okS n6 = true
  · rw [if_pos h]
    refine im (okS_good h) (cb (text_okS h) rfl (ip (by simp; try omega) rfl))
  · rw [if_neg h]
    exact ip (okS_bad h) rfl
theorem st_7 (out : List PV) (ho : out.length ≤ 100) (n0 n1 n2 n3 n4 n5 n6 n7 : Int) : f29.l0h 0 8 WF 8 out n0 n1 n2 n3 n4 n5 n6 n7 = if okS n7 = true then f29.l0i 0 8 WF 8 (out ++ [.sc (.string (B q7)), .sc (.string (B (dS n7)))]) n0 n1 n2 n3 n4 n5 n6 n7 else some (.sc (.string (⟨#[]⟩ : ByteArray))) := by
  rw [f29.l0h_eq]
  refine ip (by decide) (ip (by decide) (ip rfl ?_))
  simp only [bO, tb]
  by_cases h : okS n7 = true
  · rw [if_pos h]
    refine im (okS_good h) (cb (text_okS h) rfl (ip (by simp; try omega) rfl))
  · rw [if_neg h]
    exact ip (okS_bad h) rfl
def all8 (n0 n1 n2 n3 n4 n5 n6 n7 : Int) : Bool := okS n0 && okS n1 && okS n2 && okS n3 && okS n4 && okS n5 && okS n6 && okS n7
def outs (n0 n1 n2 n3 n4 n5 n6 n7 : Int) : List ByteArray := [B q0, B (dS n0), B q1, B (dS n1), B q2, B (dS n2), B q3, B (dS n3), B q4, B (dS n4), B q5, B (dS n5), B q6, B (dS n6), B q7, B (dS n7)]
def tL (n0 n1 n2 n3 n4 n5 n6 n7 : Int) : List UInt8 := q0 ++ [32] ++ dS n0 ++ [32] ++ q1 ++ [32] ++ dS n1 ++ [32] ++ q2 ++ [32] ++ dS n2 ++ [32] ++ q3 ++ [32] ++ dS n3 ++ [32] ++ q4 ++ [32] ++ dS n4 ++ [32] ++ q5 ++ [32] ++ dS n5 ++ [32] ++ q6 ++ [32] ++ dS n6 ++ [32] ++ q7 ++ [32] ++ dS n7
theorem tL_join (n0 n1 n2 n3 n4 n5 n6 n7 : Int) : Lib.join ((outs n0 n1 n2 n3 n4 n5 n6 n7).map (·.data.toList)) [32] = tL n0 n1 n2 n3 n4 n5 n6 n7 := by
  unfold outs tL Lib.join
  simp only [List.map_cons, List.map_nil, B_data]
  simp [List.intercalate, List.intersperse]
theorem tL_len (n0 n1 n2 n3 n4 n5 n6 n7 : Int) (h : all8 n0 n1 n2 n3 n4 n5 n6 n7 = true) : (tL n0 n1 n2 n3 n4 n5 n6 n7).length ≤ 1000 := by
  unfold all8 at h
  simp only [Bool.and_eq_true] at h
  obtain ⟨⟨⟨⟨⟨⟨⟨h0, h1⟩, h2⟩, h3⟩, h4⟩, h5⟩, h6⟩, h7⟩ := h
  have := dS_len h0
  have := dS_len h1
  have := dS_len h2
  have := dS_len h3
  have := dS_len h4
  have := dS_len h5
  have := dS_len h6
  have := dS_len h7
  unfold tL
  simp only [List.length_append, List.length_cons, List.length_nil, q0_len, q1_len, q2_len, q3_len, q4_len, q5_len, q6_len, q7_len]
  omega
theorem jn (x t : PV) : D 80 [x, t] = xJoin [x, t] := (denI_eq 0 _ _).trans (by kernel_rfl)
theorem join_ev (n0 n1 n2 n3 n4 n5 n6 n7 : Int) (h : all8 n0 n1 n2 n3 n4 n5 n6 n7 = true) : D 80 [frozen 1 ((outs n0 n1 n2 n3 n4 n5 n6 n7).map fun s => PV.sc (.string s)), .sc (.string (⟨#[32]⟩ : ByteArray))] = some (.sc (.string (B (tL n0 n1 n2 n3 n4 n5 n6 n7)))) := by
  rw [jn]
  unfold xJoin frozen
  show (if _ ∧ _ ∧ _ then _ else _) = _
  have ej : joinArgs ((outs n0 n1 n2 n3 n4 n5 n6 n7).map fun s => PV.sc (.string s)).length (fun i => ((outs n0 n1 n2 n3 n4 n5 n6 n7).map fun s => PV.sc (.string s)).getD i .top) = outs n0 n1 n2 n3 n4 n5 n6 n7 := rfl
  have e32 : (⟨#[32]⟩ : ByteArray).data.toList = [32] := rfl
  rw [ej, e32, tL_join]
  have := tL_len n0 n1 n2 n3 n4 n5 n6 n7 h
  exact if_pos ⟨by simp [outs], rfl, by omega⟩
theorem last_ev (n0 n1 n2 n3 n4 n5 n6 n7 : Int) (h : all8 n0 n1 n2 n3 n4 n5 n6 n7 = true) : f29.l0i 0 8 WF 8 ((outs n0 n1 n2 n3 n4 n5 n6 n7).map fun s => PV.sc (.string s)) n0 n1 n2 n3 n4 n5 n6 n7 = some (.sc (.string (B (tL n0 n1 n2 n3 n4 n5 n6 n7)))) := by
  rw [f29.l0i_eq]
  refine im (by decide) (cb (join_ev n0 n1 n2 n3 n4 n5 n6 n7 h) rfl rfl)
def textS (s : S8) : ByteArray := if all8 s.a s.b s.c s.d s.e s.f s.g s.h = true then B (tL s.a s.b s.c s.d s.e s.f s.g s.h) else ⟨#[]⟩
theorem fields_ev : D 79 [.sc (.string (⟨#[99, 101, 108, 108, 115, 32, 104, 105, 100, 100, 101, 110, 32, 98, 108, 97, 110, 107, 115, 32, 110, 117, 109, 98, 101, 114, 115, 32, 116, 101, 120, 116, 115, 32, 116, 114, 117, 116, 104, 115, 32, 102, 97, 117, 108, 116, 115, 32, 99, 121, 99, 108, 101, 115]⟩ : ByteArray))] = some (strs WS) := denI_of (k := 2) (by kernel_rfl)
theorem stats_text (s : S8) : D 29 [s.pv] = some (.sc (.string (textS s))) := by
  obtain ⟨n0, n1, n2, n3, n4, n5, n6, n7⟩ := s
  refine (f29_eq 0 n0 n1 n2 n3 n4 n5 n6 n7).trans ?_
  have ec := counts_ev ⟨n0, n1, n2, n3, n4, n5, n6, n7⟩
  simp only [S8.fold]
  refine cb ec rfl (cb fields_ev rfl ?_)
  show f29.l0a 0 8 WF 8 n0 n1 n2 n3 n4 n5 n6 n7 = _
  rw [st_0]
  unfold textS all8
  by_cases g0 : ¬ okS n0 = true
  · rw [if_neg g0, if_neg (by simp [g0])]
  have h0 : okS n0 = true := Classical.not_not.1 g0
  rw [if_pos h0]
  rw [st_1 _ (by simp)]
  by_cases g1 : ¬ okS n1 = true
  · rw [if_neg g1, if_neg (by simp [g1])]
  have h1 : okS n1 = true := Classical.not_not.1 g1
  rw [if_pos h1]
  rw [st_2 _ (by simp)]
  by_cases g2 : ¬ okS n2 = true
  · rw [if_neg g2, if_neg (by simp [g2])]
  have h2 : okS n2 = true := Classical.not_not.1 g2
  rw [if_pos h2]
  rw [st_3 _ (by simp)]
  by_cases g3 : ¬ okS n3 = true
  · rw [if_neg g3, if_neg (by simp [g3])]
  have h3 : okS n3 = true := Classical.not_not.1 g3
  rw [if_pos h3]
  rw [st_4 _ (by simp)]
  by_cases g4 : ¬ okS n4 = true
  · rw [if_neg g4, if_neg (by simp [g4])]
  have h4 : okS n4 = true := Classical.not_not.1 g4
  rw [if_pos h4]
  rw [st_5 _ (by simp)]
  by_cases g5 : ¬ okS n5 = true
  · rw [if_neg g5, if_neg (by simp [g5])]
  have h5 : okS n5 = true := Classical.not_not.1 g5
  rw [if_pos h5]
  rw [st_6 _ (by simp)]
  by_cases g6 : ¬ okS n6 = true
  · rw [if_neg g6, if_neg (by simp [g6])]
  have h6 : okS n6 = true := Classical.not_not.1 g6
  rw [if_pos h6]
  rw [st_7 _ (by simp)]
  by_cases g7 : ¬ okS n7 = true
  · rw [if_neg g7, if_neg (by simp [g7])]
  have h7 : okS n7 = true := Classical.not_not.1 g7
  rw [if_pos h7]
  have h : all8 n0 n1 n2 n3 n4 n5 n6 n7 = true := by unfold all8; simp [h0, h1, h2, h3, h4, h5, h6, h7]
  have := last_ev n0 n1 n2 n3 n4 n5 n6 n7 h
  rw [if_pos (by simp [h0, h1, h2, h3, h4, h5, h6, h7])]
  exact this
def NP (n0 n1 n2 n3 n4 n5 n6 n7 : Int) : List PV := [.sc (.int .i64 n0), .sc (.int .i64 n1), .sc (.int .i64 n2), .sc (.int .i64 n3), .sc (.int .i64 n4), .sc (.int .i64 n5), .sc (.int .i64 n6), .sc (.int .i64 n7)]
def NM : List PV := WS.map fun s => PV.sc (.string s)
theorem rt_0 (l : List UInt8) (hl : l.length ≤ 100000) (n0 n1 n2 n3 n4 n5 n6 n7 : Int) : f30.l0a 0 8 (fun i => (NP n0 n1 n2 n3 n4 n5 n6 n7).getD i .top) (B l) 0 NM = if okS n0 = true then f30.l0a 0 8 (fun i => (NP n0 n1 n2 n3 n4 n5 n6 n7).getD i .top) (B (((l ++ q0) ++ [32]) ++ dS n0)) 1 NM else some (.sc (.string (⟨#[]⟩ : ByteArray))) := by
  rw [f30.l0a_eq]
  have c1 : (0 : Int) ≤ 0 := by decide
  have c2 : (0 : Int) < ((8 : Nat) : Int) := by decide
  have c3 : hasSh (.int .i64) ((NP n0 n1 n2 n3 n4 n5 n6 n7).getD (0 : Int).toNat .top) = true := rfl
  have c4 : ((NP n0 n1 n2 n3 n4 n5 n6 n7).getD (0 : Int).toNat .top).toInt = n0 := rfl
  refine ip (by decide) (ip c1 (ip c2 (ip c3 ?_)))
  simp only [if_pos c1, if_pos c2, if_pos c3, bs, tb, bO, c4]
  by_cases h : okS n0 = true
  · rw [if_pos h]
    have hd := dS_len h
    refine im (okS_good h) ?_
    refine im (by decide) ?_
    rw [f30.j1a_eq]
    have c5 : (NM.getD (0 : Int).toNat .top).toStr = B q0 := rfl
    have c6 : (0 : Int) < ((NM.length : Nat) : Int) := by decide
    refine ip c1 (ip c6 (ip rfl ?_))
    simp only [c5, show (⟨#[32]⟩ : ByteArray) = B [32] from rfl, B_append, B_size]
    have ql := q0_len
    refine ip (by first | omega | (simp; omega)) (ip (by first | omega | (simp; omega)) (ip c1 (ip c2 (ip c3 ?_))))
    simp only [c4]
    refine cb (digits_okS h) rfl ?_
    refine ip (by simp only [ts, B_size]; first | omega | (simp; omega)) ?_
    simp only [ts, B_append]
    rfl
  · rw [if_neg h]
    exact ip (okS_bad h) rfl
theorem rt_1 (l : List UInt8) (hl : l.length ≤ 100000) (n0 n1 n2 n3 n4 n5 n6 n7 : Int) : f30.l0a 0 8 (fun i => (NP n0 n1 n2 n3 n4 n5 n6 n7).getD i .top) (B l) 1 NM = if okS n1 = true then f30.l0a 0 8 (fun i => (NP n0 n1 n2 n3 n4 n5 n6 n7).getD i .top) (B (((l ++ [32] ++ q1) ++ [32]) ++ dS n1)) 2 NM else some (.sc (.string (⟨#[]⟩ : ByteArray))) := by
  rw [f30.l0a_eq]
  have c1 : (0 : Int) ≤ 1 := by decide
  have c2 : (1 : Int) < ((8 : Nat) : Int) := by decide
  have c3 : hasSh (.int .i64) ((NP n0 n1 n2 n3 n4 n5 n6 n7).getD (1 : Int).toNat .top) = true := rfl
  have c4 : ((NP n0 n1 n2 n3 n4 n5 n6 n7).getD (1 : Int).toNat .top).toInt = n1 := rfl
  refine ip (by decide) (ip c1 (ip c2 (ip c3 ?_)))
  simp only [if_pos c1, if_pos c2, if_pos c3, bs, tb, bO, c4]
  by_cases h : okS n1 = true
  · rw [if_pos h]
    have hd := dS_len h
    refine im (okS_good h) ?_
    refine ip (by decide) (ip (by rw [B_size]; omega) ?_)
    rw [show (⟨#[32]⟩ : ByteArray) = B [32] from rfl, B_append]
    rw [f30.j1a_eq]
    have c5 : (NM.getD (1 : Int).toNat .top).toStr = B q1 := rfl
    have c6 : (1 : Int) < ((NM.length : Nat) : Int) := by decide
    refine ip c1 (ip c6 (ip rfl ?_))
    simp only [c5, show (⟨#[32]⟩ : ByteArray) = B [32] from rfl, B_append, B_size]
    have ql := q1_len
    refine ip (by first | omega | (simp; omega)) (ip (by first | omega | (simp; omega)) (ip c1 (ip c2 (ip c3 ?_))))
    simp only [c4]
    refine cb (digits_okS h) rfl ?_
    refine ip (by simp only [ts, B_size]; first | omega | (simp; omega)) ?_
    simp only [ts, B_append]
    rfl
  · rw [if_neg h]
    exact ip (okS_bad h) rfl
theorem rt_2 (l : List UInt8) (hl : l.length ≤ 100000) (n0 n1 n2 n3 n4 n5 n6 n7 : Int) : f30.l0a 0 8 (fun i => (NP n0 n1 n2 n3 n4 n5 n6 n7).getD i .top) (B l) 2 NM = if okS n2 = true then f30.l0a 0 8 (fun i => (NP n0 n1 n2 n3 n4 n5 n6 n7).getD i .top) (B (((l ++ [32] ++ q2) ++ [32]) ++ dS n2)) 3 NM else some (.sc (.string (⟨#[]⟩ : ByteArray))) := by
  rw [f30.l0a_eq]
  have c1 : (0 : Int) ≤ 2 := by decide
  have c2 : (2 : Int) < ((8 : Nat) : Int) := by decide
  have c3 : hasSh (.int .i64) ((NP n0 n1 n2 n3 n4 n5 n6 n7).getD (2 : Int).toNat .top) = true := rfl
  have c4 : ((NP n0 n1 n2 n3 n4 n5 n6 n7).getD (2 : Int).toNat .top).toInt = n2 := rfl
  refine ip (by decide) (ip c1 (ip c2 (ip c3 ?_)))
  simp only [if_pos c1, if_pos c2, if_pos c3, bs, tb, bO, c4]
  by_cases h : okS n2 = true
  · rw [if_pos h]
    have hd := dS_len h
    refine im (okS_good h) ?_
    refine ip (by decide) (ip (by rw [B_size]; omega) ?_)
    rw [show (⟨#[32]⟩ : ByteArray) = B [32] from rfl, B_append]
    rw [f30.j1a_eq]
    have c5 : (NM.getD (2 : Int).toNat .top).toStr = B q2 := rfl
    have c6 : (2 : Int) < ((NM.length : Nat) : Int) := by decide
    refine ip c1 (ip c6 (ip rfl ?_))
    simp only [c5, show (⟨#[32]⟩ : ByteArray) = B [32] from rfl, B_append, B_size]
    have ql := q2_len
    refine ip (by first | omega | (simp; omega)) (ip (by first | omega | (simp; omega)) (ip c1 (ip c2 (ip c3 ?_))))
    simp only [c4]
    refine cb (digits_okS h) rfl ?_
    refine ip (by simp only [ts, B_size]; first | omega | (simp; omega)) ?_
    simp only [ts, B_append]
    rfl
  · rw [if_neg h]
    exact ip (okS_bad h) rfl
theorem rt_3 (l : List UInt8) (hl : l.length ≤ 100000) (n0 n1 n2 n3 n4 n5 n6 n7 : Int) : f30.l0a 0 8 (fun i => (NP n0 n1 n2 n3 n4 n5 n6 n7).getD i .top) (B l) 3 NM = if okS n3 = true then f30.l0a 0 8 (fun i => (NP n0 n1 n2 n3 n4 n5 n6 n7).getD i .top) (B (((l ++ [32] ++ q3) ++ [32]) ++ dS n3)) 4 NM else some (.sc (.string (⟨#[]⟩ : ByteArray))) := by
  rw [f30.l0a_eq]
  have c1 : (0 : Int) ≤ 3 := by decide
  have c2 : (3 : Int) < ((8 : Nat) : Int) := by decide
  have c3 : hasSh (.int .i64) ((NP n0 n1 n2 n3 n4 n5 n6 n7).getD (3 : Int).toNat .top) = true := rfl
  have c4 : ((NP n0 n1 n2 n3 n4 n5 n6 n7).getD (3 : Int).toNat .top).toInt = n3 := rfl
  refine ip (by decide) (ip c1 (ip c2 (ip c3 ?_)))
  simp only [if_pos c1, if_pos c2, if_pos c3, bs, tb, bO, c4]
  by_cases h : okS n3 = true
  · rw [if_pos h]
    have hd := dS_len h
    refine im (okS_good h) ?_
    refine ip (by decide) (ip (by rw [B_size]; omega) ?_)
    rw [show (⟨#[32]⟩ : ByteArray) = B [32] from rfl, B_append]
    rw [f30.j1a_eq]
    have c5 : (NM.getD (3 : Int).toNat .top).toStr = B q3 := rfl
    have c6 : (3 : Int) < ((NM.length : Nat) : Int) := by decide
    refine ip c1 (ip c6 (ip rfl ?_))
    simp only [c5, show (⟨#[32]⟩ : ByteArray) = B [32] from rfl, B_append, B_size]
    have ql := q3_len
    refine ip (by first | omega | (simp; omega)) (ip (by first | omega | (simp; omega)) (ip c1 (ip c2 (ip c3 ?_))))
    simp only [c4]
    refine cb (digits_okS h) rfl ?_
    refine ip (by simp only [ts, B_size]; first | omega | (simp; omega)) ?_
    simp only [ts, B_append]
    rfl
  · rw [if_neg h]
    exact ip (okS_bad h) rfl
theorem rt_4 (l : List UInt8) (hl : l.length ≤ 100000) (n0 n1 n2 n3 n4 n5 n6 n7 : Int) : f30.l0a 0 8 (fun i => (NP n0 n1 n2 n3 n4 n5 n6 n7).getD i .top) (B l) 4 NM = if okS n4 = true then f30.l0a 0 8 (fun i => (NP n0 n1 n2 n3 n4 n5 n6 n7).getD i .top) (B (((l ++ [32] ++ q4) ++ [32]) ++ dS n4)) 5 NM else some (.sc (.string (⟨#[]⟩ : ByteArray))) := by
  rw [f30.l0a_eq]
  have c1 : (0 : Int) ≤ 4 := by decide
  have c2 : (4 : Int) < ((8 : Nat) : Int) := by decide
  have c3 : hasSh (.int .i64) ((NP n0 n1 n2 n3 n4 n5 n6 n7).getD (4 : Int).toNat .top) = true := rfl
  have c4 : ((NP n0 n1 n2 n3 n4 n5 n6 n7).getD (4 : Int).toNat .top).toInt = n4 := rfl
  refine ip (by decide) (ip c1 (ip c2 (ip c3 ?_)))
  simp only [if_pos c1, if_pos c2, if_pos c3, bs, tb, bO, c4]
  by_cases h : okS n4 = true
  · rw [if_pos h]
    have hd := dS_len h
    refine im (okS_good h) ?_
    refine ip (by decide) (ip (by rw [B_size]; omega) ?_)
    rw [show (⟨#[32]⟩ : ByteArray) = B [32] from rfl, B_append]
    rw [f30.j1a_eq]
    have c5 : (NM.getD (4 : Int).toNat .top).toStr = B q4 := rfl
    have c6 : (4 : Int) < ((NM.length : Nat) : Int) := by decide
    refine ip c1 (ip c6 (ip rfl ?_))
    simp only [c5, show (⟨#[32]⟩ : ByteArray) = B [32] from rfl, B_append, B_size]
    have ql := q4_len
    refine ip (by first | omega | (simp; omega)) (ip (by first | omega | (simp; omega)) (ip c1 (ip c2 (ip c3 ?_))))
    simp only [c4]
    refine cb (digits_okS h) rfl ?_
    refine ip (by simp only [ts, B_size]; first | omega | (simp; omega)) ?_
    simp only [ts, B_append]
    rfl
  · rw [if_neg h]
    exact ip (okS_bad h) rfl
theorem rt_5 (l : List UInt8) (hl : l.length ≤ 100000) (n0 n1 n2 n3 n4 n5 n6 n7 : Int) : f30.l0a 0 8 (fun i => (NP n0 n1 n2 n3 n4 n5 n6 n7).getD i .top) (B l) 5 NM = if okS n5 = true then f30.l0a 0 8 (fun i => (NP n0 n1 n2 n3 n4 n5 n6 n7).getD i .top) (B (((l ++ [32] ++ q5) ++ [32]) ++ dS n5)) 6 NM else some (.sc (.string (⟨#[]⟩ : ByteArray))) := by
  rw [f30.l0a_eq]
  have c1 : (0 : Int) ≤ 5 := by decide
  have c2 : (5 : Int) < ((8 : Nat) : Int) := by decide
  have c3 : hasSh (.int .i64) ((NP n0 n1 n2 n3 n4 n5 n6 n7).getD (5 : Int).toNat .top) = true := rfl
  have c4 : ((NP n0 n1 n2 n3 n4 n5 n6 n7).getD (5 : Int).toNat .top).toInt = n5 := rfl
  refine ip (by decide) (ip c1 (ip c2 (ip c3 ?_)))
  simp only [if_pos c1, if_pos c2, if_pos c3, bs, tb, bO, c4]
  by_cases h : okS n5 = true
  · rw [if_pos h]
    have hd := dS_len h
    refine im (okS_good h) ?_
    refine ip (by decide) (ip (by rw [B_size]; omega) ?_)
    rw [show (⟨#[32]⟩ : ByteArray) = B [32] from rfl, B_append]
    rw [f30.j1a_eq]
    have c5 : (NM.getD (5 : Int).toNat .top).toStr = B q5 := rfl
    have c6 : (5 : Int) < ((NM.length : Nat) : Int) := by decide
    refine ip c1 (ip c6 (ip rfl ?_))
    simp only [c5, show (⟨#[32]⟩ : ByteArray) = B [32] from rfl, B_append, B_size]
    have ql := q5_len
    refine ip (by first | omega | (simp; omega)) (ip (by first | omega | (simp; omega)) (ip c1 (ip c2 (ip c3 ?_))))
    simp only [c4]
    refine cb (digits_okS h) rfl ?_
    refine ip (by simp only [ts, B_size]; first | omega | (simp; omega)) ?_
    simp only [ts, B_append]
    rfl
  · rw [if_neg h]
    exact ip (okS_bad h) rfl
theorem rt_6 (l : List UInt8) (hl : l.length ≤ 100000) (n0 n1 n2 n3 n4 n5 n6 n7 : Int) : f30.l0a 0 8 (fun i => (NP n0 n1 n2 n3 n4 n5 n6 n7).getD i .top) (B l) 6 NM = if okS n6 = true then f30.l0a 0 8 (fun i => (NP n0 n1 n2 n3 n4 n5 n6 n7).getD i .top) (B (((l ++ [32] ++ q6) ++ [32]) ++ dS n6)) 7 NM else some (.sc (.string (⟨#[]⟩ : ByteArray))) := by
  rw [f30.l0a_eq]
  have c1 : (0 : Int) ≤ 6 := by decide
  have c2 : (6 : Int) < ((8 : Nat) : Int) := by decide
  have c3 : hasSh (.int .i64) ((NP n0 n1 n2 n3 n4 n5 n6 n7).getD (6 : Int).toNat .top) = true := rfl
  have c4 : ((NP n0 n1 n2 n3 n4 n5 n6 n7).getD (6 : Int).toNat .top).toInt = n6 := rfl
  refine ip (by decide) (ip c1 (ip c2 (ip c3 ?_)))
  simp only [if_pos c1, if_pos c2, if_pos c3, bs, tb, bO, c4]
  by_cases h : okS n6 = true
  · rw [if_pos h]
    have hd := dS_len h
    refine im (okS_good h) ?_
    refine ip (by decide) (ip (by rw [B_size]; omega) ?_)
    rw [show (⟨#[32]⟩ : ByteArray) = B [32] from rfl, B_append]
    rw [f30.j1a_eq]
    have c5 : (NM.getD (6 : Int).toNat .top).toStr = B q6 := rfl
    have c6 : (6 : Int) < ((NM.length : Nat) : Int) := by decide
    refine ip c1 (ip c6 (ip rfl ?_))
    simp only [c5, show (⟨#[32]⟩ : ByteArray) = B [32] from rfl, B_append, B_size]
    have ql := q6_len
    refine ip (by first | omega | (simp; omega)) (ip (by first | omega | (simp; omega)) (ip c1 (ip c2 (ip c3 ?_))))
    simp only [c4]
    refine cb (digits_okS h) rfl ?_
    refine ip (by simp only [ts, B_size]; first | omega | (simp; omega)) ?_
    simp only [ts, B_append]
    rfl
  · rw [if_neg h]
    exact ip (okS_bad h) rfl
theorem rt_7 (l : List UInt8) (hl : l.length ≤ 100000) (n0 n1 n2 n3 n4 n5 n6 n7 : Int) : f30.l0a 0 8 (fun i => (NP n0 n1 n2 n3 n4 n5 n6 n7).getD i .top) (B l) 7 NM = if okS n7 = true then f30.l0a 0 8 (fun i => (NP n0 n1 n2 n3 n4 n5 n6 n7).getD i .top) (B (((l ++ [32] ++ q7) ++ [32]) ++ dS n7)) 8 NM else some (.sc (.string (⟨#[]⟩ : ByteArray))) := by
  rw [f30.l0a_eq]
  have c1 : (0 : Int) ≤ 7 := by decide
  have c2 : (7 : Int) < ((8 : Nat) : Int) := by decide
  have c3 : hasSh (.int .i64) ((NP n0 n1 n2 n3 n4 n5 n6 n7).getD (7 : Int).toNat .top) = true := rfl
  have c4 : ((NP n0 n1 n2 n3 n4 n5 n6 n7).getD (7 : Int).toNat .top).toInt = n7 := rfl
  refine ip (by decide) (ip c1 (ip c2 (ip c3 ?_)))
  simp only [if_pos c1, if_pos c2, if_pos c3, bs, tb, bO, c4]
  by_cases h : okS n7 = true
  · rw [if_pos h]
    have hd := dS_len h
    refine im (okS_good h) ?_
    refine ip (by decide) (ip (by rw [B_size]; omega) ?_)
    rw [show (⟨#[32]⟩ : ByteArray) = B [32] from rfl, B_append]
    rw [f30.j1a_eq]
    have c5 : (NM.getD (7 : Int).toNat .top).toStr = B q7 := rfl
    have c6 : (7 : Int) < ((NM.length : Nat) : Int) := by decide
    refine ip c1 (ip c6 (ip rfl ?_))
    simp only [c5, show (⟨#[32]⟩ : ByteArray) = B [32] from rfl, B_append, B_size]
    have ql := q7_len
    refine ip (by first | omega | (simp; omega)) (ip (by first | omega | (simp; omega)) (ip c1 (ip c2 (ip c3 ?_))))
    simp only [c4]
    refine cb (digits_okS h) rfl ?_
    refine ip (by simp only [ts, B_size]; first | omega | (simp; omega)) ?_
    simp only [ts, B_append]
    rfl
  · rw [if_neg h]
    exact ip (okS_bad h) rfl
theorem ref_text (s : S8) : D 30 [frozen 1 (NP s.a s.b s.c s.d s.e s.f s.g s.h)] = some (.sc (.string (textS s))) := by
  obtain ⟨n0, n1, n2, n3, n4, n5, n6, n7⟩ := s
  refine (f30_eq 0 8 (fun i => (NP n0 n1 n2 n3 n4 n5 n6 n7).getD i .top)).trans ?_
  show f30.l0a 0 8 (fun i => (NP n0 n1 n2 n3 n4 n5 n6 n7).getD i .top) (B []) 0 NM = _
  rw [rt_0 _ (by simp)]
  unfold textS all8
  dsimp only
  by_cases g0 : ¬ okS n0 = true
  · rw [if_neg g0, if_neg (by simp [g0])]
  have h0 : okS n0 = true := Classical.not_not.1 g0
  rw [if_pos h0]
  have l0 := dS_len h0
  have k0 := q0_len
  rw [rt_1 _ (by simp; omega)]
  by_cases g1 : ¬ okS n1 = true
  · rw [if_neg g1, if_neg (by simp [g1])]
  have h1 : okS n1 = true := Classical.not_not.1 g1
  rw [if_pos h1]
  have l1 := dS_len h1
  have k1 := q1_len
  rw [rt_2 _ (by simp; omega)]
  by_cases g2 : ¬ okS n2 = true
  · rw [if_neg g2, if_neg (by simp [g2])]
  have h2 : okS n2 = true := Classical.not_not.1 g2
  rw [if_pos h2]
  have l2 := dS_len h2
  have k2 := q2_len
  rw [rt_3 _ (by simp; omega)]
  by_cases g3 : ¬ okS n3 = true
  · rw [if_neg g3, if_neg (by simp [g3])]
  have h3 : okS n3 = true := Classical.not_not.1 g3
  rw [if_pos h3]
  have l3 := dS_len h3
  have k3 := q3_len
  rw [rt_4 _ (by simp; omega)]
  by_cases g4 : ¬ okS n4 = true
  · rw [if_neg g4, if_neg (by simp [g4])]
  have h4 : okS n4 = true := Classical.not_not.1 g4
  rw [if_pos h4]
  have l4 := dS_len h4
  have k4 := q4_len
  rw [rt_5 _ (by simp; omega)]
  by_cases g5 : ¬ okS n5 = true
  · rw [if_neg g5, if_neg (by simp [g5])]
  have h5 : okS n5 = true := Classical.not_not.1 g5
  rw [if_pos h5]
  have l5 := dS_len h5
  have k5 := q5_len
  rw [rt_6 _ (by simp; omega)]
  by_cases g6 : ¬ okS n6 = true
  · rw [if_neg g6, if_neg (by simp [g6])]
  have h6 : okS n6 = true := Classical.not_not.1 g6
  rw [if_pos h6]
  have l6 := dS_len h6
  have k6 := q6_len
  rw [rt_7 _ (by simp; omega)]
  by_cases g7 : ¬ okS n7 = true
  · rw [if_neg g7, if_neg (by simp [g7])]
  have h7 : okS n7 = true := Classical.not_not.1 g7
  rw [if_pos h7]
  have l7 := dS_len h7
  have k7 := q7_len
  rw [f30.l0a_eq]
  refine im (by decide) ?_
  rw [if_pos (by simp [h0, h1, h2, h3, h4, h5, h6, h7])]
  congr 3
theorem list_ev (s : S8) : D 27 [s.pv] = some (frozen 1 (NP s.a s.b s.c s.d s.e s.f s.g s.h)) := f27_eq 0 s.a s.b s.c s.d s.e s.f s.g s.h
theorem kind_ev (r : Rw) : D 133 [r.pv] = some (.sc (.int .i64 (kindR r))) := by
  obtain ⟨a, b, c, d, e, f, g⟩ := r
  refine (f133_eq 0 a b c d e f g).trans ?_
  simp only [bA, bs, tb]
  unfold kindR
  dsimp only
  cases d
  · simp only [Bool.false_eq_true, if_false]
    by_cases k4 : e = 4
    · subst k4
      by_cases k7 : f = 7
      · subst k7; rfl
      · simp [k7]; rfl
    · have e4 : (e == 4) = false := by simpa using k4
      simp only [e4, Bool.false_and, Bool.false_eq_true, if_false, k4]
      by_cases k0 : e = 0
      · subst k0; rfl
      by_cases k1 : e = 1
      · subst k1; rfl
      by_cases k2 : e = 2
      · subst k2; rfl
      by_cases k3 : e = 3
      · subst k3; rfl
      refine (im ?_ rfl).trans (by simp [k0, k1, k2, k3])
      simp only [Bool.and_eq_true, decide_eq_true_eq]; omega
  · rfl
theorem many_l (l : List Rw) (hl : l.length ≤ 1000000) (k : Nat) : ∀ (m i : Nat) (n : Nat), i + m = l.length → n ≤ i → f77.l0a 0 (rpv l).length (fun i => (rpv l).getD i .top) (k : Int) (n : Int) (i : Int) = some (.sc (.int .i64 ((n + cnt (l.drop i) k : Nat) : Int))) := by
  intro m
  induction m with
  | zero =>
    intro i n he hn
    have hi : i = l.length := by omega
    subst hi
    rw [f77.l0a_eq, List.drop_length]
    exact im (by rw [decide_eq_true_eq, rpv_len]; omega) rfl
  | succ m ih =>
    intro i n he hn
    have hi : i < l.length := by omega
    have hd : l.drop i = l[i] :: l.drop (i + 1) := (List.getElem_cons_drop hi).symm
    rw [f77.l0a_eq]
    refine ip (by rw [decide_eq_true_eq, rpv_len]; omega) (ip (by omega) (ip (by rw [rpv_len]; omega) ?_))
    simp only [Int.toNat_natCast, rpv_get hi, Rw.sh, Rw.c0, Rw.c1, Rw.c2, Rw.c3, Rw.c4, Rw.c5, Rw.c6, Rw.fold, Rw.rb, if_true]
    refine cb (kind_ev _) rfl ?_
    rw [hd, cnt_cons, next_i i (by omega), next_i n (by omega)]
    simp only [ti]
    by_cases h : kindR l[i] = k
    · refine ip (by rw [h]; simp) ?_
      rw [if_pos h, ih (i + 1) (n + 1) (by omega) (by omega), show n + 1 + cnt (l.drop (i + 1)) k = n + (cnt (l.drop (i + 1)) k + 1) by omega]
    · refine im (by rw [beq_iff_eq]; omega) ?_
      rw [if_neg h, ih (i + 1) n (by omega) (by omega)]
      rfl
theorem many_ev (l : List Rw) (hl : l.length ≤ 1000000) (k : Nat) : D 77 [.lst 7 (rpv l).length (fun i => (rpv l).getD i .top), .sc (.int .i64 (k : Int))] = some (.sc (.int .i64 (cnt l k : Int))) := by
  rw [f77_eq 0]
  have := many_l l hl k l.length 0 0 (by omega) (Nat.le_refl _)
  rw [List.drop_zero, Nat.zero_add] at this
  exact this
theorem counts_of (l : List Rw) (hl : l.length ≤ 1000000) : D 28 [frozen 7 (rpv l)] = some (frozen 1 (NP (ofR l).a (ofR l).b (ofR l).c (ofR l).d (ofR l).e (ofR l).f (ofR l).g (ofR l).h)) := by
  refine (f28_eq 0 (rpv l).length (fun i => (rpv l).getD i .top)).trans ?_
  have st : ∀ (k : Nat) (out : List PV), k < 8 → out.length ≤ 100 → f28.l0a 0 (rpv l).length (fun i => (rpv l).getD i .top) (k : Int) out = f28.l0a 0 (rpv l).length (fun i => (rpv l).getD i .top) ((k + 1 : Nat) : Int) (out ++ [.sc (.int .i64 (cnt l k : Int))]) := by
    intro k out hk ho
    refine (f28.l0a_eq 0 _ _ _ _).trans ?_
    refine ip (by rw [decide_eq_true_eq]; omega) (cb (many_ev l hl k) rfl (ip (by simp; omega) ?_))
    rw [next_i k (by omega)]
    rfl
  have s1 := st 1 [.sc (.int .i64 (l.length : Int))] (by decide) (by simp)
  have e1 : ((rpv l).length : Int) = (l.length : Int) := by rw [rpv_len]
  rw [e1]
  refine s1.trans ?_
  rw [st 2 _ (by decide) (by simp), st 3 _ (by decide) (by simp), st 4 _ (by decide) (by simp), st 5 _ (by decide) (by simp), st 6 _ (by decide) (by simp), st 7 _ (by decide) (by simp), f28.l0a_eq]
  exact im (by decide) rfl
theorem same_l (l : List Int) (hl : l.length ≤ 1000000) : ∀ (m i : Nat), i + m = l.length → f26.l0a 0 (l.map fun n => PV.sc (.int .i64 n)).length (fun i => (l.map fun n => PV.sc (.int .i64 n)).getD i .top) (l.map fun n => PV.sc (.int .i64 n)).length (fun i => (l.map fun n => PV.sc (.int .i64 n)).getD i .top) ((l.map fun n => PV.sc (.int .i64 n)).length : Int) (i : Int) = some (.sc (.bool true)) := by
  intro m
  induction m with
  | zero =>
    intro i he
    rw [f26.l0a_eq]
    exact im (by rw [decide_eq_true_eq, List.length_map]; omega) rfl
  | succ m ih =>
    intro i he
    have hi : i < l.length := by omega
    rw [f26.l0a_eq]
    have c1 : (0 : Int) ≤ (i : Int) := by omega
    have c2 : (i : Int) < ((l.map fun n => PV.sc (.int .i64 n)).length : Int) := by rw [List.length_map]; omega
    have c3 : (l.map fun n => PV.sc (.int .i64 n)).getD i .top = .sc (.int .i64 l[i]) := by simp [hi]
    refine ip (by rw [decide_eq_true_eq]; exact c2) (ip c1 (ip c2 ?_))
    simp only [Int.toNat_natCast, c3]
    refine ip rfl (ip c1 (ip c2 (ip rfl (im (by simp) ?_))))
    rw [next_i i (by omega)]
    exact ih (i + 1) (by omega)
theorem same_ev (l : List Int) (hl : l.length ≤ 1000000) : D 26 [frozen 1 (l.map fun n => PV.sc (.int .i64 n)), frozen 1 (l.map fun n => PV.sc (.int .i64 n))] = some (.sc (.bool true)) := by
  refine (f26_eq 0 _ _ _ _).trans ?_
  refine im (by simp) ?_
  exact same_l l hl l.length 0 (by omega)
theorem count_D (l : List Rw) (s : S8) : D 6 [frozen 7 (rpv l), s.pv] = some (.sc (.bool true)) := by
  have et := stats_text s
  have er := ref_text s
  have el := list_ev s
  obtain ⟨n0, n1, n2, n3, n4, n5, n6, n7⟩ := s
  refine (f6_eq 0 (rpv l).length (fun i => (rpv l).getD i .top) n0 n1 n2 n3 n4 n5 n6 n7).trans ?_
  by_cases hc : l.length ≤ 300
  · refine im (by rw [decide_eq_true_eq, rpv_len]; omega) ?_
    have hl : l.length ≤ 1000000 := by omega
    refine cb (of_ev l hl) rfl ?_
    simp only [S8.c0, S8.c1, S8.c2, S8.c3, S8.c4, S8.c5, S8.c6, S8.c7, S8.fold, S8.rb]
    refine cb (list_ev _) rfl (cb (counts_of l hl) rfl ?_)
    have hs := same_ev [(ofR l).a, (ofR l).b, (ofR l).c, (ofR l).d, (ofR l).e, (ofR l).f, (ofR l).g, (ofR l).h] (by simp)
    refine cb hs rfl (ip rfl (cb (stats_text _) rfl (cb (counts_of l hl) rfl (cb (ref_text (ofR l)) rfl (ip (by simp) ?_)))))
    simp only [S8.fold] at et el ⊢
    exact cb et rfl (cb el rfl (cb er rfl (ip (by simp) (cb alive_ev rfl rfl))))
  · exact ip (by rw [decide_eq_true_eq, rpv_len]; omega) (cb alive_ev rfl rfl)
theorem statsCount_law (W : World) (vs : List Value) (xs : List PV) (h : Handed Tryd.prog W [37, 39] vs xs) : D 6 xs = some (.sc (.bool true)) := by
  obtain ⟨a, _, _, rfl, ha, h⟩ := handed_cons h
  obtain ⟨b, _, _, rfl, hb, h⟩ := handed_cons h
  obtain rfl := handed_nil h
  obtain ⟨a, rfl, _, la, ha⟩ := of37 ha
  obtain ⟨a, rfl⟩ := rows_of ha
  obtain ⟨n0, n1, n2, n3, n4, n5, n6, n7, rfl, _⟩ := of39 hb
  rw [on37, ag39]
  exact count_D a ⟨n0, n1, n2, n3, n4, n5, n6, n7⟩
end Go.Den.ES
