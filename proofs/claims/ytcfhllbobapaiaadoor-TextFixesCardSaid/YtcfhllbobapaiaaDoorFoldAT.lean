/- Lists of values: faults, numbers, texts. -/
import Derived.Test.YtcfhllbobapaiaaDoorValTT
set_option linter.unusedVariables false
set_option linter.unusedSimpArgs false
set_option maxRecDepth 100000
namespace Go.Den.ET
open Go Go.Proofs
def vp (l : List Vl) : List PV := l.map Vl.pv
theorem vp_len (l : List Vl) : (vp l).length = l.length := by simp [vp]
theorem vp_get {l : List Vl} {i : Nat} (h : i < l.length) : (vp l).getD i .top = l[i].pv := by simp [vp, h]
theorem vp_sh {l : List Vl} {i : Nat} (h : i < l.length) : hasSh (.agg [(.int .i64), (.int .i64), .str]) ((vp l).getD i .top) = true := by rw [vp_get h]; rfl
def ip_ (l : List Int) : List PV := l.map fun n => .sc (.int .i64 n)
theorem ip_len (l : List Int) : (ip_ l).length = l.length := by simp [ip_]
theorem ip_get {l : List Int} {i : Nat} (h : i < l.length) : (ip_ l).getD i .top = .sc (.int .i64 l[i]) := by simp [ip_, h]
theorem ip_sh {l : List Int} {i : Nat} (h : i < l.length) : hasSh (.int .i64) ((ip_ l).getD i .top) = true := by rw [ip_get h]; rfl
def sp (l : List ByteArray) : List PV := l.map fun n => .sc (.string n)
theorem sp_len (l : List ByteArray) : (sp l).length = l.length := by simp [sp]
theorem sp_get {l : List ByteArray} {i : Nat} (h : i < l.length) : (sp l).getD i .top = .sc (.string l[i]) := by simp [sp, h]
theorem sp_sh {l : List ByteArray} {i : Nat} (h : i < l.length) : hasSh .str ((sp l).getD i .top) = true := by rw [sp_get h]; rfl
theorem drop_at {α : Type} {l : List α} {i : Nat} (h : i < l.length) : l.drop i = l[i] :: l.drop (i + 1) := (List.getElem_cons_drop h).symm
/-- The first fault. -/
def faultO (l : List Vl) : Option Vl := l.find? fun v => v.kind == 4
def faultV (l : List Vl) : Vl := (faultO l).getD ⟨0, 0, E⟩
theorem faultO_cons (v : Vl) (l : List Vl) : faultO (v :: l) = if v.kind = 4 then some v else faultO l := by
  unfold faultO
  rw [List.find?_cons]
  by_cases h : v.kind = 4
  · simp [h]
  · have : (v.kind == 4) = false := by simpa using h
    simp [this, h]
theorem faultO_kind {l : List Vl} {v : Vl} (h : faultO l = some v) : v.kind = 4 := by
  have := List.find?_some h
  simpa using this
theorem faultO_mem {l : List Vl} {v : Vl} (h : faultO l = some v) : v ∈ l := List.mem_of_find?_eq_some h
theorem faultO_none {l : List Vl} (h : faultO l = none) : ∀ v, v ∈ l → v.kind ≠ 4 := by
  intro v hv
  have := List.find?_eq_none.1 h v hv
  simpa using this
/-- Its place. -/
def faultI : List Vl → Int
  | [] => -1
  | v :: l => if v.kind = 4 then 0 else (if faultI l < 0 then -1 else faultI l + 1)
theorem faultI_ge : ∀ l : List Vl, -1 ≤ faultI l
  | [] => Int.le_refl _
  | v :: l => by
    have := faultI_ge l
    unfold faultI
    split
    · decide
    · split <;> omega
theorem faultI_spec : ∀ l : List Vl, (faultO l = none ∧ faultI l = -1) ∨ (∃ i : Nat, ∃ h : i < l.length, faultI l = i ∧ faultO l = some l[i])
  | [] => .inl ⟨rfl, rfl⟩
  | v :: l => by
    rw [faultO_cons]
    unfold faultI
    by_cases h : v.kind = 4
    · rw [if_pos h, if_pos h]
      exact .inr ⟨0, by simp, rfl, rfl⟩
    · rw [if_neg h, if_neg h]
      rcases faultI_spec l with ⟨h1, h2⟩ | ⟨i, hi, h1, h2⟩
      · rw [h2]
        exact .inl ⟨h1, rfl⟩
      · rw [h1, if_neg (by omega)]
        exact .inr ⟨i + 1, by simp; omega, by omega, by rw [h2]; rfl⟩
def rightL (l : List Vl) (n : Nat) : Bool := decide (l.length ≤ n) && l.all mayV
/-- Texts, one behind the other. -/
def catL : List ByteArray → ByteArray
  | [] => E
  | s :: l => s ++ catL l
def bld (xs : List PV) : List PV := [.iptr (.ptr 126 0 :: [.selfp 0, .buf 1 0]), .tup (.ptr 5 0 :: xs)]
theorem blen_ev (xs : List PV) : D 115 [.hp (bld xs), .ptr 0 0] = some (.tup [.hp (bld xs), .sc (.int .i64 (xs.length : Int))]) :=
  f115h_eq 0 xs
theorem bcheck_ev (xs : List PV) : D 157 [.hp (bld xs), .ptr 0 0] = some (.tup [.hp (bld xs), .tup []]) := by
  have e : D 157 [.hp (bld xs), .ptr 0 0] = xCopyCheck [.hp (bld xs), .ptr 0 0] := (denI_eq 0 _ _).trans (by kernel_rfl)
  rw [e]
  rfl
theorem bwrite_ev (xs : List PV) (s : ByteArray) (h : xs.length + s.size ≤ 1000000) : D 117 [.hp (bld xs), .ptr 0 0, .sc (.string s)] = some (.tup [.hp (bld (xs ++ strB s)), .tup [.sc (.int .i64 (s.size : Int)), .top]]) := by
  refine (f117h_eq 0 s xs).trans (hb (bcheck_ev xs) rfl rfl ?_)
  have e := strB_len s
  exact ip (by show (xs.length + (strB s).length) * 1 ≤ _ ∧ xs.length + (strB s).length ≤ _; omega) rfl
theorem byteOk_strB (s : ByteArray) : (strB s).all byteOk = true := by
  unfold strB
  rw [List.all_eq_true]
  intro x hx
  obtain ⟨b, _, rfl⟩ := List.mem_map.1 hx
  have := b.toNat_lt
  simp [byteOk]
  omega
theorem bytesOf_strB (s : ByteArray) : bytesOf (strB s) = s := by
  obtain ⟨l, rfl⟩ := B_of s
  have h : ∀ l : List UInt8, (l.map fun b => PV.sc (.int .u8 (b.toNat : Int))).map (fun x => UInt8.ofNat x.toInt.toNat) = l := by
    intro l
    induction l with
    | nil => rfl
    | cons b l ih =>
      rw [List.map_cons, List.map_cons, ih]
      congr 1
      show UInt8.ofNat ((b.toNat : Int)).toNat = b
      simp
  unfold bytesOf strB
  rw [B_data, h]
  rfl
theorem strB_append (s t : ByteArray) : strB s ++ strB t = strB (s ++ t) := by
  obtain ⟨l, rfl⟩ := B_of s
  obtain ⟨m, rfl⟩ := B_of t
  rw [B_append]
  simp [strB, B]
theorem bstring_ev (s : ByteArray) : D 118 [.hp (bld (strB s)), .ptr 0 0] = some (.tup [.hp [.top, .top], .sc (.string s)]) := by
  have e : D 118 [.hp (bld (strB s)), .ptr 0 0] = xBString [.hp (bld (strB s)), .ptr 0 0] := (denI_eq 0 _ _).trans (by kernel_rfl)
  rw [e]
  refine (if_pos ⟨rfl, rfl, byteOk_strB s⟩).trans ?_
  rw [bytesOf_strB]
theorem app_E (s : ByteArray) : s ++ E = s := by
  obtain ⟨l, rfl⟩ := B_of s
  rw [show E = B [] from rfl, B_append, List.append_nil]
theorem E_app (s : ByteArray) : E ++ s = s := by
  obtain ⟨l, rfl⟩ := B_of s
  rw [show E = B [] from rfl, B_append, List.nil_append]
theorem size_app (s t : ByteArray) : (s ++ t).size = s.size + t.size := by simp
/-- What is joined, if it has room. -/
def joinS (l : List ByteArray) : ByteArray × Bool := if (catL l).size ≤ 256 then (catL l, true) else (E, false)
def pvJ (g : ByteArray × Bool) : PV := .tup [.sc (.string g.1), .sc (.bool g.2)]
theorem join_b (l : List ByteArray) (hl : l.length ≤ 1000000) : ∀ (m i : Nat) (s : ByteArray), i + m = l.length → s.size ≤ 256 →
    f60.l0b 0 (sp l).length (fun i => (sp l).getD i .top) ((sp l).length : Int) (i : Int) (strB s) = some (pvJ (if (s ++ catL (l.drop i)).size ≤ 256 then (s ++ catL (l.drop i), true) else (E, false))) := by
  intro m
  induction m with
  | zero =>
    intro i s he hs
    rw [f60.l0b_eq, List.drop_eq_nil_of_le (by omega)]
    refine lpe (by rw [sp_len]; omega) ?_
    refine hb (bstring_ev s) rfl rfl ?_
    have e : s ++ catL [] = s := app_E s
    rw [e, if_pos hs]
    rfl
  | succ m ih =>
    intro i s he hs
    have hi : i < l.length := by omega
    rw [f60.l0b_eq]
    refine lpc (by rw [sp_len]; omega) (by rw [sp_len]; omega) (sp_sh hi) ?_
    simp only [Int.toNat_natCast, sp_get hi, ts]
    refine hb (blen_ev _) rfl rfl ?_
    rw [drop_at hi]
    have e1 : s ++ catL (l[i] :: l.drop (i + 1)) = (s ++ l[i]) ++ catL (l.drop (i + 1)) := by simp [catL, ByteArray.append_assoc]
    rw [e1]
    have e2 : IntKind.i64.wrap ((256 : Int) - ((strB s).length : Int)) = 256 - (s.size : Int) := by rw [strB_len, w64 (by omega) (by omega)]
    show (if decide (((l[i].size : Nat) : Int) > IntKind.i64.wrap ((256 : Int) - ((strB s).length : Int))) = true then _ else _) = _
    rw [e2]
    by_cases h : (s ++ l[i]).size ≤ 256
    · have h2 := h
      rw [size_app] at h2
      refine im (by rw [decide_eq_true_eq]; omega) ?_
      refine hb (bwrite_ev (strB s) l[i] (by rw [strB_len]; omega)) rfl rfl ?_
      rw [nx hi (by omega)]
      show f60.l0b 0 _ _ _ _ (strB s ++ strB l[i]) = _
      rw [strB_append]
      exact ih (i + 1) (s ++ l[i]) (by omega) h
    · have h2 := h
      rw [size_app] at h2
      refine ip (by rw [decide_eq_true_eq]; omega) ?_
      rw [if_neg (by rw [size_app]; omega)]
      rfl
theorem join_ev (l : List ByteArray) (hl : l.length ≤ 1000000) : D 60 [frozen 1 (sp l)] = some (pvJ (joinS l)) := by
  refine (f60_eq 0 (sp l).length _).trans ?_
  rw [f60.l0a_eq]
  unfold joinS
  by_cases h0 : 0 < l.length
  · refine lpc (i := 0) (by rw [sp_len]; omega) (by rw [sp_len]; omega) (sp_sh h0) ?_
    have e0 : (sp l).getD (0 : Int).toNat .top = .sc (.string l[0]) := sp_get h0
    simp only [e0, ts]
    refine hb (blen_ev _) rfl rfl ?_
    have ed : l = l[0] :: l.drop 1 := by have := drop_at h0; rwa [List.drop_zero] at this
    have e1 : catL l = l[0] ++ catL (l.drop 1) := by
      conv => lhs; rw [ed]
      rfl
    rw [e1]
    show (if decide (((l[0].size : Nat) : Int) > IntKind.i64.wrap ((256 : Int) - (([] : List PV).length : Int))) = true then _ else _) = _
    rw [show IntKind.i64.wrap ((256 : Int) - (([] : List PV).length : Int)) = 256 from rfl]
    by_cases h : l[0].size ≤ 256
    · refine im (by rw [decide_eq_true_eq]; omega) ?_
      refine hb (bwrite_ev [] l[0] (by simp; omega)) rfl rfl ?_
      rw [show IntKind.i64.wrap ((0 : Int) + 1) = ((1 : Nat) : Int) from rfl]
      exact join_b l hl (l.length - 1) 1 l[0] (by omega) h
    · refine ip (by rw [decide_eq_true_eq]; omega) ?_
      rw [if_neg (by rw [size_app]; omega)]
      rfl
  · have hl0 : l = [] := List.eq_nil_of_length_eq_zero (by omega)
    subst hl0
    refine lpe (i := 0) (by simp [sp]) ?_
    exact hb (bstring_ev E) rfl rfl rfl
def pvK (g : ByteArray × Bool) : PV := .agg [.sc (.string g.1), .sc (.bool g.2)]
theorem room_ev (s : ByteArray) : D 109 [.sc (.string s)] = some (pvK (if s.size ≤ 256 then (s, true) else (E, false))) := by
  refine (f109_eq 0 s).trans ?_
  by_cases h : s.size ≤ 256
  · rw [if_pos h]
    exact im (by rw [decide_eq_true_eq]; omega) rfl
  · rw [if_neg h]
    exact ip (by rw [decide_eq_true_eq]; omega) rfl
theorem rjoin_l (l : List ByteArray) (hl : l.length ≤ 1000000) (hs : ∀ s, s ∈ l → s.size ≤ 140737488355328) : ∀ (m i : Nat) (s : ByteArray), i + m = l.length → s.size ≤ 140737488355584 →
    f61.l0a 0 (sp l).length (fun i => (sp l).getD i .top) s (i : Int) E false = some (pvK (if (s ++ catL (l.drop i)).size ≤ 256 then (s ++ catL (l.drop i), true) else (E, false))) := by
  intro m
  induction m with
  | zero =>
    intro i s he _
    rw [f61.l0a_eq, List.drop_eq_nil_of_le (by omega)]
    simp only [bA, tb]
    refine im (by simp [sp_len]; omega) (cb (room_ev s) rfl ?_)
    have e : s ++ catL [] = s := app_E s
    rw [e]
    rfl
  | succ m ih =>
    intro i s he hsz
    have hi : i < l.length := by omega
    rw [f61.l0a_eq]
    simp only [bA, tb]
    rw [drop_at hi]
    have e1 : s ++ catL (l[i] :: l.drop (i + 1)) = (s ++ l[i]) ++ catL (l.drop (i + 1)) := by simp [catL, ByteArray.append_assoc]
    rw [e1]
    have hli := hs _ (List.getElem_mem hi)
    by_cases h : s.size ≤ 256
    · refine ip (by simp [sp_len]; omega) (lpr (by rw [sp_len]; omega) (sp_sh hi) ?_)
      simp only [Int.toNat_natCast, sp_get hi, ts]
      refine ip (by omega) ?_
      rw [nx hi (by omega)]
      exact ih (i + 1) (s ++ l[i]) (by omega) (by rw [size_app]; omega)
    · refine im (by simp; omega) (cb (room_ev s) rfl ?_)
      rw [if_neg h, if_neg (by rw [size_app, size_app]; omega)]
      rfl
theorem rjoin_ev (l : List ByteArray) (hl : l.length ≤ 1000000) (hs : ∀ s, s ∈ l → s.size ≤ 140737488355328) : D 61 [frozen 1 (sp l)] = some (pvK (joinS l)) := by
  refine (f61_eq 0 (sp l).length _).trans ((rjoin_l l hl hs l.length 0 E (by omega) (by decide)).trans ?_)
  have e : E ++ catL l = catL l := E_app _
  rw [List.drop_zero, e]
  rfl
end Go.Den.ET
