/- Rows counted. -/
import Derived.Test.YtcfhllbobapaiaaDoorESx0
import Derived.Test.YtcfhllbobapaiaaDoorESx1
import Derived.Test.YtcfhllbobapaiaaDoorESx2
import Derived.Test.YtcfhllbobapaiaaDoorDenV
import Derived.Test.YtcfhllbobapaiaaDoorTyS
set_option linter.unusedVariables false
set_option linter.unusedSimpArgs false
set_option maxRecDepth 100000
namespace Go.Den.ES
open Go Go.Proofs
structure Rw where
  row : Int
  col : Int
  text : ByteArray
  hidden : Bool
  kind : Int
  num : Int
  vtext : ByteArray
abbrev shR : Sh := .agg [(.int .i64), (.int .i64), .str, .bool, (.int .i64), (.int .i64), .str]
def Rw.pv (r : Rw) : PV := .agg [.sc (.int .i64 r.row), .sc (.int .i64 r.col), .sc (.string r.text), .sc (.bool r.hidden), .sc (.int .i64 r.kind), .sc (.int .i64 r.num), .sc (.string r.vtext)]
theorem Rw.fold (a b : Int) (c : ByteArray) (d : Bool) (e f : Int) (g : ByteArray) : PV.agg [.sc (.int .i64 a), .sc (.int .i64 b), .sc (.string c), .sc (.bool d), .sc (.int .i64 e), .sc (.int .i64 f), .sc (.string g)] = (Rw.mk a b c d e f g).pv := rfl
theorem Rw.sh (r : Rw) : hasSh shR r.pv = true := rfl
theorem Rw.c0 (r : Rw) : (cel 0 r.pv.cells).toInt = r.row := rfl
theorem Rw.c1 (r : Rw) : (cel 1 r.pv.cells).toInt = r.col := rfl
theorem Rw.c2 (r : Rw) : (cel 2 r.pv.cells).toStr = r.text := rfl
theorem Rw.c3 (r : Rw) : (cel 3 r.pv.cells).toBool = r.hidden := rfl
theorem Rw.c4 (r : Rw) : (cel 4 r.pv.cells).toInt = r.kind := rfl
theorem Rw.c5 (r : Rw) : (cel 5 r.pv.cells).toInt = r.num := rfl
theorem Rw.c6 (r : Rw) : (cel 6 r.pv.cells).toStr = r.vtext := rfl
theorem Rw.rb (r : Rw) : Rw.mk r.row r.col r.text r.hidden r.kind r.num r.vtext = r := rfl
def rpv (l : List Rw) : List PV := l.map Rw.pv
theorem rpv_len (l : List Rw) : (rpv l).length = l.length := by simp [rpv]
theorem rpv_get {l : List Rw} {i : Nat} (h : i < l.length) : (rpv l).getD i .top = l[i].pv := by simp [rpv, h]
def kindR (r : Rw) : Nat := if r.hidden = true then 1 else if r.kind = 0 then 2 else if r.kind = 1 then 3 else if r.kind = 2 then 4 else if r.kind = 3 then 5 else if r.kind = 4 then (if r.num = 7 then 7 else 6) else 0
def cnt (l : List Rw) (k : Nat) : Nat := match l with
  | [] => 0
  | r :: l => cnt l k + if kindR r = k then 1 else 0
theorem cnt_cons (r : Rw) (l : List Rw) (k : Nat) : cnt (r :: l) k = cnt l k + if kindR r = k then 1 else 0 := rfl
theorem cnt_app (a b : List Rw) (k : Nat) : cnt (a ++ b) k = cnt a k + cnt b k := by
  induction a with
  | nil => simp [cnt]
  | cons r a ih => rw [List.cons_append, cnt_cons, cnt_cons, ih]; omega
theorem cnt_rev (a : List Rw) (k : Nat) : cnt a.reverse k = cnt a k := by
  induction a with
  | nil => rfl
  | cons r a ih => rw [List.reverse_cons, cnt_app, cnt_cons, ih, cnt_cons]; simp [cnt]
theorem cnt_le (a : List Rw) (k : Nat) : cnt a k ≤ a.length := by
  induction a with
  | nil => exact Nat.le_refl _
  | cons r a ih => rw [cnt_cons, List.length_cons]; split <;> omega
structure S8 where
  a : Int
  b : Int
  c : Int
  d : Int
  e : Int
  f : Int
  g : Int
  h : Int
def S8.pv (v : S8) : PV := .agg [.sc (.int .i64 v.a), .sc (.int .i64 v.b), .sc (.int .i64 v.c), .sc (.int .i64 v.d), .sc (.int .i64 v.e), .sc (.int .i64 v.f), .sc (.int .i64 v.g), .sc (.int .i64 v.h)]
theorem S8.fold (a b c d e f g h : Int) : PV.agg [.sc (.int .i64 a), .sc (.int .i64 b), .sc (.int .i64 c), .sc (.int .i64 d), .sc (.int .i64 e), .sc (.int .i64 f), .sc (.int .i64 g), .sc (.int .i64 h)] = (S8.mk a b c d e f g h).pv := rfl
theorem S8.sh (v : S8) : hasSh (.agg [(.int .i64), (.int .i64), (.int .i64), (.int .i64), (.int .i64), (.int .i64), (.int .i64), (.int .i64)]) v.pv = true := rfl
theorem S8.c0 (v : S8) : (cel 0 v.pv.cells).toInt = v.a := rfl
theorem S8.c1 (v : S8) : (cel 1 v.pv.cells).toInt = v.b := rfl
theorem S8.c2 (v : S8) : (cel 2 v.pv.cells).toInt = v.c := rfl
theorem S8.c3 (v : S8) : (cel 3 v.pv.cells).toInt = v.d := rfl
theorem S8.c4 (v : S8) : (cel 4 v.pv.cells).toInt = v.e := rfl
theorem S8.c5 (v : S8) : (cel 5 v.pv.cells).toInt = v.f := rfl
theorem S8.c6 (v : S8) : (cel 6 v.pv.cells).toInt = v.g := rfl
theorem S8.c7 (v : S8) : (cel 7 v.pv.cells).toInt = v.h := rfl
theorem S8.rb (v : S8) : S8.mk v.a v.b v.c v.d v.e v.f v.g v.h = v := rfl
theorem S8.congr {a b c d e f g h a' b' c' d' e' f' g' h' : Int} (h0 : a = a') (h1 : b = b') (h2 : c = c') (h3 : d = d') (h4 : e = e') (h5 : f = f') (h6 : g = g') (h7 : h = h') : some (S8.mk a b c d e f g h).pv = some (S8.mk a' b' c' d' e' f' g' h').pv := by
  rw [h0, h1, h2, h3, h4, h5, h6, h7]
def ofR (l : List Rw) : S8 := ⟨l.length, cnt l 1, cnt l 2, cnt l 3, cnt l 4, cnt l 5, cnt l 6, cnt l 7⟩
theorem w1 {s : Int} (h0 : 0 ≤ s) (h1 : s ≤ 1000000) : IntKind.i64.wrap (s + 1) = s + 1 := w64 (by omega) (by omega)
theorem next_i (i : Nat) (h : i ≤ 1000000) : IntKind.i64.wrap ((i : Int) + 1) = ((i + 1 : Nat) : Int) := by rw [w1 (by omega) (by omega)]; rfl
set_option maxHeartbeats 1600000 in
theorem of_loop (l : List Rw) (hl : l.length ≤ 1000000) : ∀ (m i : Nat) (s0 s1 s2 s3 s4 s5 s6 s7 : Int), i + m = l.length → (0 ≤ s0 ∧ s0 + m ≤ 1000000) → (0 ≤ s1 ∧ s1 + m ≤ 1000000) → (0 ≤ s2 ∧ s2 + m ≤ 1000000) → (0 ≤ s3 ∧ s3 + m ≤ 1000000) → (0 ≤ s4 ∧ s4 + m ≤ 1000000) → (0 ≤ s5 ∧ s5 + m ≤ 1000000) → (0 ≤ s6 ∧ s6 + m ≤ 1000000) → (0 ≤ s7 ∧ s7 + m ≤ 1000000) →
    f25.l0a 0 (rpv l).length (fun i => (rpv l).getD i .top) (l.length : Int) (i : Int) 0 0 0 0 0 0 0 0 s0 s1 s2 s3 s4 s5 s6 s7 = some (S8.mk (s0 + m) (s1 + cnt (l.drop i) 1) (s2 + cnt (l.drop i) 2) (s3 + cnt (l.drop i) 3) (s4 + cnt (l.drop i) 4) (s5 + cnt (l.drop i) 5) (s6 + cnt (l.drop i) 6) (s7 + cnt (l.drop i) 7)).pv := by
  intro m
  induction m with
  | zero =>
    intro i s0 s1 s2 s3 s4 s5 s6 s7 he _ _ _ _ _ _ _ _
    have hi : i = l.length := by omega
    subst hi
    rw [f25.l0a_eq, if_neg (by simp)]
    rw [List.drop_length]
    simp only [S8.fold]
    apply S8.congr <;> simp [cnt]
  | succ m ih =>
    intro i s0 s1 s2 s3 s4 s5 s6 s7 he h0 h1 h2 h3 h4 h5 h6 h7
    have hi : i < l.length := by omega
    have hd : l.drop i = l[i] :: l.drop (i + 1) := (List.getElem_cons_drop hi).symm
    rw [f25.l0a_eq, if_pos (by simp; omega), if_pos (by omega), if_pos (by rw [rpv_len]; omega)]
    simp only [Int.toNat_natCast, rpv_get hi, Rw.sh, Rw.c3, Rw.c4, Rw.c5, if_true]
    generalize l[i] = r at hd
    have fin : ∀ (c : Nat) (d0 d1 d2 d3 d4 d5 d6 d7 : Int), kindR r = c → d0 = s0 + 1 → d1 = s1 + (if c = 1 then 1 else 0) → d2 = s2 + (if c = 2 then 1 else 0) → d3 = s3 + (if c = 3 then 1 else 0) → d4 = s4 + (if c = 4 then 1 else 0) → d5 = s5 + (if c = 5 then 1 else 0) → d6 = s6 + (if c = 6 then 1 else 0) → d7 = s7 + (if c = 7 then 1 else 0) →
        f25.j1a 0 (rpv l).length (fun i => (rpv l).getD i .top) (l.length : Int) (i : Int) 0 0 0 0 0 0 0 0 d0 d1 d2 d3 d4 d5 d6 d7 = some (S8.mk (s0 + (m + 1 : Nat)) (s1 + cnt (l.drop i) 1) (s2 + cnt (l.drop i) 2) (s3 + cnt (l.drop i) 3) (s4 + cnt (l.drop i) 4) (s5 + cnt (l.drop i) 5) (s6 + cnt (l.drop i) 6) (s7 + cnt (l.drop i) 7)).pv := by
      intro c d0 d1 d2 d3 d4 d5 d6 d7 hk e0 e1 e2 e3 e4 e5 e6 e7
      rw [f25.j1a_eq, next_i i (by omega)]
      rw [ih (i + 1) d0 d1 d2 d3 d4 d5 d6 d7 (by omega) (by omega) (by split at e1 <;> omega) (by split at e2 <;> omega) (by split at e3 <;> omega) (by split at e4 <;> omega) (by split at e5 <;> omega) (by split at e6 <;> omega) (by split at e7 <;> omega)]
      rw [hd]
      simp only [cnt_cons, hk]
      apply S8.congr
      · omega
      · split at e1 <;> simp_all <;> omega
      · split at e2 <;> simp_all <;> omega
      · split at e3 <;> simp_all <;> omega
      · split at e4 <;> simp_all <;> omega
      · split at e5 <;> simp_all <;> omega
      · split at e6 <;> simp_all <;> omega
      · split at e7 <;> simp_all <;> omega
    rw [w1 h0.1 (by omega), w1 h1.1 (by omega), w1 h2.1 (by omega), w1 h3.1 (by omega), w1 h4.1 (by omega), w1 h5.1 (by omega), w1 h6.1 (by omega), w1 h7.1 (by omega)]
    by_cases hh : r.hidden = true
    · rw [if_pos hh]
      exact fin 1 _ _ _ _ _ _ _ _ (by simp [kindR, hh]) rfl (by simp) (by simp) (by simp) (by simp) (by simp) (by simp) (by simp)
    rw [if_neg hh]
    by_cases k0 : r.kind = 0
    · rw [if_pos (by simp [k0])]
      exact fin 2 _ _ _ _ _ _ _ _ (by simp [kindR, hh, k0]) rfl (by simp) (by simp) (by simp) (by simp) (by simp) (by simp) (by simp)
    rw [if_neg (by simp [k0])]
    by_cases k1 : r.kind = 1
    · rw [if_pos (by simp [k1])]
      exact fin 3 _ _ _ _ _ _ _ _ (by simp [kindR, hh, k1]) rfl (by simp) (by simp) (by simp) (by simp) (by simp) (by simp) (by simp)
    rw [if_neg (by simp [k1])]
    by_cases k2 : r.kind = 2
    · rw [if_pos (by simp [k2])]
      exact fin 4 _ _ _ _ _ _ _ _ (by simp [kindR, hh, k2]) rfl (by simp) (by simp) (by simp) (by simp) (by simp) (by simp) (by simp)
    rw [if_neg (by simp [k2])]
    by_cases k3 : r.kind = 3
    · rw [if_pos (by simp [k3])]
      exact fin 5 _ _ _ _ _ _ _ _ (by simp [kindR, hh, k3]) rfl (by simp) (by simp) (by simp) (by simp) (by simp) (by simp) (by simp)
    rw [if_neg (by simp [k3])]
    by_cases k4 : r.kind = 4
    · rw [if_pos (by simp [k4])]
      by_cases k7 : r.num = 7
      · rw [if_pos (by simp [k7])]
        exact fin 7 _ _ _ _ _ _ _ _ (by simp [kindR, hh, k4, k7]) rfl (by simp) (by simp) (by simp) (by simp) (by simp) (by simp) (by simp)
      · rw [if_neg (by simp [k7])]
        exact fin 6 _ _ _ _ _ _ _ _ (by simp [kindR, hh, k4, k7]) rfl (by simp) (by simp) (by simp) (by simp) (by simp) (by simp) (by simp)
    rw [if_neg (by simp [k4])]
    exact fin 0 _ _ _ _ _ _ _ _ (by simp [kindR, hh, k0, k1, k2, k3, k4]) rfl (by simp) (by simp) (by simp) (by simp) (by simp) (by simp) (by simp)
theorem of_ev (l : List Rw) (hl : l.length ≤ 1000000) : D 25 [frozen 7 (rpv l)] = some (ofR l).pv := by
  refine (f25_eq 0 (rpv l).length (fun i => (rpv l).getD i .top)).trans ?_
  have h := of_loop l hl l.length 0 0 0 0 0 0 0 0 0 (by omega) (by omega) (by omega) (by omega) (by omega) (by omega) (by omega) (by omega) (by omega)
  have e : ((rpv l).length : Int) = (l.length : Int) := by rw [rpv_len]
  rw [e]
  refine h.trans ?_
  apply S8.congr <;> simp
def addS (a b : S8) : S8 := ⟨IntKind.i64.wrap (a.a + b.a), IntKind.i64.wrap (a.b + b.b), IntKind.i64.wrap (a.c + b.c), IntKind.i64.wrap (a.d + b.d), IntKind.i64.wrap (a.e + b.e), IntKind.i64.wrap (a.f + b.f), IntKind.i64.wrap (a.g + b.g), IntKind.i64.wrap (a.h + b.h)⟩
theorem counts_ev (c : S8) : D 78 [c.pv] = some c.pv := f78_eq 0 c.a c.b c.c c.d c.e c.f c.g c.h
theorem add_ev (a b : S8) : D 31 [a.pv, b.pv] = some (addS a b).pv := by
  have ea := counts_ev a
  have eb := counts_ev b
  obtain ⟨a0, a1, a2, a3, a4, a5, a6, a7⟩ := a
  obtain ⟨b0, b1, b2, b3, b4, b5, b6, b7⟩ := b
  refine (f31_eq 0 a0 a1 a2 a3 a4 a5 a6 a7 b0 b1 b2 b3 b4 b5 b6 b7).trans ?_
  simp only [S8.fold] at ea eb ⊢
  rw [ea, eb]
  simp only [bs, S8.sh, if_true, S8.c0, S8.c1, S8.c2, S8.c3, S8.c4, S8.c5, S8.c6, S8.c7]
  rw [f31.l0a_eq, f31.l0b_eq, f31.l0c_eq, f31.l0d_eq, f31.l0e_eq, f31.l0f_eq, f31.l0g_eq, f31.l0h_eq, f31.l0i_eq]
  rfl
theorem add_of (a b : List Rw) (ha : a.length ≤ 1000) (hb : b.length ≤ 1000) : addS (ofR a) (ofR b) = ofR (a ++ b) := by
  have c : ∀ k, IntKind.i64.wrap ((cnt a k : Int) + (cnt b k : Int)) = (cnt (a ++ b) k : Int) := fun k => by
    have := cnt_le a k
    have := cnt_le b k
    rw [w64 (by omega) (by omega), cnt_app]; omega
  simp only [addS, ofR, c]
  rw [w64 (by omega) (by omega), List.length_append]
  simp
theorem of_rev (a : List Rw) : ofR a.reverse = ofR a := by simp [ofR, cnt_rev]
theorem of_comm (a b : List Rw) : ofR (a ++ b) = ofR (b ++ a) := by
  simp only [ofR, cnt_app, List.length_append]
  simp only [Nat.add_comm]
theorem alive_ev : D 24 [] = some (.sc (.bool true)) := denI_of (k := 60) (by kernel_rfl)
def good (r : Rw) : Bool := decide (r.kind ≥ 0) && decide (r.kind ≤ 4)
theorem sum_of : ∀ (l : List Rw), l.all good = true → cnt l 1 + cnt l 2 + cnt l 3 + cnt l 4 + cnt l 5 + cnt l 6 + cnt l 7 = l.length
  | [], _ => rfl
  | r :: l, h => by
    rw [List.all_cons, Bool.and_eq_true] at h
    have ih := sum_of l h.2
    have hr := h.1
    simp only [good, Bool.and_eq_true, decide_eq_true_eq] at hr
    have hk : 1 ≤ kindR r ∧ kindR r ≤ 7 := by
      unfold kindR
      split
      · omega
      · split
        · omega
        · split
          · omega
          · split
            · omega
            · split
              · omega
              · split
                · split <;> omega
                · omega
    simp only [cnt_cons, List.length_cons]
    have : kindR r = 1 ∨ kindR r = 2 ∨ kindR r = 3 ∨ kindR r = 4 ∨ kindR r = 5 ∨ kindR r = 6 ∨ kindR r = 7 := by omega
    rcases this with e | e | e | e | e | e | e <;> simp only [e] <;> simp <;> omega
end Go.Den.ES
