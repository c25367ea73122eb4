/- Texts that CanonBack rests on. -/
import Derived.Test.YtkhbkbkambflbaaGreatDoorMCanonBack0
import Derived.Lib.Split
import Derived.Lib.SplitLaws
/- The program's table of functions. -/
set_option linter.unusedVariables false
set_option linter.unusedSimpArgs false
set_option maxRecDepth 100000
namespace Go.Den.EK
open Go Go.Proofs
theorem cutg_ev (c : UInt8) {l : List UInt8} (h : l.length ≤ 1000000) : D 184 [.sc (.string (B l)), .sc (.string (B [c]))] = some (.tup [.sc (.string (B (cutG c l).1)), .sc (.string (B (cutG c l).2.1)), .sc (.bool (cutG c l).2.2)]) := by
 have e : D 184 [.sc (.string (B l)), .sc (.string (B [c]))] = xCut [.sc (.string (B l)), .sc (.string (B [c]))] := (denI_eq 0 _ _).trans (by kernel_rfl)
 rw [e]
 unfold xCut
 have ec : (Lib.cut (B l).data.toList (B [c]).data.toList) = cutG c l := cutg_eq c l
 dsimp only
 rw [ec]
 exact if_pos (by rw [B_size]; omega)
theorem row_l1 {nm kd : List UInt8} (hn : nm.all (fun b => decide (65 ≤ b.toNat)) = true) (hk : ∃ a l, kd = a :: l ∧ isD a = true) (hl : (nm ++ kd).length ≤ 1000) : ∀ (d i : Nat), i + d = nm.length → f155.l1a 0 (B (nm ++ kd)) (i : Int) = some (.tup [.sc (.string (B nm)), .sc (.string (B kd))]) := by
 obtain ⟨a, l, rfl, ha⟩ := hk
 have hlen : (nm ++ a :: l).length = nm.length + (l.length + 1) := by simp
 intro d
 induction d with
 | zero =>
  intro i h
  have hi : i < (nm ++ a :: l).length := by omega
  have c1 : (0 : Int) ≤ (i : Int) := by omega
  have c2 : (i : Int) < ((B (nm ++ a :: l)).size : Int) := by rw [B_size]; omega
  rw [f155.l1a_eq]
  have e : (nm ++ a :: l)[i] = a := by rw [List.getElem_append_right (by omega)]; simp [show i - nm.length = 0 by omega]
  have hr := isD_rng ha
  refine ip c1 (ip c2 (im (by rw [B_bt hi, e, decide_eq_true_eq]; omega) (ip c1 (ip (by omega) (ip c1 (ip (by omega) (ip (Int.le_refl _) (ip c1 (ip (by omega) ?_)))))))))
  rw [ext_drop, show i = nm.length by omega, take_ext, List.take_left, List.drop_left]
 | succ d ih =>
  intro i h
  have hi : i < (nm ++ a :: l).length := by omega
  have c1 : (0 : Int) ≤ (i : Int) := by omega
  have c2 : (i : Int) < ((B (nm ++ a :: l)).size : Int) := by rw [B_size]; omega
  rw [f155.l1a_eq]
  have hi2 : i < nm.length := by omega
  have e : (nm ++ a :: l)[i] = nm[i] := List.getElem_append_left hi2
  have hb := List.all_eq_true.1 hn nm[i] (List.getElem_mem hi2)
  rw [decide_eq_true_eq] at hb
  refine ip c1 (ip c2 (ip (by rw [B_bt hi, e, decide_eq_true_eq]; omega) ?_))
  rw [nx hi2 (by omega)]
  exact ih (i + 1) (by omega)
theorem row_end {i : Nat} (h : i < fnRows.length) : f155.l1a 0 (B (fnRows[i].1 ++ fnRows[i].2)) 0 = some (.tup [.sc (.string (B fnRows[i].1)), .sc (.string (B fnRows[i].2))]) := by
 have hk := row_ok h
 obtain ⟨a, b, k, e, ha, hb⟩ := row_kinds hk
 exact row_l1 (row_upp hk) ⟨a, _, e, ha⟩ (by have := row_20 hk; omega) _ 0 (Nat.zero_add _)
theorem rowt_l : ∀ (d n f : Nat), n + d = f → 1 ≤ n → (hf : f ≤ 78) → ∀ (hn : n - 1 < fnRows.length), f155.l0a 0 (f : Int) (B (fnRows[n - 1].1 ++ fnRows[n - 1].2)) (B (rowsT (fnRows.drop n))) (n : Int) = some (.tup [.sc (.string (B (rowP (f : Int)).1)), .sc (.string (B (rowP (f : Int)).2))]) := by
 intro d
 induction d with
 | zero =>
  intro n f h h1 hf hn
  rw [f155.l0a_eq]
  refine im (by rw [decide_eq_true_eq]; omega) ?_
  rw [row_end hn]
  have := rowP_get hn
  rw [show n - 1 + 1 = f by omega] at this
  rw [this]
 | succ d ih =>
  intro n f h h1 hf hn
  have h78 := rows_78
  have hn2 : n < fnRows.length := by omega
  rw [f155.l0a_eq]
  refine ip (by rw [decide_eq_true_eq]; omega) (cb (cutg_ev 59 (by have := rowsT_sub n; omega)) rfl ?_)
  rw [rowsT_cut hn2, nx (n := 1000) (show n < 1000 by omega) (by decide)]
  exact ih (n + 1) f (by omega) (by omega) hf (by omega)
theorem rowt_ev (fn : Int) : D 155 [.sc (.int .i64 fn)] = some (.tup [.sc (.string (B (rowP fn).1)), .sc (.string (B (rowP fn).2))]) := by
 rw [f155_eq 0, bO]
 dsimp +instances only [tb]
 by_cases h : 1 ≤ fn ∧ fn ≤ 78
 ·obtain ⟨f, rfl⟩ : ∃ f : Nat, fn = f := ⟨fn.toNat, by omega⟩
  have c : (decide ((f : Int) < 1) || decide ((f : Int) > 78)) = false := by
   rw [Bool.or_eq_false_iff, decide_eq_false_iff_not, decide_eq_false_iff_not]; omega
  rw [c]
  refine im (by decide) ?_
  have h0 : 0 < fnRows.length := by decide
  have e := cutg_ev 59 (l := rowsT fnRows) (by have := rowsT_sub 0; rw [List.drop_zero] at this; omega)
  have e2 := rowsT_cut h0
  rw [List.drop_zero] at e2
  rw [e2] at e
  refine cb (x := .tup [.sc (.string (B (fnRows[0].1 ++ fnRows[0].2))), .sc (.string (B (rowsT (fnRows.drop 1)))), .sc (.bool (decide (0 + 1 < fnRows.length)))]) ?_ rfl ?_
  ·exact e
  ·exact rowt_l (f - 1) 1 f (by omega) (Nat.le_refl _) (by omega) h0
 ·have c : (decide (fn < 1) || decide (fn > 78)) = true := by
   rw [Bool.or_eq_true, decide_eq_true_eq, decide_eq_true_eq]; omega
  rw [c]
  unfold rowP
  rw [if_neg h]
  exact ip rfl rfl
theorem fname_ev (fn : Int) : D 105 [.sc (.int .i64 fn)] = some (.sc (.string (B (rowP fn).1))) := by
 rw [f105_eq 0]
 exact cb (rowt_ev fn) rfl rfl
theorem fnum_l (w : List UInt8) : ∀ (d i : Nat), i + d = 78 → f233.l0a 0 (B w) ((i + 1 : Nat) : Int) = some (.sc (.int .i64 (findF (fnRows.drop i) (i + 1) w : Nat))) := by
 intro d
 induction d with
 | zero =>
  intro i h
  rw [f233.l0a_eq]
  refine im (by rw [decide_eq_true_eq]; omega) ?_
  rw [List.drop_eq_nil_of_le (by rw [rows_78]; omega)]
  rfl
 | succ d ih =>
  intro i h
  have hi : i < fnRows.length := by rw [rows_78]; omega
  rw [f233.l0a_eq]
  refine ip (by rw [decide_eq_true_eq]; omega) (cb (rowt_ev _) rfl ?_)
  rw [rowP_get hi, List.drop_eq_getElem_cons hi, findF]
  have e : ((B fnRows[i].1).toList == (B w).toList) = decide (fnRows[i].1 = w) := by
   rw [B_toList, B_toList, Bool.eq_iff_iff, beq_iff_eq, decide_eq_true_iff]
  show (if ((B fnRows[i].1).toList == (B w).toList) = true then _ else _) = _
  rw [e]
  by_cases hw : fnRows[i].1 = w
  ·rw [if_pos hw]
   exact ip (decide_eq_true hw) rfl
  ·rw [if_neg hw]
   refine im (by rw [decide_eq_true_eq]; exact hw) ?_
   rw [nx (n := 1000) (show i + 1 < 1000 by omega) (by decide)]
   exact ih (i + 1) (by omega)
theorem fnum_ev (w : List UInt8) : D 233 [.sc (.string (B w))] = some (.sc (.int .i64 (fnumP w))) := by
 rw [f233_eq 0]
 have := fnum_l w 78 0 rfl
 rw [List.drop_zero] at this
 exact this
theorem row_cases (fn : Int) : rowP fn = ([], []) ∨ ∃ a b k, (rowP fn).2 = a :: b :: k ∧ isD a = true ∧ isD b = true ∧ (a :: b :: k).length ≤ 20 := by
 by_cases h : 1 ≤ fn ∧ fn ≤ 78
 ·right
  have hi : fn.toNat - 1 < fnRows.length := by rw [rows_78]; omega
  have := rowP_get hi
  rw [show ((fn.toNat - 1 + 1 : Nat) : Int) = fn by omega] at this
  rw [this]
  obtain ⟨a, b, k, e, ha, hb⟩ := row_kinds (row_ok hi)
  have h20 := row_20 (row_ok hi)
  rw [List.length_append, e] at h20
  exact ⟨a, b, k, e, ha, hb, by omega⟩
 ·left; unfold rowP; rw [if_neg h]
theorem dig8 {a : UInt8} (h : isD a = true) : IntKind.i64.wrap (IntKind.u8.wrap ((a.toNat : Int) - 48)) = ((a.toNat - 48 : Nat) : Int) := by
 have := isD_rng h
 rw [u8w (by omega) (by omega), w64 (by omega) (by omega)]; omega
theorem fits_ev (fn : Int) {n : Nat} (hn : (n : Int) ≤ 9223372036854775807) : D 138 [.sc (.int .i64 fn), .sc (.int .i64 (n : Int))] = some (.sc (.bool (fitsF fn n))) := by
 rw [f138_eq 0]
 refine cb (rowt_ev fn) rfl ?_
 unfold fitsF
 have he : ((B []).toList == (⟨#[]⟩ : ByteArray).toList) = true := by rw [show (⟨#[]⟩ : ByteArray) = B [] from rfl, beq_self_eq_true]
 rcases row_cases fn with h | ⟨a, b, k, e, ha, hb, hl⟩
 ·rw [h]
  show Option.bind (α := PV) (if (!((B []).toList == (⟨#[]⟩ : ByteArray).toList)) = true then _ else some (.sc (.bool false))) _ = _
  rw [he]; rfl
 ·rw [e]
  have c0 : (0 : Int) < ((B (a :: b :: k)).size : Int) := by rw [B_size]; simp; omega
  have c1 : (1 : Int) < ((B (a :: b :: k)).size : Int) := by rw [B_size]; simp; omega
  have b0 : bt (B (a :: b :: k)) 0 = (a.toNat : Int) := B_bt (l := a :: b :: k) (i := 0) (by simp)
  have b1 : bt (B (a :: b :: k)) 1 = (b.toNat : Int) := B_bt (l := a :: b :: k) (i := 1) (by simp)
  have hne : ((B (a :: b :: k)).toList == (⟨#[]⟩ : ByteArray).toList) = false := by
   rw [show (⟨#[]⟩ : ByteArray) = B [] from rfl, B_toList, B_toList]; rfl
  show Option.bind (α := PV) (if (!((B (a :: b :: k)).toList == (⟨#[]⟩ : ByteArray).toList)) = true then Option.bind (α := PV) (Option.bind (α := PV) (if 0 < ((B (a :: b :: k)).size : Int) then some (.sc (.bool (decide ((n : Int) ≥ IntKind.i64.wrap (IntKind.u8.wrap (bt (B (a :: b :: k)) 0 - 48)))))) else none) fun r2 => some (.sc (.bool r2.toBool))) fun r3 => some (.sc (.bool r3.toBool)) else some (.sc (.bool false))) _ = _
  rw [hne, b0, dig8 ha]
  simp only [Bool.not_false, if_true, if_pos c0, bs, tb]
  show Option.bind (α := PV) (if decide ((n : Int) ≥ ((a.toNat - 48 : Nat) : Int)) = true then Option.bind (α := PV) (Option.bind (α := PV) (if 1 < ((B (a :: b :: k)).size : Int) then some (.sc (.bool (decide ((n : Int) ≤ IntKind.i64.wrap (IntKind.u8.wrap (bt (B (a :: b :: k)) 1 - 48)))))) else none) fun r5 => some (.sc (.bool r5.toBool))) fun r6 => some (.sc (.bool r6.toBool)) else some (.sc (.bool false))) _ = _
  rw [b1, dig8 hb]
  simp only [if_pos c1, bs, tb]
  rw [bA]
  dsimp only [tb]
  congr 3
  rw [Bool.eq_iff_iff, Bool.and_eq_true, Bool.and_eq_true, decide_eq_true_iff, decide_eq_true_iff, decide_eq_true_iff, decide_eq_true_iff]
  omega
theorem kind_ev (fn : Int) {i : Nat} (hn : (i : Int) ≤ 1000000000) : D 139 [.sc (.int .i64 fn), .sc (.int .i64 (i : Int))] = some (.sc (.int .u8 ((kindF fn i).toNat : Int))) := by
 rw [f139_eq 0]
 refine cb (rowt_ev fn) rfl ?_
 unfold kindF
 have he : ((B []).toList == (⟨#[]⟩ : ByteArray).toList) = true := by rw [show (⟨#[]⟩ : ByteArray) = B [] from rfl, beq_self_eq_true]
 rcases row_cases fn with h | ⟨a, b, k, e, ha, hb, hl⟩
 ·rw [h]
  show Option.bind (α := PV) (if ((B []).toList == (⟨#[]⟩ : ByteArray).toList) = true then some (.sc (.bool true)) else _) _ = _
  rw [he]; rfl
 ·rw [e]
  have c1 : (1 : Int) < ((B (a :: b :: k)).size : Int) := by rw [B_size]; simp; omega
  have b1 : bt (B (a :: b :: k)) 1 = (b.toNat : Int) := B_bt (l := a :: b :: k) (i := 1) (by simp)
  have hne : ((B (a :: b :: k)).toList == (⟨#[]⟩ : ByteArray).toList) = false := by
   rw [show (⟨#[]⟩ : ByteArray) = B [] from rfl, B_toList, B_toList]; rfl
  have hi0 : decide ((i : Int) < 0) = false := by rw [decide_eq_false_iff_not]; omega
  show Option.bind (α := PV) (if ((B (a :: b :: k)).toList == (⟨#[]⟩ : ByteArray).toList) = true then some (.sc (.bool true)) else some (.sc (.bool (decide ((i : Int) < 0))))) _ = _
  rw [hne, hi0]
  simp only [Bool.false_eq_true, if_false, bs, tb]
  show Option.bind (α := PV) (Option.bind (α := PV) (Option.bind (α := PV) (if 1 < ((B (a :: b :: k)).size : Int) then some (.sc (.bool (decide ((i : Int) ≥ IntKind.i64.wrap (IntKind.u8.wrap (bt (B (a :: b :: k)) 1 - 48)))))) else none) fun r3 => some (.sc (.bool r3.toBool))) fun r4 => some (.sc (.bool r4.toBool))) _ = _
  rw [b1, dig8 hb]
  simp only [if_pos c1, bs, tb]
  have hs : ((B (a :: b :: k)).size : Int) = (k.length : Int) + 2 := by rw [B_size]; simp; omega
  by_cases hg : b.toNat - 48 ≤ i
  ·rw [if_pos hg]
   exact ip (by rw [decide_eq_true_eq]; omega) rfl
  ·rw [if_neg hg]
   refine im (by rw [decide_eq_true_eq]; omega) ?_
   have hm : (if IntKind.i64.wrap (((B (a :: b :: k)).size : Int) - 1) < IntKind.i64.wrap ((2 : Int) + (i : Int)) then IntKind.i64.wrap (((B (a :: b :: k)).size : Int) - 1) else IntKind.i64.wrap ((2 : Int) + (i : Int))) = ((min (2 + i) (k.length + 1) : Nat) : Int) := by
    have hl2 : k.length ≤ 20 := by simp at hl; omega
    rw [w64 (x := ((B (a :: b :: k)).size : Int) - 1) (by omega) (by omega), w64 (x := (2 : Int) + (i : Int)) (by omega) (by omega)]
    by_cases h2 : ((B (a :: b :: k)).size : Int) - 1 < (2 : Int) + (i : Int)
    ·rw [if_pos h2]; omega
    ·rw [if_neg h2]; omega
   have hlt : min (2 + i) (k.length + 1) < (a :: b :: k).length := by simp only [List.length_cons]; omega
   show (if 0 ≤ (if IntKind.i64.wrap (((B (a :: b :: k)).size : Int) - 1) < IntKind.i64.wrap ((2 : Int) + (i : Int)) then IntKind.i64.wrap (((B (a :: b :: k)).size : Int) - 1) else IntKind.i64.wrap ((2 : Int) + (i : Int))) then
    (if (if IntKind.i64.wrap (((B (a :: b :: k)).size : Int) - 1) < IntKind.i64.wrap ((2 : Int) + (i : Int)) then IntKind.i64.wrap (((B (a :: b :: k)).size : Int) - 1) else IntKind.i64.wrap ((2 : Int) + (i : Int))) < ((B (a :: b :: k)).size : Int) then
     some (PV.sc (.int .u8 (bt (B (a :: b :: k)) (if IntKind.i64.wrap (((B (a :: b :: k)).size : Int) - 1) < IntKind.i64.wrap ((2 : Int) + (i : Int)) then IntKind.i64.wrap (((B (a :: b :: k)).size : Int) - 1) else IntKind.i64.wrap ((2 : Int) + (i : Int)))))) else (none : Option PV)) else none) = _
   rw [hm, B_bt hlt]
   refine ip (by omega) (ip (by rw [B_size]; omega) ?_)
   rw [List.getD_eq_getElem?_getD, List.getElem?_eq_getElem hlt]; rfl
end Go.Den.EK
/- Which trees the program calls right. -/
set_option linter.unusedVariables false
set_option linter.unusedSimpArgs false
set_option maxRecDepth 100000
namespace Go.Den.EK
open Go Go.Proofs
theorem tb8_B (t : ByteArray) : B (tb8 t) = t := by rcases t with ⟨⟨l⟩⟩; rfl
theorem tb8_len (t : ByteArray) : (tb8 t).length = t.size := by rcases t with ⟨⟨l⟩⟩; rfl
theorem em_eq (t : ByteArray) : (t.toList == (⟨#[]⟩ : ByteArray).toList) = (t.size == 0) := by
 rw [← tb8_B t, show (⟨#[]⟩ : ByteArray) = B [] from rfl, B_toList, B_toList, B_size]
 cases tb8 t <;> rfl
/-- Parts of a node. -/
def hasZ (b0 b1 b2 b3 b4 : Bool) : Int := (if b0 = true then 1 else 0) + (if b1 = true then 2 else 0) + (if b2 = true then 4 else 0) + (if b3 = true then 8 else 0) + (if b4 = true then 16 else 0)
theorem has_l (b0 b1 b2 b3 b4 : Bool) : f81.l0a 0 b0 b1 b2 b3 b4 = some (.sc (.int .u64 (hasZ b0 b1 b2 b3 b4))) := by
 cases b0 <;> cases b1 <;> cases b2 <;> cases b3 <;> cases b4 <;>
  (simp only [f81.l0a_eq, f81.l0b_eq, f81.l0c_eq, f81.l0d_eq, f81.l0e_eq, f81.l0f_eq, f81.l0g_eq, f81.l0h_eq, f81.l0i_eq, f81.l0j_eq, f81.l0k_eq, f81.l0l_eq, f81.l0m_eq, f81.l0n_eq, f81.l0o_eq, f81.l0p_eq, f81.l0z16z_eq, f81.l0z17z_eq, f81.l0z18z_eq, f81.l0z19z_eq, f81.l0z20z_eq, f81.l0z21z_eq, f81.l0z22z_eq, f81.l0z23z_eq, f81.l0z24z_eq, f81.l0z25z_eq, f81.l0z26z_eq, f81.l0z27z_eq, f81.l0z28z_eq, f81.l0z29z_eq, f81.l0z30z_eq, f81.l0z31z_eq, f81.l0z32z_eq, f81.l0z33z_eq, f81.l0z34z_eq, f81.l0z35z_eq, f81.l0z36z_eq, f81.l0z37z_eq, f81.l0z38z_eq, f81.l0z39z_eq, f81.l0z40z_eq, f81.l0z41z_eq, f81.l0z42z_eq, f81.l0z43z_eq, f81.l0z44z_eq, f81.l0z45z_eq, f81.l0z46z_eq, f81.l0z47z_eq, f81.l0z48z_eq, f81.l0z49z_eq, f81.l0z50z_eq, f81.l0z51z_eq, f81.l0z52z_eq, f81.l0z53z_eq, f81.l0z54z_eq, f81.l0z55z_eq, f81.l0z56z_eq, f81.l0z57z_eq, f81.l0z58z_eq, f81.l0z59z_eq, f81.l0z60z_eq, f81.l0z61z_eq, f81.l0z62z_eq, if_true, Bool.false_eq_true, if_false]; rfl)
theorem has_ev (kind op : Int) (v : Vl) (a b : Rf) (l : List Nod) : D 81 [Nod.pv (.mk kind op v a b l)] = some (.sc (.int .u64 (hasZ (!(op == 0)) (!isZV v) (!isZR a) (!isZR b) (!l.isEmpty)))) := by
 refine (f81_eq 0 _ _ _ _ _ _ _ _ _ _ _ _ _ _ _).trans ((has_l _ _ _ _ _).trans ?_)
 have e1 : (v.kind == 0 && (v.num == 0 && ((v.text.toList == (⟨#[]⟩ : ByteArray).toList) && true))) = isZV v := by
  rw [em_eq]; unfold isZV; rw [Bool.and_true, Bool.and_assoc]
 have e2 : ∀ r : Rf, (r.row == 0 && (r.col == 0 && (r.hr == false && (r.hc == false && true)))) = isZR r := by
  intro r; obtain ⟨x, y, p, q⟩ := r
  unfold isZR
  cases p <;> cases q <;> simp
 have e3 : decide ((((pvs l).length : Nat) : Int) > 0) = !l.isEmpty := by
  rw [pvs_len]; cases l with
  | nil => rfl
  | cons x l => rw [List.isEmpty_cons, Bool.not_false, decide_eq_true_eq, List.length_cons]; omega
 rw [e1, e2, e2, e3]
 rfl
theorem ma2 (z0 z1 z2 z3 z4 : Bool) : (Go.bits .andNot .u64 (hasZ (!z0) (!z1) (!z2) (!z3) (!z4)) 2 == 0) = (z0 && z2 && z3 && z4) := by
 cases z0 <;> cases z1 <;> cases z2 <;> cases z3 <;> cases z4 <;> rfl
theorem ma0 (z0 z1 z2 z3 z4 : Bool) : (hasZ (!z0) (!z1) (!z2) (!z3) (!z4) == 0) = (z0 && z1 && z2 && z3 && z4) := by
 cases z0 <;> cases z1 <;> cases z2 <;> cases z3 <;> cases z4 <;> rfl
theorem ma4 (z0 z1 z2 z3 z4 : Bool) : (Go.bits .andNot .u64 (hasZ (!z0) (!z1) (!z2) (!z3) (!z4)) 4 == 0) = (z0 && z1 && z3 && z4) := by
 cases z0 <;> cases z1 <;> cases z2 <;> cases z3 <;> cases z4 <;> rfl
theorem ma12 (z0 z1 z2 z3 z4 : Bool) : (Go.bits .andNot .u64 (hasZ (!z0) (!z1) (!z2) (!z3) (!z4)) 12 == 0) = (z0 && z1 && z4) := by
 cases z0 <;> cases z1 <;> cases z2 <;> cases z3 <;> cases z4 <;> rfl
theorem ma16 (z0 z1 z2 z3 z4 : Bool) : (Go.bits .andNot .u64 (hasZ (!z0) (!z1) (!z2) (!z3) (!z4)) 16 == 0) = (z0 && z1 && z2 && z3) := by
 cases z0 <;> cases z1 <;> cases z2 <;> cases z3 <;> cases z4 <;> rfl
theorem ma17 (z0 z1 z2 z3 z4 : Bool) : (Go.bits .andNot .u64 (hasZ (!z0) (!z1) (!z2) (!z3) (!z4)) 17 == 0) = (z1 && z2 && z3) := by
 cases z0 <;> cases z1 <;> cases z2 <;> cases z3 <;> cases z4 <;> rfl
/-- Literals and references. -/
theorem plain_l (t : List UInt8) (hl : (t.length : Int) ≤ 9223372036854775807) : ∀ (d i : Nat), i + d = t.length → f136.l0a 0 (B t) (t.length : Int) (i : Int) = some (.sc (.bool ((t.drop i).all plainB))) := by
 intro d
 induction d with
 | zero =>
  intro i h
  rw [f136.l0a_eq]
  refine im (by rw [decide_eq_true_eq]; omega) ?_
  rw [List.drop_eq_nil_of_le (by omega)]; rfl
 | succ d ih =>
  intro i h
  have hi : i < t.length := by omega
  rw [f136.l0a_eq]
  refine ip (by rw [decide_eq_true_eq]; omega) (ip (by omega) (ip (by rw [B_size]; omega) ?_))
  rw [B_bt hi, List.drop_eq_getElem_cons hi, List.all_cons]
  refine cb (plain_ev _) rfl ?_
  by_cases hp : plainB t[i] = true
  ·rw [hp, Bool.true_and]
   refine im (by decide) ?_
   rw [nx hi hl]
   exact ih (i + 1) (by omega)
  ·have : plainB t[i] = false := by simpa using hp
   rw [this, Bool.false_and]
   exact ip rfl rfl
theorem lplain_ev (t : ByteArray) (hl : (t.size : Int) ≤ 9223372036854775807) : D 136 [.sc (.string t)] = some (.sc (.bool ((tb8 t).all plainB))) := by
 have hb := tb8_B t
 rw [← tb8_len] at hl
 generalize tb8 t = l at *
 subst hb
 rw [f136_eq 0]
 have := plain_l l hl l.length 0 (Nat.zero_add _)
 rw [List.drop_zero] at this
 exact this
def mayV (v : Vl) : Bool := if v.kind = 0 then v.num == 0 && v.text.size == 0 else if v.kind = 1 then decide (May v.num) && v.text.size == 0 else if v.kind = 2 then v.num == 0 && decide (v.text.size ≤ 256)
 else if v.kind = 3 then (v.num == 0 || v.num == 1) && v.text.size == 0 else if v.kind = 4 then (decide (v.num ≥ 1) && decide (v.num ≤ 7)) && v.text.size == 0 else false
abbrev Vl.pv (v : Vl) : PV := .agg [.sc (.int .i64 v.kind), .sc (.int .i64 v.num), .sc (.string v.text)]
theorem vmay_ev (v : Vl) (hn : I64 v.num) : D 135 [Vl.pv v] = some (.sc (.bool (mayV v))) := by
 refine (f135_eq 0 _ _ _).trans ?_
 unfold mayV
 by_cases h0 : v.kind = 0
 ·rw [if_pos h0]
  refine ip (by rw [h0]; rfl) ?_
  rw [bA, em_eq]; rfl
 rw [if_neg h0]
 refine im (by simpa using h0) ?_
 by_cases h1 : v.kind = 1
 ·rw [if_pos h1]
  refine ip (by rw [h1]; rfl) (cb (may_ev hn) rfl ?_)
  rw [bA, em_eq]; rfl
 rw [if_neg h1]
 refine im (by simpa using h1) ?_
 by_cases h2 : v.kind = 2
 ·rw [if_pos h2]
  refine ip (by rw [h2]; rfl) ?_
  rw [bA]
  dsimp only [tb]
  congr 4
  rw [Bool.eq_iff_iff, decide_eq_true_iff, decide_eq_true_iff]; omega
 rw [if_neg h2]
 refine im (by simpa using h2) ?_
 by_cases h3 : v.kind = 3
 ·rw [if_pos h3]
  refine ip (by rw [h3]; rfl) ?_
  rw [bO, bA, em_eq]; rfl
 rw [if_neg h3]
 refine im (by simpa using h3) ?_
 by_cases h4 : v.kind = 4
 ·rw [if_pos h4]
  refine ip (by rw [h4]; rfl) ?_
  rw [bA, bA, em_eq]; rfl
 rw [if_neg h4]
 exact im (by simpa using h4) rfl
theorem lit_ev (v : Vl) (hn : I64 v.num) (hs : (v.text.size : Int) ≤ 9223372036854775807) : D 82 [Vl.pv v] = some (.sc (.bool (litR v))) := by
 have hj : f82.j0a 0 v.kind v.num v.text = some (.sc (.bool (mayV v))) := (f82.j0a_eq 0 _ _ _).trans (cb (vmay_ev v hn) rfl rfl)
 refine (f82_eq 0 _ _ _).trans ?_
 unfold litR
 by_cases h2 : v.kind = 2
 ·rw [if_pos h2]
  refine ip (by rw [h2]; rfl) (cb (vmay_ev v hn) rfl ?_)
  simp only [lplain_ev v.text hs, bs, shb, if_true, tb]
  rw [bA]
  unfold mayV
  rw [if_neg (by omega), if_neg (by omega), if_pos h2]; rfl
 rw [if_neg h2]
 refine im (by simpa using h2) ?_
 by_cases h1 : v.kind = 1
 ·rw [if_pos h1]
  refine ip (by rw [h1]; rfl) ?_
  unfold I64 at hn
  by_cases hlt : v.num < 0
  ·rw [decide_eq_false (show ¬ 0 ≤ v.num by omega)]
   exact ip (decide_eq_true hlt) rfl
  ·refine im (by rw [decide_eq_true_eq]; exact hlt) (hj.trans ?_)
   unfold mayV
   rw [if_neg (by omega), if_pos h1, decide_eq_true (show 0 ≤ v.num by omega), decide_eq_true hn.2, decide_eq_true (show May v.num by unfold May; omega)]; rfl
 rw [if_neg h1]
 refine im (by simpa using h1) ?_
 by_cases h3 : v.kind = 3
 ·rw [if_pos h3]
  refine ip (by rw [h3]; rfl) (hj.trans ?_)
  unfold mayV
  rw [if_neg (by omega), if_neg h1, if_neg h2, if_pos h3]
 rw [if_neg h3]
 exact im (by simpa using h3) rfl
theorem amay_ev (r c : Int) : D 111 [.agg [.sc (.int .i64 r), .sc (.int .i64 c)]] = some (.sc (.bool (decide (0 ≤ r) && decide (r < 999) && decide (0 ≤ c) && decide (c < 702)))) := by
 refine (f111_eq 0 _ _).trans ?_
 rw [bA, bA, bA]; rfl
theorem nref_ev (r : Rf) : D 83 [r.pv] = some (.sc (.bool (refM r))) := by
 refine (f83_eq 0 _ _ _ _).trans (cb (amay_ev _ _) rfl ?_)
 rfl
/-- Categories and labels. -/
theorem cnum_l (t : List UInt8) (hl : t.length ≤ 3) : ∀ (d i n : Nat), i + d = t.length → n ≤ 100 ^ i → f210.l0a 0 (B t) (n : Int) (t.length : Int) (i : Int) = some (match rowG (t.drop i) n with
  | none => .tup [.sc (.int .i64 0), .sc (.bool false)]
  | some m => .tup [.sc (.int .i64 (m : Int)), .sc (.bool (decide ((m : Int) < 64)))]) := by
 intro d
 induction d with
 | zero =>
  intro i n h hn
  rw [f210.l0a_eq]
  refine im (by rw [decide_eq_true_eq]; omega) ?_
  rw [List.drop_eq_nil_of_le (by omega)]
  rfl
 | succ d ih =>
  intro i n h hn
  have := pow100 (i := i) (by omega)
  have hi : i < t.length := by omega
  rw [f210.l0a_eq]
  have c1 : (0 : Int) ≤ (i : Int) := by omega
  have c2 : (i : Int) < ((B t).size : Int) := by rw [B_size]; omega
  refine ip (by rw [decide_eq_true_eq]; omega) (ip c1 (ip c2 ?_))
  rw [B_bt hi, List.drop_eq_getElem_cons hi, rowG]
  simp only [if_pos c1, if_pos c2, bs, tb]
  rw [bO]
  have hc : (decide ((t[i].toNat : Int) < 48) || decide ((t[i].toNat : Int) > 57)) = !isD t[i] := by
   unfold isD; rw [Bool.eq_iff_iff]; simp; omega
  rw [hc]
  by_cases hu : isD t[i] = true
  ·rw [if_pos hu, hu]
   refine im (by decide) ?_
   unfold isD at hu
   simp only [Bool.and_eq_true, decide_eq_true_eq] at hu
   have e1 : IntKind.u8.wrap ((t[i].toNat : Int) - 48) = (t[i].toNat : Int) - 48 := u8w (by omega) (by omega)
   rw [e1, w64 (x := (t[i].toNat : Int) - 48) (by omega) (by omega), w64 (x := (n : Int) * 10) (by omega) (by omega), w64 (x := (n : Int) * 10 + ((t[i].toNat : Int) - 48)) (by omega) (by omega), nx hi (by omega)]
   have := ih (i + 1) (n * 10 + (t[i].toNat - 48)) (by omega) (by rw [Nat.pow_succ]; have : 1 ≤ 100 ^ i := Nat.pow_pos (by decide); omega)
   rw [show ((n * 10 + (t[i].toNat - 48) : Nat) : Int) = (n : Int) * 10 + ((t[i].toNat : Int) - 48) by omega] at this
   exact this
  ·rw [if_neg hu]
   have : isD t[i] = false := by simpa using hu
   rw [this]
   exact ip (by decide) rfl
/-- A word as a category: the number, and whether it is one. -/
theorem cnum_ev (t : List UInt8) : ∃ m : Nat, D 210 [.sc (.string (B t))] = some (.tup [.sc (.int .i64 (m : Int)), .sc (.bool (numC t).isSome)]) ∧ ∀ c, numC t = some c → c = m ∧ m < 64 := by
 rw [f210_eq 0, bO]
 dsimp +instances only [tb]
 by_cases h : 1 ≤ t.length ∧ t.length ≤ 2
 ·have c0 : (0 : Int) < ((B t).size : Int) := by rw [B_size]; omega
  have cz : (decide (((B t).size : Int) < 1) || decide (((B t).size : Int) > 2)) = false := by
   rw [Bool.or_eq_false_iff, decide_eq_false_iff_not, decide_eq_false_iff_not, B_size]; omega
  obtain ⟨b, l, e⟩ : ∃ b l, t = b :: l := by
   rcases t with _ | ⟨b, l⟩
   ·simp at h
   ·exact ⟨b, l, rfl⟩
  have hb : bt (B t) 0 = (b.toNat : Int) := by
   have := B_bt (l := t) (i := 0) (by omega)
   rw [show ((0 : Nat) : Int) = 0 from rfl] at this
   rw [this]; simp [e]
  rw [cz]
  simp only [Bool.false_eq_true, if_false, if_pos c0, bs, tb, hb]
  rw [bA]
  dsimp +instances only [tb]
  have hq : (((B t).size : Int) == 2 && ((b.toNat : Int) == 48)) = decide (t.length = 2 ∧ t.head? = some 48) := by
   have hh0 : t.head? = some b := by rw [e]; rfl
   rw [hh0, B_size, Bool.eq_iff_iff, Bool.and_eq_true, beq_iff_eq, beq_iff_eq, decide_eq_true_iff]
   constructor
   ·rintro ⟨h1, hh⟩
    have : b.toNat = (48 : UInt8).toNat := by exact_mod_cast hh
    rw [UInt8.toNat_inj.1 this]; exact ⟨by omega, rfl⟩
   ·rintro ⟨h1, hh⟩
    have := Option.some.inj hh; rw [this]; exact ⟨by omega, rfl⟩
  rw [hq]
  by_cases hz : t.length = 2 ∧ t.head? = some 48
  ·refine ⟨0, ?_, ?_⟩
   ·rw [decide_eq_true hz]
    have : numC t = none := by unfold numC; rw [if_neg (fun hh => hh.1.2 hz)]
    rw [this]
    simp only [bs, tb]
    exact ip trivial rfl
   ·intro c hc
    unfold numC at hc; rw [if_neg (fun hh => hh.1.2 hz)] at hc; cases hc
  ·rw [decide_eq_false hz]
   simp only [bs, tb]
   have := cnum_l t (by omega) t.length 0 0 (by omega) (by simp)
   rw [List.drop_zero, rowG_eq] at this
   by_cases ha : t.all isD = true
   ·rw [if_pos ha] at this
    refine ⟨rowN t, im (by decide) (Eq.trans this ?_), fun c hc => ?_⟩
    ·show some (PV.tup [.sc (.int .i64 (rowN t : Int)), .sc (.bool (decide ((rowN t : Int) < 64)))]) = _
     congr 4
     unfold numC
     by_cases h6 : rowN t < 64
     ·rw [if_pos ⟨⟨h, hz⟩, ha, h6⟩, decide_eq_true (by omega)]; rfl
     ·rw [if_neg (fun hh => h6 hh.2.2), decide_eq_false (by omega)]; rfl
    ·unfold numC at hc
     split at hc
     ·rename_i hh; cases hc; exact ⟨rfl, hh.2.2⟩
     ·cases hc
   ·rw [if_neg ha] at this
    have hN : numC t = none := by unfold numC; rw [if_neg (fun hh => ha hh.2.1)]
    refine ⟨0, im (by decide) (Eq.trans this ?_), fun c hc => by rw [hN] at hc; cases hc⟩
    rw [hN]; rfl
 ·have hN : numC t = none := by unfold numC; rw [if_neg (fun hh => h hh.1.1)]
  have cz : (decide (((B t).size : Int) < 1) || decide (((B t).size : Int) > 2)) = true := by
   rw [Bool.or_eq_true, decide_eq_true_eq, decide_eq_true_eq, B_size]; omega
  refine ⟨0, ?_, fun c hc => by rw [hN] at hc; cases hc⟩
  rw [cz, hN]
  simp only [if_true, bs, tb]
  rfl
end Go.Den.EK
/- A text, cut at its commas: the plain part. -/
set_option linter.unusedVariables false
set_option linter.unusedSimpArgs false
namespace Go.Den
open Go Go.Proofs
theorem spc_ne : ∀ l, ∃ h t, spc l = h :: t
 | [] => ⟨_, _, rfl⟩
 | b :: l => by
  unfold spc
  split
  ·exact ⟨_, _, rfl⟩
  ·obtain ⟨h, t, e⟩ := spc_ne l
   rw [e]; exact ⟨_, _, rfl⟩
theorem spc_cons {b : UInt8} (hb : b ≠ 44) {l h : List UInt8} {t : List (List UInt8)} (e : spc l = h :: t) : spc (b :: l) = (b :: h) :: t := by
 unfold spc; rw [if_neg hb, e]
theorem spc_blank (l : List UInt8) : spc (44 :: l) = [] :: spc l := by
 conv => lhs; unfold spc
 rfl
theorem splitC_eq : ∀ l : List UInt8, Lib.splitK [44] 0 (Lib.count l [44]) l = spc l
 | [] => by
  rw [Lib.count_miss (by rfl)]; rfl
 | b :: l => by
  by_cases hb : b = 44
  ·subst hb
   have hix : Lib.index (44 :: l) [44] = ((0 : Nat) : Int) := by rw [Lib.index]; simp [List.isPrefixOf]
   rw [Lib.count_cons_eq, Nat.add_comm, Lib.splitK, if_neg (by rw [hix]; decide), hix, spc_blank, ← splitC_eq l]
   rfl
  ·have hp : ([44] : List UInt8).isPrefixOf (b :: l) = false := by simp [List.isPrefixOf, Ne.symm hb]
   have hix : Lib.index (b :: l) [44] = if Lib.index l [44] == -1 then -1 else Lib.index l [44] + 1 := by rw [Lib.index, hp]; simp
   have ih := splitC_eq l
   rw [Lib.count_cons_ne b 44 l hb]
   by_cases hm : Lib.index l [44] = -1
   ·rw [Lib.count_miss hm] at ih ⊢
    rw [spc_cons hb (h := l) (t := []) ih.symm]; rfl
   ·have hge := Lib.index_ge l [44]
    obtain ⟨j, hj⟩ : ∃ j : Nat, Lib.index l [44] = j := ⟨(Lib.index l [44]).toNat, by omega⟩
    have hix' : Lib.index (b :: l) [44] = ((j + 1 : Nat) : Int) := by rw [hix, if_neg (by rw [hj]; simp <;> omega), hj]; omega
    rw [Lib.count_hit (by simp) hj, Nat.add_comm] at ih ⊢
    rw [Lib.splitK, if_neg (by rw [hj]; simp <;> omega), hj] at ih
    rw [Lib.splitK, if_neg (by rw [hix']; simp <;> omega), hix']
    rw [spc_cons hb ih.symm]
    rfl
theorem splitB_spc (l : List UInt8) : Lib.splitB (B [44]) 0 (Lib.countB (B l) (B [44])) (B l) = (spc l).map B := by
 have h := Lib.splitB_data (B [44]) 0 (Lib.countB (B l) (B [44])) (B l)
 have e : Lib.splitK (B [44]).data.toList 0 (Lib.countB (B l) (B [44])) (B l).data.toList = spc l := splitC_eq l
 rw [e] at h
 rw [← h, List.map_map]
 conv => lhs; rw [← List.map_id (Lib.splitB (B [44]) 0 (Lib.countB (B l) (B [44])) (B l))]
 apply List.map_congr_left
 intro s _
 rcases s with ⟨⟨s⟩⟩
 rfl
theorem spc_word : ∀ (w r : List UInt8), (44 : UInt8) ∉ w → spc (w ++ 44 :: r) = w :: spc r
 | [], r, _ => spc_blank r
 | b :: w, r, h => by
  have hb : b ≠ 44 := fun e => h (by rw [e]; exact List.mem_cons_self)
  rw [List.cons_append]
  exact spc_cons hb (spc_word w r fun hm => h (List.mem_cons_of_mem _ hm))
theorem spc_last : ∀ w : List UInt8, (44 : UInt8) ∉ w → spc w = [w]
 | [], _ => rfl
 | b :: w, h => by
  have hb : b ≠ 44 := fun e => h (by rw [e]; exact List.mem_cons_self)
  exact spc_cons hb (spc_last w fun hm => h (List.mem_cons_of_mem _ hm))
theorem spc_len : ∀ l : List UInt8, (spc l).flatten.length + (spc l).length = l.length + 1
 | [] => rfl
 | b :: l => by
  have ih := spc_len l
  by_cases hb : b = 44
  ·subst hb
   rw [spc_blank, List.flatten_cons, List.nil_append, List.length_cons, List.length_cons]; omega
  ·obtain ⟨h0, t0, e0⟩ := spc_ne l
   rw [spc_cons hb e0]
   rw [e0] at ih
   simp only [List.flatten_cons, List.length_append, List.length_cons] at ih ⊢
   omega
end Go.Den
/- Labels read of texts, by the program. -/
set_option linter.unusedVariables false
set_option linter.unusedSimpArgs false
set_option maxRecDepth 100000
namespace Go.Den.EK
open Go Go.Proofs
def wpC (ws : List (List UInt8)) : List PV := ws.map fun w => .sc (.string (B w))
theorem wpC_len (ws : List (List UInt8)) : (wpC ws).length = ws.length := by simp [wpC]
theorem wpC_get {ws : List (List UInt8)} {i : Nat} (h : i < ws.length) : (wpC ws).getD i .top = .sc (.string (B ws[i])) := by simp [wpC, h]
theorem splc_ev (l : List UInt8) (hl : l.length ≤ 1000000) : D 209 [.sc (.string (B l)), .sc (.string (⟨#[44]⟩ : ByteArray))] = some (frozen 1 (wpC (spc l))) := by
 have e : D 209 [.sc (.string (B l)), .sc (.string (⟨#[44]⟩ : ByteArray))] = xSplit [.sc (.string (B l)), .sc (.string (⟨#[44]⟩ : ByteArray))] := (denI_eq 0 _ _).trans (by kernel_rfl)
 rw [e]
 refine (if_pos ⟨by rw [B_size]; omega, by decide⟩).trans ?_
 show some (strs (Lib.splitB (B [44]) 0 (Lib.countB (B l) (B [44])) (B l))) = _
 rw [splitB_spc]
 unfold strs wpC
 rw [List.map_map]
 rfl
def catR : Option Nat → PV
 | none => .tup [.sc (.int .u64 0), .sc (.bool false)]
 | some s => .tup [.sc (.int .u64 (s : Int)), .sc (.bool true)]
theorem cats_l (ws : List (List UInt8)) (hl : ws.length ≤ 1000001) : ∀ (d i s : Nat), i + d = ws.length → s < 2 ^ 64 → f185.l0a 0 (s : Int) ws.length (fun i => (wpC ws).getD i .top) (ws.length : Int) (i : Int) = some (catR (catsG s (ws.drop i))) := by
 intro d
 induction d with
 | zero =>
  intro i s h hs
  rw [f185.l0a_eq]
  refine im (by rw [decide_eq_true_eq]; omega) ?_
  rw [List.drop_eq_nil_of_le (by omega)]; rfl
 | succ d ih =>
  intro i s h hs
  have hi : i < ws.length := by omega
  rw [f185.l0a_eq]
  rw [Int.toNat_natCast, wpC_get hi, List.drop_eq_getElem_cons hi, catsG]
  refine ip (by rw [decide_eq_true_eq]; omega) (ip (by omega) (ip (by omega) (ip rfl ?_)))
  obtain ⟨m, e1, e2⟩ := cnum_ev ws[i]
  refine cb e1 rfl ?_
  show Option.bind (α := PV) (if (!(numC ws[i]).isSome) = true then some (.sc (.bool true)) else Option.bind (α := PV) (Option.bind (α := PV) (Option.bind (α := PV) (if 0 ≤ IntKind.u64.wrap (m : Int) then some (.sc (.bool (((s : Int).fdiv (2 ^ (min (IntKind.u64.wrap (m : Int)).toNat 64))) != 0))) else none) fun r3 => some (.sc (.bool r3.toBool))) fun r4 => some (.sc (.bool r4.toBool))) fun r5 => some (.sc (.bool r5.toBool))) (fun r6 => if r6.toBool = true then some (.tup [.sc (.int .u64 0), .sc (.bool false)]) else if 0 ≤ IntKind.u64.wrap (m : Int) then f185.l0a 0 (Go.bits .or .u64 (s : Int) (IntKind.u64.wrap ((1 : Int) * 2 ^ (min (IntKind.u64.wrap (m : Int)).toNat 64)))) ws.length (fun i => (wpC ws).getD i .top) (ws.length : Int) (IntKind.i64.wrap ((i : Int) + 1)) else none) = _
  cases hN : numC ws[i] with
  | none =>
   simp only [Option.isSome_none, Bool.not_false, if_true, bs, tb]
   rfl
  | some c =>
   obtain ⟨rfl, h64⟩ := e2 c hN
   have ew : IntKind.u64.wrap (c : Int) = (c : Int) := u64i (by omega) (by omega)
   have c0 : (0 : Int) ≤ (c : Int) := by omega
   have hp : (2 : Nat) ^ (c + 1) ≤ 2 ^ 64 := Nat.pow_le_pow_right (by decide) h64
   rw [Nat.pow_succ] at hp
   have hpc : ((2 : Int) ^ c) = ((2 ^ c : Nat) : Int) := by rw [Int.natCast_pow]; rfl
   rw [ew, Int.toNat_natCast, show min c 64 = c by omega]
   simp only [Option.isSome_some, Bool.not_true, Bool.false_eq_true, if_false, if_pos c0, bs, tb]
   have efd : ((s : Nat) : Int).fdiv ((2 ^ c : Nat) : Int) = ((s / 2 ^ c : Nat) : Int) := by rw [Int.fdiv_eq_ediv_of_nonneg _ (by omega), Int.natCast_ediv]
   rw [hpc, Int.one_mul, efd]
   have e0 : (((s / 2 ^ c : Nat) : Int) != 0) = !decide (s / 2 ^ c = 0) := by
    rw [Bool.eq_iff_iff, bne_iff_ne, Bool.not_eq_true', decide_eq_false_iff_not]; omega
   rw [e0]
   by_cases hz : s / 2 ^ c = 0
   ·rw [if_pos hz, decide_eq_true hz]
    refine im (by decide) ?_
    have h1 : s < 2 ^ c := by
     apply Classical.byContradiction; intro hn
     have : 1 ≤ s / 2 ^ c := (Nat.le_div_iff_mul_le (Nat.pow_pos (by decide))).2 (by omega)
     omega
    have eu : IntKind.u64.wrap ((2 ^ c : Nat) : Int) = ((2 ^ c : Nat) : Int) := u64i (by omega) (by omega)
    have eo : Go.bits .or .u64 (s : Int) ((2 ^ c : Nat) : Int) = ((s + 2 ^ c : Nat) : Int) := by
     rw [(bits_nat .u64 64 (by decide) (fun n h0 h1 => u64i h0 (by simpa using h1)) s (2 ^ c) hs (by omega)).2]
     have := Nat.two_pow_add_eq_or_of_lt h1 1
     rw [Nat.mul_one] at this
     rw [Nat.or_comm, ← this, Nat.add_comm]
    rw [eu, eo, nx hi (by omega)]
    exact ih (i + 1) _ (by omega) (by omega)
   ·rw [if_neg hz, decide_eq_false hz]
    exact ip (by decide) rfl
theorem cats_ev (t : List UInt8) (hl : t.length ≤ 1000000) : D 185 [.sc (.string (B t))] = some (catR (catsP t)) := by
 rw [f185_eq 0]
 have he : ((B t).toList == (⟨#[]⟩ : ByteArray).toList) = decide (t = []) := by
  rw [show (⟨#[]⟩ : ByteArray) = B [] from rfl, B_toList, B_toList, Bool.eq_iff_iff, beq_iff_eq, decide_eq_true_iff]
 rw [he]
 unfold catsP
 by_cases ht : t = []
 ·rw [if_pos ht]; exact ip (decide_eq_true ht) rfl
 ·rw [if_neg ht]
  refine im (by rw [decide_eq_true_eq]; exact ht) (cb (splc_ev t hl) (by simp [hasSh, frozen, PV.isLst]) ?_)
  have hn := spc_len t
  have hl2 : (spc t).length ≤ 1000001 := by omega
  have := cats_l (spc t) hl2 (spc t).length 0 0 (Nat.zero_add _) (by decide)
  rw [List.drop_zero] at this
  show f185.l0a 0 0 (wpC (spc t)).length (fun i => (wpC (spc t)).getD i .top) ((wpC (spc t)).length : Int) 0 = _
  rw [wpC_len]
  exact this
theorem itoac_ev {n : Int} (h : I64 n) : D 112 [.sc (.int .i64 n)] = some (.sc (.string (B (Lib.itoa n)))) := by
 have e : D 112 [.sc (.int .i64 n)] = xItoa [.sc (.int .i64 n)] := (denI_eq 0 _ _).trans (by kernel_rfl)
 rw [e]
 unfold xItoa
 exact if_pos ⟨h.1, h.2⟩
def levR (h : List UInt8) : Nat → Nat → Int → Int
 | 0, _, l => l
 | d + 1, i, l => levR h d (i + 1) (if Lib.decDigits i = h then (i : Int) else l)
theorem levR_no {h : List UInt8} : ∀ (d i : Nat) (l : Int), (∀ n, i ≤ n → n < i + d → Lib.decDigits n ≠ h) → levR h d i l = l
 | 0, _, _, _ => rfl
 | d + 1, i, l, hn => by
  rw [levR, if_neg (hn i (by omega) (by omega))]
  exact levR_no d (i + 1) l fun n h1 h2 => hn n (by omega) (by omega)
theorem dd_inj {m n : Nat} (h : Lib.decDigits m = Lib.decDigits n) : m = n := by rw [← dd_val m, h, dd_val]
theorem levR_yes {h : List UInt8} {n : Nat} (hn : Lib.decDigits n = h) : ∀ (d i : Nat) (l : Int), i ≤ n → n < i + d → levR h d i l = (n : Int)
 | 0, i, l, h1, h2 => by omega
 | d + 1, i, l, h1, h2 => by
  rw [levR]
  by_cases hi : i = n
  ·subst hi
   rw [if_pos hn]
   exact levR_no d (i + 1) _ fun m h3 h4 e => by have := dd_inj (e.trans hn.symm); omega
  ·exact levR_yes hn d (i + 1) _ (by omega) (by omega)
theorem levR_eq (h : List UInt8) : levR h 16 0 (-1) = match levP h with
  | some n => (n : Int)
  | none => -1 := by
 unfold levP
 cases hf : (List.range 16).find? (fun n => Lib.decDigits n == h) with
 | none =>
  have := List.find?_eq_none.1 hf
  exact levR_no 16 0 (-1) fun n _ h2 e => this n (List.mem_range.2 (by omega)) (by rw [e]; exact beq_self_eq_true h)
 | some n =>
  have h1 := List.find?_some hf
  have h2 := List.mem_range.1 (List.mem_of_find?_eq_some hf)
  exact levR_yes (beq_iff_eq.1 h1) 16 0 (-1) (by omega) (by omega)
theorem levP_le {h : List UInt8} {n : Nat} (e : levP h = some n) : n ≤ 15 := by
 unfold levP at e
 have := List.mem_range.1 (List.mem_of_find?_eq_some e)
 omega
def labF (c : Option Nat) (l : Int) (more : Bool) : Bool := match c with
 | none => false
 | some s => !(decide (l < 0) || !(more == (s != 0)) || (l == 15 && s == 18446744073709551615))
theorem lab_l (hd rest : List UInt8) (hr : rest.length ≤ 1000000) (more : Bool) : ∀ (d i : Nat) (l : Int), i + d = 16 → ∃ x y, f137.l0a 0 (B hd) (B rest) more (i : Int) 0 0 l 0 = some (.tup [.agg [.sc (.int .i64 x), .sc (.int .u64 y)], .sc (.bool (labF (catsP rest) (levR hd d i l) more))]) := by
 intro d
 induction d with
 | zero =>
  intro i l h
  rw [f137.l0a_eq]
  have hi : i = 16 := by omega
  subst hi
  have hl16 : ∀ u v : Option PV, (if decide (((16 : Nat) : Int) < 16) = true then u else v) = v := fun u v => im (by decide) rfl
  rw [hl16]
  have hc := cats_ev rest hr
  rw [levR]
  cases hC : catsP rest with
  | none =>
   rw [hC] at hc
   refine ⟨0, 0, cb hc rfl ?_⟩
   rfl
  | some s =>
   rw [hC] at hc
   have e1 : (((s : Nat) : Int) != 0) = (s != 0) := by rw [Bool.eq_iff_iff, bne_iff_ne, bne_iff_ne]; omega
   have e2 : (((s : Nat) : Int) == 18446744073709551615) = (s == 18446744073709551615) := by rw [Bool.eq_iff_iff, beq_iff_eq, beq_iff_eq]; omega
   have go : ∀ {r : Option PV}, (if (decide (l < 0) || !(more == (s != 0)) || (l == 15 && s == 18446744073709551615)) = true then some (PV.tup [.agg [.sc (.int .i64 0), .sc (.int .u64 0)], .sc (.bool false)]) else some (.tup [.agg [.sc (.int .i64 l), .sc (.int .u64 (s : Int))], .sc (.bool true)])) = r →
     ((D 185 [.sc (.string (B rest))]).bind fun r4 => if hasSh (.tup [(.int .u64), .bool]) r4 = true then
      Option.bind (α := PV) (if (!((cel 1 r4.parts).toBool)) = true then some (.sc (.bool true)) else some (.sc (.bool (decide (l < 0))))) fun r5 =>
      Option.bind (α := PV) (if r5.toBool = true then some (.sc (.bool true)) else some (.sc (.bool (!(more == (((cel 0 r4.parts).toInt) != 0)))))) fun r6 =>
      Option.bind (α := PV) (if r6.toBool = true then some (.sc (.bool true)) else Option.bind (α := PV) ((D 183 []).bind fun r7 => if hasSh (.agg [(.int .i64), (.int .u64)]) r7 = true then some (.sc (.bool ((l == ((cel 0 r7.cells).toInt)) && ((((cel 0 r4.parts).toInt) == ((cel 1 r7.cells).toInt)) && true)))) else none) fun r8 => some (.sc (.bool r8.toBool))) fun r9 =>
      if r9.toBool = true then some (PV.tup [.agg [.sc (.int .i64 0), .sc (.int .u64 0)], .sc (.bool false)]) else some (.tup [.agg [.sc (.int .i64 l), .sc (.int .u64 ((cel 0 r4.parts).toInt))], .sc (.bool true)]) else none) = r := by
    intro r hgo
    refine cb hc rfl ?_
    have ht : D 183 [] = some (.agg [.sc (.int .i64 15), .sc (.int .u64 18446744073709551615)]) := f183_eq 0
    simp only [ht, bs]
    show Option.bind (α := PV) (if false = true then some (.sc (.bool true)) else some (.sc (.bool (decide (l < 0))))) (fun r5 =>
      Option.bind (α := PV) (if r5.toBool = true then some (.sc (.bool true)) else some (.sc (.bool (!(more == (((s : Nat) : Int) != 0)))))) fun r6 =>
      Option.bind (α := PV) (if r6.toBool = true then some (.sc (.bool true)) else some (.sc (.bool ((l == 15) && ((((s : Nat) : Int) == 18446744073709551615) && true))))) fun r9 =>
      if r9.toBool = true then some (PV.tup [.agg [.sc (.int .i64 0), .sc (.int .u64 0)], .sc (.bool false)]) else some (PV.tup [.agg [.sc (.int .i64 l), .sc (.int .u64 (s : Int))], .sc (.bool true)])) = _
    rw [e1, e2, bO, bO, bO, Bool.and_true]
    exact hgo
   by_cases hb : (decide (l < 0) || !(more == (s != 0)) || (l == 15 && s == 18446744073709551615)) = true
   ·refine ⟨0, 0, go (ip hb ?_)⟩
    unfold labF; dsimp only; rw [hb]; rfl
   ·refine ⟨l, s, go (im hb ?_)⟩
    have : (decide (l < 0) || !(more == (s != 0)) || (l == 15 && s == 18446744073709551615)) = false := by simpa using hb
    unfold labF; dsimp only; rw [this]; rfl
 | succ d ih =>
  intro i l h
  obtain ⟨x, y, e⟩ := ih (i + 1) (if Lib.decDigits i = hd then (i : Int) else l) (by omega)
  refine ⟨x, y, ?_⟩
  rw [f137.l0a_eq]
  refine ip (by rw [decide_eq_true_eq]; omega) (cb (itoac_ev (n := (i : Int)) (by unfold I64; omega)) rfl ?_)
  rw [levR, ← e]
  have eb : ((B (Lib.itoa (i : Int))).toList == (B hd).toList) = decide (Lib.decDigits i = hd) := by
   rw [B_toList, B_toList, itoa_nat, Bool.eq_iff_iff, beq_iff_eq, decide_eq_true_iff]
  show (if ((B (Lib.itoa (i : Int))).toList == (B hd).toList) = true then _ else _) = _
  rw [eb, nx (n := 16) (show i < 16 by omega) (by decide)]
  by_cases hi : Lib.decDigits i = hd
  ·rw [if_pos hi]
   exact ip (decide_eq_true hi) rfl
  ·rw [if_neg hi]
   exact im (by rw [decide_eq_true_eq]; exact hi) rfl
theorem lab_ev (t : List UInt8) (hl : t.length ≤ 1000000) : ∃ x y, D 137 [.sc (.string (B t))] = some (.tup [.agg [.sc (.int .i64 x), .sc (.int .u64 y)], .sc (.bool (labP t))]) := by
 rw [f137_eq 0]
 have he : ((B t).toList == (⟨#[116, 111, 112]⟩ : ByteArray).toList) = decide (t = topT) := by
  rw [show (⟨#[116, 111, 112]⟩ : ByteArray) = B topT from rfl, B_toList, B_toList, Bool.eq_iff_iff, beq_iff_eq, decide_eq_true_iff]
 rw [he]
 unfold labP
 by_cases ht : t = topT
 ·refine ⟨15, 18446744073709551615, ip (decide_eq_true ht) (cb (f183_eq 0) rfl ?_)⟩
  rw [ht, beq_self_eq_true, Bool.true_or]
  rfl
 ·have hc := cutg_ev 58 hl
  rw [cutg_C] at hc
  have hlr : ((cutC t).2.getD []).length ≤ t.length := by
   have : ∀ t : List UInt8, ((cutC t).2.getD []).length ≤ t.length := by
    intro t
    induction t with
    | nil => exact Nat.le_refl _
    | cons b t ih =>
     rw [cutC]
     split
     ·simp
     ·simp only [List.length_cons]; omega
   exact this t
  obtain ⟨x, y, e⟩ := lab_l (cutC t).1 ((cutC t).2.getD []) (by omega) (cutC t).2.isSome 16 0 (-1) rfl
  refine ⟨x, y, im (by rw [decide_eq_true_eq]; exact ht) (cb hc rfl ?_)⟩
  refine Eq.trans e ?_
  rw [show (t == topT) = false by rw [beq_eq_false_iff_ne]; exact ht, Bool.false_or, levR_eq]
  congr 5
  unfold labF
  cases hC : catsP ((cutC t).2.getD []) with
  | none => cases levP (cutC t).1 <;> rfl
  | some s =>
   cases hL : levP (cutC t).1 with
   | none => rfl
   | some n =>
    dsimp only
    have hn := levP_le hL
    have e1 : decide ((n : Int) < 0) = false := by rw [decide_eq_false_iff_not]; omega
    have e2 : ((n : Int) == 15) = (n == 15) := by rw [Bool.eq_iff_iff, beq_iff_eq, beq_iff_eq]; omega
    rw [e1, e2, Bool.false_or, Bool.not_or, Bool.not_not]
end Go.Den.EK
/- Right, and how deep: the program's answers. -/
set_option linter.unusedVariables false
set_option linter.unusedSimpArgs false
set_option maxRecDepth 100000
namespace Go.Den.EK
open Go Go.Proofs
theorem i64 (n : Int) (m : Int) : (n == m) = decide (n = m) := by rw [Bool.eq_iff_iff, beq_iff_eq, decide_eq_true_iff]
theorem fitn_ev (c : UInt8) (n : Nod) (hs : n.val.text.size ≤ 1000000) : D 84 [.sc (.int .u8 (c.toNat : Int)), n.pv] = some (.sc (.bool (fitsA c n))) := by
 obtain ⟨kind, op, v, a, b, l⟩ := n
 refine (f84_eq 0 _ _ _ _ _ _ _ _ _ _ _ _ _ _ _ _).trans ?_
 have hq : ∀ m : UInt8, (((c.toNat : Nat) : Int) == (m.toNat : Int)) = decide (c = m) := by
  intro m
  rw [Bool.eq_iff_iff, beq_iff_eq, decide_eq_true_iff]
  constructor
  ·intro h; exact UInt8.toNat_inj.1 (by omega)
  ·intro h; rw [h]
 have q1 := hq 108; have q2 := hq 114; have q3 := hq 110; have q4 := hq 116
 unfold fitsA
 by_cases h1 : c = 108
 ·rw [if_pos h1]; exact ip (by rw [h1]; rfl) rfl
 rw [if_neg h1]
 refine im (by show ¬ (((c.toNat : Nat) : Int) == ((108 : UInt8).toNat : Int)) = true; rw [q1, decide_eq_true_eq]; exact h1) ?_
 have key : Option.bind (α := PV) (β := PV) (if (kind == 3) = true then some (.sc (.bool true)) else some (.sc (.bool (kind == 4)))) (fun r1 => Option.bind (α := PV) (β := PV) (if r1.toBool = true then some (.sc (.bool true)) else some (.sc (.bool (kind == 2)))) fun r2 => some (PV.sc (.bool r2.toBool))) = some (.sc (.bool (kind == 3 || kind == 4 || kind == 2))) := by
  rw [bO, bO]; rfl
 by_cases h2 : c = 114
 ·rw [if_pos (show c = 114 ∨ c = 110 from .inl h2)]
  exact ip (by rw [h2]; rfl) key
 refine im (by show ¬ (((c.toNat : Nat) : Int) == ((114 : UInt8).toNat : Int)) = true; rw [q2, decide_eq_true_eq]; exact h2) ?_
 by_cases h3 : c = 110
 ·rw [if_pos (show c = 114 ∨ c = 110 from .inr h3)]
  exact ip (by rw [h3]; rfl) key
 rw [if_neg (show ¬ (c = 114 ∨ c = 110) by rintro (h | h); exact h2 h; exact h3 h)]
 refine im (by show ¬ (((c.toNat : Nat) : Int) == ((110 : UInt8).toNat : Int)) = true; rw [q3, decide_eq_true_eq]; exact h3) ?_
 by_cases h4 : c = 116
 ·rw [if_pos h4]
  refine ip (by rw [h4]; rfl) ?_
  obtain ⟨x, y, e⟩ := lab_ev (tb8 v.text) (by rw [tb8_len]; exact hs)
  rw [tb8_B] at e
  refine cb e rfl ?_
  rw [bA, bA]
  show some (PV.sc (.bool ((labP (tb8 v.text) && kind == 1) && v.kind == 2))) = some (PV.sc (.bool ((kind == 1 && v.kind == 2) && labP (tb8 v.text))))
  congr 3
  cases labP (tb8 v.text) <;> cases (kind == 1) <;> cases (v.kind == 2) <;> rfl
 ·rw [if_neg h4]
  exact im (by show ¬ (((c.toNat : Nat) : Int) == ((116 : UInt8).toNat : Int)) = true; rw [q4, decide_eq_true_eq]; exact h4) rfl
theorem right_text {n : Nod} (h : n.rightN = true) : n.val.text.size ≤ 256 := by
 cases rgt h with
 | str t ht hp => exact ht
 | num => exact Nat.zero_le _
 | tru => exact Nat.zero_le _
 | lost => exact Nat.zero_le _
 | one => exact Nat.zero_le _
 | range => exact Nat.zero_le _
 | neg => exact Nat.zero_le _
 | bin => exact Nat.zero_le _
 | call => exact Nat.zero_le _
theorem fits_le {f : Int} {n : Nat} (h : fitsF f n = true) : n ≤ 9 := by
 unfold fitsF at h
 rcases row_cases f with e | ⟨a, b, k, e, ha, hb, hl⟩
 ·rw [e] at h; cases h
 ·rw [e] at h
  simp only [Bool.and_eq_true, decide_eq_true_eq] at h
  have := isD_rng hb
  omega
theorem called_l (kind op : Int) (v : Vl) (a b : Rf) (l : List Nod) (hl : l.length ≤ 1000000000) (ht : ∀ n ∈ l, n.val.text.size ≤ 1000000) : ∀ (d i : Nat), i + d = l.length → f85.l0a 0 (pvs l).length (fun i => (pvs l).getD i .top) (l.length : Int) (i : Int) kind op v.kind v.num v.text a.row a.col a.hr a.hc b.row b.col b.hr b.hc (pvs l).length (fun i => (pvs l).getD i .top) = some (.sc (.bool (fitsL op i (l.drop i)))) := by
 intro d
 induction d with
 | zero =>
  intro i h
  rw [f85.l0a_eq]
  refine im (by rw [decide_eq_true_eq]; omega) ?_
  rw [List.drop_eq_nil_of_le (by omega)]; rfl
 | succ d ih =>
  intro i h
  have hi : i < l.length := by omega
  rw [f85.l0a_eq]
  rw [Int.toNat_natCast, pvs_get hi, List.drop_eq_getElem_cons hi, fitsL]
  refine ip (by rw [decide_eq_true_eq]; omega) (ip (by omega) (ip (by rw [pvs_len]; omega) (ip (sh_pv _) (cb (kind_ev op (i := i) (by omega)) rfl ?_))))
  have hf := fitn_ev (kindF op i) l[i] (ht _ (List.getElem_mem hi))
  rw [← rb_pv] at hf
  refine cb hf rfl ?_
  by_cases hp : fitsA (kindF op i) l[i] = true
  ·rw [hp, Bool.true_and]
   refine im (by decide) ?_
   rw [nx hi (by omega)]
   exact ih (i + 1) (by omega)
  ·have : fitsA (kindF op i) l[i] = false := by simpa using hp
   rw [this, Bool.false_and]
   exact ip rfl rfl
/-- One node, whatever is below it. -/
theorem one_l (kind op : Int) (v : Vl) (a b : Rf) (l : List Nod) (hk : (Nod.mk kind op v a b l).ok) (ht : ∀ n ∈ l, n.val.text.size ≤ 1000000) (i : Int) (hi : ¬ i < (l.length : Int)) :
  f43.l0a 0 (pvs l).length (fun i => (pvs l).getD i .top) (l.length : Int) i kind op v.kind v.num v.text a.row a.col a.hr a.hc b.row b.col b.hr b.hc (pvs l).length (fun i => (pvs l).getD i .top) = some (.sc (.bool (one1 kind op v a b l))) := by
 rw [Nod.ok] at hk
 obtain ⟨⟨k1, k2⟩, _, k3⟩ := hk
 rw [f43.l0a_eq]
 refine im (by rw [decide_eq_true_eq]; exact hi) (cb (has_ev kind op v a b l) rfl ?_)
 have hf := fun c n h => fitn_ev c n h
 unfold one1
 by_cases h1 : kind = 1
 ·rw [if_pos h1]
  refine ip (by rw [h1]; rfl) ?_
  show Option.bind (α := PV) (β := PV) (if (Go.bits .andNot .u64 (hasZ (!(op == 0)) (!isZV v) (!isZR a) (!isZR b) (!l.isEmpty)) 2 == 0) = true then Option.bind (α := PV) (β := PV) (Option.bind (α := PV) (β := PV) ((D 82 [Vl.pv v]).bind fun r3 => if hasSh .bool r3 = true then some (.sc (.bool r3.toBool)) else none) fun r4 => some (.sc (.bool r4.toBool))) (fun r5 => some (.sc (.bool r5.toBool))) else some (.sc (.bool false))) (fun r6 => some (.sc (.bool r6.toBool))) = _
  rw [ma2]
  simp only [lit_ev v k2 (by omega), bs, shb, if_true, tb]
  rw [bA]; rfl
 rw [if_neg h1]
 refine im (by simpa using h1) ?_
 by_cases h2 : kind = 2
 ·rw [if_pos h2]
  refine ip (by rw [h2]; rfl) ?_
  show some (PV.sc (.bool (hasZ (!(op == 0)) (!isZV v) (!isZR a) (!isZR b) (!l.isEmpty) == 0))) = _
  rw [ma0]
 rw [if_neg h2]
 refine im (by simpa using h2) ?_
 by_cases h3 : kind = 3
 ·rw [if_pos h3]
  refine ip (by rw [h3]; rfl) ?_
  show Option.bind (α := PV) (β := PV) (if (Go.bits .andNot .u64 (hasZ (!(op == 0)) (!isZV v) (!isZR a) (!isZR b) (!l.isEmpty)) 4 == 0) = true then Option.bind (α := PV) (β := PV) (Option.bind (α := PV) (β := PV) ((D 83 [a.pv]).bind fun r3 => if hasSh .bool r3 = true then some (.sc (.bool r3.toBool)) else none) fun r4 => some (.sc (.bool r4.toBool))) (fun r5 => some (.sc (.bool r5.toBool))) else some (.sc (.bool false))) (fun r6 => some (.sc (.bool r6.toBool))) = _
  rw [ma4]
  simp only [nref_ev, bs, shb, if_true, tb]
  rw [bA]; rfl
 rw [if_neg h3]
 refine im (by simpa using h3) ?_
 by_cases h4 : kind = 4
 ·rw [if_pos h4]
  refine ip (by rw [h4]; rfl) ?_
  show Option.bind (α := PV) (β := PV) (if (Go.bits .andNot .u64 (hasZ (!(op == 0)) (!isZV v) (!isZR a) (!isZR b) (!l.isEmpty)) 12 == 0) = true then Option.bind (α := PV) (β := PV) (Option.bind (α := PV) (β := PV) ((D 83 [a.pv]).bind fun r3 => if hasSh .bool r3 = true then some (.sc (.bool r3.toBool)) else none) fun r4 => some (.sc (.bool r4.toBool))) (fun r5 => some (.sc (.bool r5.toBool))) else some (.sc (.bool false)))
   (fun r14 => Option.bind (α := PV) (β := PV) (if r14.toBool = true then Option.bind (α := PV) (β := PV) (Option.bind (α := PV) (β := PV) ((D 83 [b.pv]).bind fun r3 => if hasSh .bool r3 = true then some (.sc (.bool r3.toBool)) else none) fun r4 => some (.sc (.bool r4.toBool))) (fun r5 => some (.sc (.bool r5.toBool))) else some (.sc (.bool false))) fun r18 => some (.sc (.bool r18.toBool))) = _
  rw [ma12]
  simp only [nref_ev, bs, shb, if_true, tb]
  rw [bA, bA]; rfl
 rw [if_neg h4]
 refine im (by simpa using h4) ?_
 by_cases h5 : kind = 5
 ·rw [if_pos h5]
  refine ip (by rw [h5]; rfl) ?_
  dsimp +instances only [ti]
  rw [ma16, bA]
  dsimp +instances only [tb]
  have hlen : ((((pvs l).length : Nat) : Int) == 1) = (l.length == 1) := by rw [pvs_len, Bool.eq_iff_iff, beq_iff_eq, beq_iff_eq]; omega
  rw [hlen]
  rcases l with _ | ⟨x, _ | ⟨y, l⟩⟩
  ·rw [show (([] : List Nod).length == 1) = false from rfl, Bool.and_false]; rfl
  ·rw [show ([x].length == 1) = true from rfl, Bool.and_true]
   have e := hf 118 x (ht x (List.mem_cons_self ..))
   rw [← rb_pv] at e
   have c0 : (0 : Int) < (((pvs [x]).length : Nat) : Int) := by rw [pvs_len]; simp
   have hs : hasSh shN ((pvs [x]).getD 0 .top) = true := sh_pv x
   show Option.bind (α := PV) (β := PV) (if _ = true then Option.bind (α := PV) (β := PV) (Option.bind (α := PV) (β := PV) (if 0 < (((pvs [x]).length : Nat) : Int) then if hasSh shN ((pvs [x]).getD 0 .top) = true then Option.bind (α := PV) (β := PV) (Option.bind (α := PV) (β := PV) ((D 84 [.sc (.int .u8 (((118 : UInt8).toNat : Nat) : Int)), rbN x.pv]).bind fun r20 => if hasSh .bool r20 = true then some (.sc (.bool r20.toBool)) else none) fun r21 => some (.sc (.bool r21.toBool))) (fun r22 => some (.sc (.bool r22.toBool))) else none else none) fun r23 => some (.sc (.bool r23.toBool))) (fun r24 => some (.sc (.bool r24.toBool))) else some (.sc (.bool false))) (fun r25 => some (.sc (.bool r25.toBool))) = _
   simp only [if_pos c0, if_pos hs, e, bs, shb, if_true, tb]
   rw [bA]; rfl
  ·rw [show ((x :: y :: l).length == 1) = false by rw [beq_eq_false_iff_ne]; simp, Bool.and_false]; rfl
 rw [if_neg h5]
 refine im (by simpa using h5) ?_
 by_cases h6 : kind = 6
 ·rw [if_pos h6]
  refine ip (by rw [h6]; rfl) ?_
  dsimp +instances only [ti]
  rw [ma17, bA]
  dsimp +instances only [tb]
  rw [bA]
  dsimp +instances only [tb]
  rw [bA]
  dsimp +instances only [tb]
  have hlen : ((((pvs l).length : Nat) : Int) == 2) = (l.length == 2) := by rw [pvs_len, Bool.eq_iff_iff, beq_iff_eq, beq_iff_eq]; omega
  rw [hlen]
  rcases l with _ | ⟨x, _ | ⟨y, _ | ⟨z, l⟩⟩⟩
  ·rw [show (([] : List Nod).length == 2) = false from rfl]
   simp only [Bool.and_false]; rfl
  ·rw [show ([x].length == 2) = false from rfl]
   simp only [Bool.and_false]; rfl
  ·rw [show ([x, y].length == 2) = true from rfl, Bool.and_true]
   have e := hf 118 x (ht x (List.mem_cons_self ..))
   have e2 := hf 118 y (ht y (List.mem_cons_of_mem _ (List.mem_cons_self ..)))
   rw [← rb_pv] at e e2
   have c0 : (0 : Int) < (((pvs [x, y]).length : Nat) : Int) := by rw [pvs_len]; simp
   have c1 : (1 : Int) < (((pvs [x, y]).length : Nat) : Int) := by rw [pvs_len]; simp
   have hs : hasSh shN ((pvs [x, y]).getD 0 .top) = true := sh_pv x
   have hs2 : hasSh shN ((pvs [x, y]).getD 1 .top) = true := sh_pv y
   show Option.bind (α := PV) (β := PV) (if _ = true then Option.bind (α := PV) (β := PV) (Option.bind (α := PV) (β := PV) (if 0 < (((pvs [x, y]).length : Nat) : Int) then if hasSh shN ((pvs [x, y]).getD 0 .top) = true then Option.bind (α := PV) (β := PV) (Option.bind (α := PV) (β := PV) ((D 84 [.sc (.int .u8 (((118 : UInt8).toNat : Nat) : Int)), rbN x.pv]).bind fun r20 => if hasSh .bool r20 = true then some (.sc (.bool r20.toBool)) else none) fun r21 => some (.sc (.bool r21.toBool))) (fun r22 => some (.sc (.bool r22.toBool))) else none else none) fun r23 => some (.sc (.bool r23.toBool))) (fun r24 => some (.sc (.bool r24.toBool))) else some (.sc (.bool false)))
    (fun r34 => Option.bind (α := PV) (β := PV) (if r34.toBool = true then Option.bind (α := PV) (β := PV) (Option.bind (α := PV) (β := PV) (if 1 < (((pvs [x, y]).length : Nat) : Int) then if hasSh shN ((pvs [x, y]).getD 1 .top) = true then Option.bind (α := PV) (β := PV) (Option.bind (α := PV) (β := PV) ((D 84 [.sc (.int .u8 (((118 : UInt8).toNat : Nat) : Int)), rbN y.pv]).bind fun r20 => if hasSh .bool r20 = true then some (.sc (.bool r20.toBool)) else none) fun r21 => some (.sc (.bool r21.toBool))) (fun r22 => some (.sc (.bool r22.toBool))) else none else none) fun r23 => some (.sc (.bool r23.toBool))) (fun r24 => some (.sc (.bool r24.toBool))) else some (.sc (.bool false))) fun r40 => some (.sc (.bool r40.toBool))) = _
   simp only [if_pos c0, if_pos c1, if_pos hs, if_pos hs2, e, e2, bs, shb, if_true, tb]
   rw [bA, bA]
   dsimp only [tb]
   rw [Bool.and_assoc (_ && _) (fitsA 118 x) (fitsA 118 y)]
  ·rw [show ((x :: y :: z :: l).length == 2) = false by rw [beq_eq_false_iff_ne]; simp]
   simp only [Bool.and_false]; rfl
 rw [if_neg h6]
 refine im (by simpa using h6) ?_
 by_cases h7 : kind = 7
 ·rw [if_pos h7]
  refine ip (by rw [h7]; rfl) ?_
  have hc : D 85 [Nod.pv (.mk kind op v a b l)] = some (.sc (.bool (fitsF op l.length && fitsL op 0 l))) := by
   refine (f85_eq 0 _ _ _ _ _ _ _ _ _ _ _ _ _ _ _).trans ?_
   have hfi := fits_ev op (n := (pvs l).length) (by rw [pvs_len]; omega)
   refine cb hfi rfl ?_
   rw [pvs_len]
   by_cases hp : fitsF op l.length = true
   ·rw [hp, Bool.true_and]
    refine im (by decide) ?_
    have := called_l kind op v a b l (by have := fits_le hp; omega) ht l.length 0 (Nat.zero_add _)
    rw [List.drop_zero, pvs_len] at this
    exact this
   ·have : fitsF op l.length = false := by simpa using hp
    rw [this, Bool.false_and]
    exact ip rfl rfl
  dsimp +instances only [ti]
  rw [ma17]
  show Option.bind (α := PV) (β := PV) (if _ = true then Option.bind (α := PV) (β := PV) ((D 85 [Nod.pv (.mk kind op v a b l)]).bind fun r41 => if hasSh .bool r41 = true then some (.sc (.bool r41.toBool)) else none) (fun r42 => some (.sc (.bool r42.toBool))) else some (.sc (.bool false))) (fun r43 => some (.sc (.bool r43.toBool))) = _
  simp only [hc, bs, shb, if_true, tb]
  rw [bA, ← Bool.and_assoc]; rfl
 rw [if_neg h7]
 exact im (by simpa using h7) rfl
theorem right_l (kind op : Int) (v : Vl) (a b : Rf) (l : List Nod) (hk : (Nod.mk kind op v a b l).ok) (IH : ∀ n ∈ l, D 43 [n.pv] = some (.sc (.bool n.rightN))) : ∀ (d i : Nat), i + d = l.length → (∀ n ∈ l.take i, n.rightN = true) →
  f43.l0a 0 (pvs l).length (fun i => (pvs l).getD i .top) (l.length : Int) (i : Int) kind op v.kind v.num v.text a.row a.col a.hr a.hc b.row b.col b.hr b.hc (pvs l).length (fun i => (pvs l).getD i .top) = some (.sc (.bool (rightsN (l.drop i) && one1 kind op v a b l))) := by
 have hk2 := hk
 rw [Nod.ok] at hk2
 obtain ⟨_, _, k3⟩ := hk2
 intro d
 induction d with
 | zero =>
  intro i h hr
  rw [List.take_of_length_le (by omega)] at hr
  rw [one_l kind op v a b l hk (fun n hn => by have := right_text (hr n hn); omega) i (by omega), List.drop_eq_nil_of_le (by omega)]
  rfl
 | succ d ih =>
  intro i h hr
  have hi : i < l.length := by omega
  rw [f43.l0a_eq]
  rw [Int.toNat_natCast, pvs_get hi, List.drop_eq_getElem_cons hi, rightsN]
  have hf := IH _ (List.getElem_mem hi)
  have hf2 := hf
  rw [← rb_pv] at hf2
  refine ip (by rw [decide_eq_true_eq]; omega) (ip (by omega) (ip (by rw [pvs_len]; omega) (ip (sh_pv _) (cb hf2 rfl ?_))))
  by_cases hp : l[i].rightN = true
  ·rw [hp, Bool.true_and]
   refine im (by decide) ?_
   rw [nx hi (by omega)]
   refine ih (i + 1) (by omega) fun n hn => ?_
   rw [List.take_succ_eq_append_getElem hi] at hn
   rcases List.mem_append.1 hn with h1 | h1
   ·exact hr n h1
   ·rw [List.mem_singleton.1 h1]; exact hp
  ·have : l[i].rightN = false := by simpa using hp
   rw [this, Bool.false_and, Bool.false_and]
   exact ip rfl rfl
theorem right_ev : ∀ (N : Nat) (n : Nod), n.count ≤ N → n.ok → D 43 [n.pv] = some (.sc (.bool n.rightN))
 | 0, .mk _ _ _ _ _ _, hN, _ => by rw [Nod.count] at hN; omega
 | N + 1, .mk kind op v a b l, hN, hk => by
  rw [Nod.count] at hN
  have hk2 := hk
  rw [Nod.ok] at hk2
  refine (f43_eq 0 _ _ _ _ _ _ _ _ _ _ _ _ _ _ _).trans ?_
  have := right_l kind op v a b l hk (fun n hn => right_ev N n (by have := count_mem hn; omega) (oks_mem hk2.2.1 hn)) l.length 0 (Nat.zero_add _) (fun n hn => by simp at hn)
  rw [List.drop_zero] at this
  rw [Nod.rightN, ← this, pvs_len]
  rfl
theorem deep_l (l : List Nod) (hl : l.length ≤ 2000000000000) (hd : deeps l ≤ 1000000000000) (IH : ∀ n ∈ l, D 44 [n.pv] = some (.sc (.int .i64 (n.deep : Int)))) : ∀ (d i m : Nat), i + d = l.length → m ≤ 1000000000000 → f44.l0a 0 (m : Int) (pvs l).length (fun i => (pvs l).getD i .top) (l.length : Int) (i : Int) = some (.sc (.int .i64 ((max m (deeps (l.drop i)) + 1 : Nat) : Int))) := by
 intro d
 induction d with
 | zero =>
  intro i m h hm
  rw [f44.l0a_eq]
  refine im (by rw [decide_eq_true_eq]; omega) ?_
  rw [List.drop_eq_nil_of_le (by omega), w64 (by omega) (by omega), deeps, Nat.max_zero]; rfl
 | succ d ih =>
  intro i m h hm
  have hi : i < l.length := by omega
  rw [f44.l0a_eq]
  have hdi : l[i].deep ≤ deeps l := by
   have : ∀ (l : List Nod) (n : Nod), n ∈ l → n.deep ≤ deeps l := by
    intro l
    induction l with
    | nil => intro n hn; cases hn
    | cons x l ih =>
     intro n hn
     rw [deeps]
     rcases List.mem_cons.1 hn with rfl | hn
     ·omega
     ·have := ih n hn; omega
   exact this l _ (List.getElem_mem hi)
  rw [Int.toNat_natCast, pvs_get hi, List.drop_eq_getElem_cons hi, deeps]
  have hf := IH _ (List.getElem_mem hi)
  rw [← rb_pv] at hf
  refine ip (by rw [decide_eq_true_eq]; omega) (ip (by omega) (ip (by rw [pvs_len]; omega) (ip (sh_pv _) (cb hf rfl ?_))))
  rw [nx hi (by omega)]
  have e : (if (PV.sc (Value.int .i64 (l[i].deep : Int))).toInt > (m : Int) then (PV.sc (Value.int .i64 (l[i].deep : Int))).toInt else (m : Int)) = ((max m l[i].deep : Nat) : Int) := by
   show (if ((l[i].deep : Nat) : Int) > (m : Int) then ((l[i].deep : Nat) : Int) else (m : Int)) = _
   split <;> omega
  rw [e, ih (i + 1) (max m l[i].deep) (by omega) (by omega), Nat.max_assoc]
theorem ndeep_ev : ∀ (N : Nat) (n : Nod), n.count ≤ N → n.ok → n.deep ≤ 1000000000000 → D 44 [n.pv] = some (.sc (.int .i64 (n.deep : Int)))
 | 0, .mk _ _ _ _ _ _, hN, _, _ => by rw [Nod.count] at hN; omega
 | N + 1, .mk kind op v a b l, hN, hk, hd => by
  rw [Nod.count] at hN
  rw [Nod.ok] at hk
  rw [Nod.deep] at hd
  refine (f44_eq 0 _ _ _ _ _ _ _ _ _ _ _ _ _ _ _).trans ?_
  have hdm : ∀ (l : List Nod) (n : Nod), n ∈ l → n.deep ≤ deeps l := by
   intro l
   induction l with
   | nil => intro n hn; cases hn
   | cons x l ih =>
    intro n hn
    rw [deeps]
    rcases List.mem_cons.1 hn with rfl | hn
    ·omega
    ·have := ih n hn; omega
  have := deep_l l (by omega) (by omega) (fun n hn => ndeep_ev N n (by have := count_mem hn; omega) (oks_mem hk.2.1 hn) (by have := hdm l n hn; omega)) l.length 0 0 (Nat.zero_add _) (by omega)
  rw [List.drop_zero, Nat.zero_max] at this
  rw [Nod.deep, ← this, pvs_len]
  rfl
end Go.Den.EK
/- A tree's tokens are parsed as it: the plain part. -/
set_option linter.unusedVariables false
set_option linter.unusedSimpArgs false
namespace Go.Den
open Go Go.Proofs
/-- What may stand behind an operand of a level. -/
def tokK (k : Nat) (t : Tk) : Prop := sgT [40] [t] = false ∧ ∀ j, k < j → j ≤ 5 → t.kind = 4 → lvls j t.text = 0
theorem tokK_mono {k k' : Nat} {t : Tk} (h : tokK k t) (hk : k ≤ k') : tokK k' t := ⟨h.1, fun j hj hj5 ht => h.2 j (by omega) hj5 ht⟩
theorem sgT_one {x : List UInt8} {t : Tk} {r : List Tk} : sgT x (t :: r) = sgT x [t] := rfl
/-- An operand of a level from one of the next. -/
theorem down {fnum : List UInt8 → Int} {F G k : Nat} {us r : List Tk} {n : Nod} {t : Tk} {x : Nod × List Tk} (hk : k ≤ 5) (h : pX fnum F (.B (k + 1)) us = some (n, r)) (h2 : pX fnum G (.L k n) r = some x) : pX fnum (max F G + 1) (.B k) us = some x := by
 rw [pX, if_neg (by omega), pX_more fnum F (max F G) _ _ _ (by omega) h]
 exact pX_more fnum G (max F G) _ _ _ (by omega) h2
theorem loop_end {fnum : List UInt8 → Int} {k : Nat} {n : Nod} {t : Tk} {r : List Tk} (h : t.kind = 4 → lvls k t.text = 0) : pX fnum 1 (.L k n) (t :: r) = some (n, t :: r) := by
 rw [pX, if_neg]
 exact fun hh => hh.2 (h hh.1)
/-- Up from an atom. -/
theorem atom_up {fnum : List UInt8 → Int} {F G k : Nat} {n : Nod} {t : Tk} {us r : List Tk} {x : Nod × List Tk} (hk1 : 1 ≤ k) (hk : k ≤ 5) (ht : tokK k t) (h : pX fnum F (.B 6) us = some (n, t :: r)) (h2 : pX fnum G (.L k n) (t :: r) = some x) : ∃ F', pX fnum F' (.B k) us = some x := by
 have h3 := up_L fnum h (k := k + 1) (by omega) (by omega) fun j hj hj5 hk4 => ht.2 j (by omega) hj5 hk4
 exact ⟨_, down (t := t) hk h3 h2⟩
theorem op_tok {op : Nat} (h : 1 ≤ op ∧ op ≤ 12) : (1 ≤ (sgnO op).2 ∧ (sgnO op).2 ≤ 5) ∧ lvls (sgnO op).2 (sgnO op).1 = op ∧ (∀ j, (sgnO op).2 < j → j ≤ 5 → lvls j (sgnO op).1 = 0) ∧ (sgnO op).1 ≠ [40] ∧ (sgnO op).1 ≠ [58] := by
 have : op = 1 ∨ op = 2 ∨ op = 3 ∨ op = 4 ∨ op = 5 ∨ op = 6 ∨ op = 7 ∨ op = 8 ∨ op = 9 ∨ op = 10 ∨ op = 11 ∨ op = 12 := by omega
 have key : ∀ L : Nat, L ≤ 5 → ∀ x : List UInt8, (∀ j, L < j → j ≤ 5 → lvls j x = 0) ↔ ((List.range 6).all fun j => decide (j ≤ L) || lvls j x == 0) = true := by
  intro L hL x
  rw [List.all_eq_true]
  constructor
  ·intro hh j hj
   rw [List.mem_range] at hj
   by_cases h1 : j ≤ L
   ·rw [decide_eq_true h1]; rfl
   ·rw [hh j (by omega) (by omega)]; simp
  ·intro hh j h1 h2
   have := hh j (by rw [List.mem_range]; omega)
   rw [decide_eq_false (by omega), Bool.false_or, beq_iff_eq] at this
   exact this
 rcases this with rfl | rfl | rfl | rfl | rfl | rfl | rfl | rfl | rfl | rfl | rfl | rfl <;>
  exact ⟨by decide, by decide, (key _ (by decide) _).2 (by decide), by decide, by decide⟩
theorem binds_bin {op : Nat} {m n : Nod} : bindsN (binN op m n) = (sgnO op).2 := by
 unfold bindsN; exact if_pos rfl
theorem binds_no {n : Nod} (h : n.kind ≠ 6) : bindsN n = 9 := if_neg h
theorem wth_le {k : Nat} {n : Nod} (h : k ≤ bindsN n) : wth k n = tkN n := if_pos h
theorem wth_gt {k : Nat} {n : Nod} (h : bindsN n < k) : wth k n = sgt [40] :: (tkN n ++ [sgt [41]]) := if_neg (by omega)
theorem tk_bin (op : Nat) (m n : Nod) : tkN (binN op m n) = wth (sgnO op).2 m ++ sgt (sgnO op).1 :: wth ((sgnO op).2 + 1) n := rfl
theorem tk_neg (n : Nod) : tkN (negN n) = sgt [45] :: wth 6 n := rfl
theorem tk_call (f : Int) (l : List Nod) : tkN (callN f l) = wd (rowP f).1 :: sgt [40] :: (comC (tkNs l) ++ [sgt [41]]) := rfl
/-- The first two: no word with a colon behind. -/
def noCol (us : List Tk) : Prop := ∀ t r, us = t :: r → t.kind = 3 → sgT [58] r = false
theorem noCol_wth {k : Nat} {n : Nod} {rest : List Tk} (h : noCol (tkN n ++ rest)) : noCol (wth k n ++ rest) := by
 unfold wth wthC
 split
 ·exact h
 ·intro t r e hk
  rw [List.cons_append] at e
  cases e
  cases hk
theorem noCol_tk : ∀ (N : Nat) (n : Nod), n.count ≤ N → n.rightN = true → n.kind ≠ 4 → ∀ t r, sgT [58] [t] = false → noCol (tkN n ++ t :: r)
 | 0, .mk _ _ _ _ _ _, hN, _, _, _, _, _ => by rw [Nod.count] at hN; omega
 | N + 1, n, hN, hr, hk, t, r, ht => by
  have h := rgt hr
  cases h with
  | num x h => intro t' r' e hk; cases e; cases hk
  | str x h => intro t' r' e hk; cases e; cases hk
  | tru x h => intro t' r' e hk; cases e; exact ht
  | lost => intro t' r' e hk; cases e; cases hk
  | one q h => intro t' r' e hk; cases e; exact ht
  | range q p h h2 => exact absurd rfl hk
  | neg m hm hmk => intro t' r' e hk; cases e; cases hk
  | bin op ho m m' hm hm' hmk =>
   rw [tk_bin, List.append_assoc]
   have hc : m.count ≤ N := by
    have : (binN op m m').count = m.count + (m'.count + 0) + 1 := rfl
    omega
   refine noCol_wth (noCol_tk N m hc hm hmk.1 _ _ ?_)
   unfold sgT
   dsimp only
   rw [Bool.and_eq_false_iff]
   right
   have := (op_tok ho).2.2.2.2
   simpa [sgt] using this
  | call f l hf hl hkl => intro t' r' e hk; cases e; rfl
theorem rngP_no {us : List Tk} (h : noCol us) : rngP us = none := by
 unfold rngP
 split
 ·rfl
 ·rename_i t r
  split
  ·rfl
  ·rename_i a ha
   by_cases hk : t.kind = 3
   ·rw [if_pos hk] at ha
    rw [h t r rfl hk, if_neg (by decide)]
   ·rw [if_neg hk] at ha; cases ha
/-- A truth is a word. -/
theorem tb8_eq (t : ByteArray) : (⟨(tb8 t).toArray⟩ : ByteArray) = t := by rcases t with ⟨⟨l⟩⟩; rfl
theorem kne {n m : Nat} (h : (n == m) = false) : ¬ n = m := fun e => by rw [e, beq_self_eq_true] at h; cases h
theorem bne' {b : Bool} (h : b = false) : ¬ b = true := by rw [h]; decide
theorem sgT_wd (x w : List UInt8) (r : List Tk) : sgT x (wd w :: r) = false := rfl
theorem pX_word {w : List UInt8} {t : Tk} {r : List Tk} (ht : sgT [40] [t] = false) {x : Nod} (hx : pX fnumP 1 (.W w) (t :: r) = some (x, t :: r)) : pX fnumP 4 (.B 6) (wd w :: t :: r) = some (x, t :: r) := by
 rw [pX, if_pos (by omega), pX, if_neg (by rw [sgT_wd]; decide), pX.eq_def]
 dsimp only
 rw [if_neg (show ¬ (wd w).kind = 1 from kne rfl), if_neg (show ¬ (wd w).kind = 2 from kne rfl), if_pos (show (wd w).kind = 3 from rfl)]
 exact hx
theorem word_no {w : List UInt8} {t : Tk} {r : List Tk} (ht : sgT [40] [t] = false) : pX fnumP 1 (.W w) (t :: r) = if w = wordL then some (litN ⟨3, 1, ⟨#[]⟩⟩, t :: r) else if w = wordF then some (litN ⟨3, 0, ⟨#[]⟩⟩, t :: r) else (refP w).map (fun q => (oneN q, t :: r)) := by
 rw [pX, if_neg (by rw [sgT_one, ht]; decide)]
theorem wrd_ne {r : Rf} (h : refM r = true) : wrdR r ≠ wordL ∧ wrdR r ≠ wordF := by
 have h1 := refP_wrd h
 constructor
 ·intro e; rw [e, ref_true] at h1; cases h1
 ·intro e; rw [e, ref_false] at h1; cases h1
/-- All arguments from one on. -/
theorem args_back {f : Int} {r : List Tk} : ∀ (l : List Nod) (acc : List Nod), l ≠ [] → (∀ n ∈ l, n.rightN = true) →
  (∀ n ∈ l, n.kind ≠ 4 → ∀ t r, sgT [58] [t] = false → tokK 1 t → (t.kind = 4 → lvls 1 t.text = 0) → ∃ F, pX fnumP F (.B 1) (tkN n ++ t :: r) = some (n, t :: r)) →
  ∃ F, pX fnumP F (.R f acc) (comC (tkNs l) ++ sgt [41] :: r) = some (callN f (acc ++ l), r)
 | [], _, h, _, _ => absurd rfl h
 | n :: l, acc, _, hr, hb => by
  have one : ∀ t r, sgT [58] [t] = false → tokK 1 t → (t.kind = 4 → lvls 1 t.text = 0) → ∃ F, pX fnumP F .G (tkN n ++ t :: r) = some (n, t :: r) := by
   intro t r h1 h2 h3
   have hn := hr n (List.mem_cons_self ..)
   by_cases hk : n.kind = 4
   ·cases rgt hn with
    | range a b ha hb2 =>
     refine ⟨1, ?_⟩
     rw [pX]
     have e : rngP (tkN (rangeN a b) ++ t :: r) = some (some (rangeN a b, t :: r)) := by
      show rngP (wd (wrdR a) :: sgt [58] :: wd (wrdR b) :: t :: r) = _
      unfold rngP
      dsimp only
      rw [if_pos (show (wd (wrdR a)).kind = 3 from rfl), show (wd (wrdR a)).text = wrdR a from rfl, refP_wrd ha]
      dsimp only
      rw [if_pos (by rfl), List.tail_cons]
      dsimp only
      rw [if_pos (show (wd (wrdR b)).kind = 3 from rfl), show (wd (wrdR b)).text = wrdR b from rfl, refP_wrd hb2]
      rfl
     rw [e]
    | num => exact absurd hk (show ¬ (1 : Int) = 4 by decide)
    | str => exact absurd hk (show ¬ (1 : Int) = 4 by decide)
    | tru => exact absurd hk (show ¬ (1 : Int) = 4 by decide)
    | lost => exact absurd hk (show ¬ (2 : Int) = 4 by decide)
    | one => exact absurd hk (show ¬ (3 : Int) = 4 by decide)
    | neg => exact absurd hk (show ¬ (5 : Int) = 4 by decide)
    | bin => exact absurd hk (show ¬ (6 : Int) = 4 by decide)
    | call => exact absurd hk (show ¬ (7 : Int) = 4 by decide)
   ·obtain ⟨F, hF⟩ := hb n (List.mem_cons_self ..) hk t r h1 h2 h3
    refine ⟨F + 1, ?_⟩
    rw [pX, rngP_no (noCol_tk _ n (Nat.le_refl _) hn hk t r h1)]
    exact hF
  have tk1 : ∀ x : List UInt8, x = [41] ∨ x = [44] → sgT [58] [sgt x] = false ∧ tokK 1 (sgt x) ∧ ((sgt x).kind = 4 → lvls 1 (sgt x).text = 0) := by
   rintro x (rfl | rfl)
   ·exact ⟨rfl, ⟨rfl, fun j h1 h2 _ => by
     have : j = 2 ∨ j = 3 ∨ j = 4 ∨ j = 5 := by omega
     rcases this with rfl | rfl | rfl | rfl <;> rfl⟩, fun _ => rfl⟩
   ·exact ⟨rfl, ⟨rfl, fun j h1 h2 _ => by
     have : j = 2 ∨ j = 3 ∨ j = 4 ∨ j = 5 := by omega
     rcases this with rfl | rfl | rfl | rfl <;> rfl⟩, fun _ => rfl⟩
  rcases l with _ | ⟨m, l⟩
  ·obtain ⟨h1, h2, h3⟩ := tk1 [41] (.inl rfl)
   obtain ⟨F, hF⟩ := one (sgt [41]) r h1 h2 h3
   refine ⟨F + 1, ?_⟩
   show pX fnumP (F + 1) (.R f acc) (tkN n ++ sgt [41] :: r) = _
   rw [pX, hF]
   dsimp only
   rw [if_pos (by rfl)]; rfl
  ·obtain ⟨h1, h2, h3⟩ := tk1 [44] (.inr rfl)
   obtain ⟨F, hF⟩ := one (sgt [44]) (comC (tkNs (m :: l)) ++ sgt [41] :: r) h1 h2 h3
   obtain ⟨G, hG⟩ := args_back (f := f) (r := r) (m :: l) (acc ++ [n]) (by simp) (fun x hx => hr x (List.mem_cons_of_mem _ hx)) (fun x hx => hb x (List.mem_cons_of_mem _ hx))
   refine ⟨max F G + 1, ?_⟩
   have e : comC (tkNs (n :: m :: l)) ++ sgt [41] :: r = tkN n ++ sgt [44] :: (comC (tkNs (m :: l)) ++ sgt [41] :: r) := by
    show (tkN n ++ sgt [44] :: comC (tkNs (m :: l))) ++ sgt [41] :: r = _
    rw [List.append_assoc]; rfl
   rw [e, pX, pX_more fnumP F (max F G) _ _ _ (by omega) hF]
   dsimp only
   rw [if_neg (bne' (show sgT [41] (sgt [44] :: (comC (tkNs (m :: l)) ++ sgt [41] :: r)) = false from rfl)), if_pos (by rfl), List.tail_cons, pX_more fnumP G (max F G) _ _ _ (by omega) hG, List.append_assoc]; rfl
theorem head_wth {k : Nat} {n : Nod} {P : Tk → Prop} (ho : P (sgt [40])) (h : ∃ u us, tkN n = u :: us ∧ P u) : ∃ u us, wth k n = u :: us ∧ P u := by
 unfold wth wthC
 split
 ·exact h
 ·exact ⟨_, _, rfl, ho⟩
theorem tk_head : ∀ (N : Nat) (n : Nod), n.count ≤ N → n.rightN = true → ∃ u us, tkN n = u :: us ∧ ¬ (u.kind = 4 ∧ u.text = [41])
 | 0, .mk _ _ _ _ _ _, hN, _ => by rw [Nod.count] at hN; omega
 | N + 1, n, hN, hr => by
  have h := rgt hr
  cases h with
  | num x h => exact ⟨_, _, rfl, fun h => absurd h.1 (show ¬ (1 = 4) by decide)⟩
  | str x h => exact ⟨_, _, rfl, fun h => absurd h.1 (show ¬ (2 = 4) by decide)⟩
  | tru x h => exact ⟨_, _, rfl, fun h => absurd h.1 (show ¬ (3 = 4) by decide)⟩
  | lost => exact ⟨_, _, rfl, fun h => absurd h.2 (by decide)⟩
  | one q h => exact ⟨_, _, rfl, fun h => absurd h.1 (show ¬ (3 = 4) by decide)⟩
  | range q p h h2 => exact ⟨_, _, rfl, fun h => absurd h.1 (show ¬ (3 = 4) by decide)⟩
  | neg m hm hmk => exact ⟨_, _, rfl, fun h => absurd h.2 (by decide)⟩
  | bin op ho m m' hm hm' hmk =>
   have hc : (binN op m m').count = m.count + (m'.count + 0) + 1 := rfl
   obtain ⟨u, us, e, h2⟩ := head_wth (k := (sgnO op).2) (P := fun u => ¬ (u.kind = 4 ∧ u.text = [41])) (fun h => absurd h.2 (by decide)) (tk_head N m (by omega) hm)
   exact ⟨u, _, by rw [tk_bin, e]; rfl, h2⟩
  | call f l hf hl hkl => exact ⟨_, _, rfl, fun h => absurd h.1 (show ¬ (3 = 4) by decide)⟩
theorem not_open {op : Nat} (h : 1 ≤ op ∧ op ≤ 12) : sgT [40] [sgt (sgnO op).1] = false := by
 unfold sgT
 dsimp only
 rw [Bool.and_eq_false_iff]
 right
 have := (op_tok h).2.2.2.1
 simpa [sgt] using this
/-- Behind a tree's tokens the parser stands with the tree. -/
theorem tk_back : ∀ (N : Nat) (n : Nod), n.count ≤ N → n.rightN = true → n.kind ≠ 4 →
  (∀ t r, sgT [40] [t] = false → ∃ F, pX fnumP F (.B 6) (wth 6 n ++ t :: r) = some (n, t :: r)) ∧
  (∀ k, 1 ≤ k → k ≤ 5 → ∀ t r, tokK k t → ∀ G x, pX fnumP G (.L k n) (t :: r) = some x → ∃ F, pX fnumP F (.B k) (wth k n ++ t :: r) = some x)
 | 0, .mk _ _ _ _ _ _, hN, _, _ => by rw [Nod.count] at hN; omega
 | N + 1, n, hN, hr, hk => by
  have up : n.kind ≠ 6 → (∀ t r, sgT [40] [t] = false → ∃ F, pX fnumP F (.B 6) (tkN n ++ t :: r) = some (n, t :: r)) → (∀ t r, sgT [40] [t] = false → ∃ F, pX fnumP F (.B 6) (wth 6 n ++ t :: r) = some (n, t :: r)) ∧
    (∀ k, 1 ≤ k → k ≤ 5 → ∀ t r, tokK k t → ∀ G x, pX fnumP G (.L k n) (t :: r) = some x → ∃ F, pX fnumP F (.B k) (wth k n ++ t :: r) = some x) := by
   intro h6 h
   have hb := binds_no h6
   refine ⟨fun t r ht => ?_, fun k k1 k5 t r ht G x hx => ?_⟩
   ·rw [wth_le (by omega)]; exact h t r ht
   ·rw [wth_le (by omega)]
    obtain ⟨F, hF⟩ := h t r ht.1
    exact atom_up k1 k5 ht hF hx
  have h := rgt hr
  cases h with
  | num x h =>
   refine up (show ¬ (1 : Int) = 6 by decide) fun t r ht => ⟨3, ?_⟩
   show pX fnumP 3 (.B 6) (⟨1, 0, [], x⟩ :: t :: r) = _
   rw [pX, if_pos (by omega), pX, if_neg (bne' (show sgT [45] (⟨1, 0, [], x⟩ :: t :: r) = false from rfl)), pX.eq_def]
   dsimp only
   rw [if_pos rfl]
  | str x h hp =>
   refine up (show ¬ (1 : Int) = 6 by decide) fun t r ht => ⟨3, ?_⟩
   show pX fnumP 3 (.B 6) (⟨2, 0, tb8 x, 0⟩ :: t :: r) = _
   rw [pX, if_pos (by omega), pX, if_neg (bne' (show sgT [45] (⟨2, 0, tb8 x, 0⟩ :: t :: r) = false from rfl)), pX.eq_def]
   dsimp only
   rw [if_neg (kne (rfl : ((2 : Nat) == 1) = false)), if_pos rfl, tb8_eq]
  | tru x h =>
   refine up (show ¬ (1 : Int) = 6 by decide) fun t r ht => ⟨4, ?_⟩
   rcases h with rfl | rfl
   ·show pX fnumP 4 (.B 6) (wd wordF :: t :: r) = _
    refine pX_word ht ?_
    rw [word_no ht, if_neg (by decide), if_pos rfl]
   ·show pX fnumP 4 (.B 6) (wd wordL :: t :: r) = _
    refine pX_word ht ?_
    rw [word_no ht, if_pos rfl]
  | lost =>
   refine up (show ¬ (2 : Int) = 6 by decide) fun t r ht => ⟨3, ?_⟩
   show pX fnumP 3 (.B 6) (sgt [35, 82, 69, 70] :: t :: r) = _
   have e1 : sgT [45] (sgt [35, 82, 69, 70] :: t :: r) = false := rfl
   rw [pX, if_pos (by omega), pX, if_neg (by rw [e1]; decide), pX.eq_def]
   dsimp only
   rw [if_neg (show ¬ (sgt [35, 82, 69, 70]).kind = 1 from kne rfl), if_neg (show ¬ (sgt [35, 82, 69, 70]).kind = 2 from kne rfl), if_neg (show ¬ (sgt [35, 82, 69, 70]).kind = 3 from kne rfl), if_pos (by rfl)]
  | one q h =>
   refine up (show ¬ (3 : Int) = 6 by decide) fun t r ht => ⟨4, ?_⟩
   refine pX_word ht ?_
   rw [word_no ht, if_neg (wrd_ne h).1, if_neg (wrd_ne h).2, refP_wrd h]; rfl
  | range q p h h2 => exact absurd rfl hk
  | neg m hm hmk =>
   have hc : m.count ≤ N := by
    have : (negN m).count = m.count + 0 + 1 := rfl
    omega
   refine up (show ¬ (5 : Int) = 6 by decide) fun t r ht => ?_
   obtain ⟨F, hF⟩ := (tk_back N m hc hm hmk).1 t r ht
   exact ⟨F + 1, neg6 fnumP (by rfl) hF⟩
  | bin op ho m m' hm hm' hmk =>
   have hcc : (binN op m m').count = m.count + (m'.count + 0) + 1 := rfl
   obtain ⟨⟨hL1, hL5⟩, o1, o2, o3, o4⟩ := op_tok ho
   have IH := tk_back N m (by omega) hm hmk.1
   have IH' := tk_back N m' (by omega) hm' hmk.2
   have hb : bindsN (binN op m m') = (sgnO op).2 := binds_bin
   generalize hLd : (sgnO op).2 = L at *
   -- at its own level
   have own : ∀ t r, tokK L t → ∀ G x, pX fnumP G (.L L (binN op m m')) (t :: r) = some x → ∃ F, pX fnumP F (.B L) (tkN (binN op m m') ++ t :: r) = some x := by
    intro t r ht G x hx
    have right : ∃ F, pX fnumP F (.B (L + 1)) (wth (L + 1) m' ++ t :: r) = some (m', t :: r) := by
     by_cases h5 : L + 1 ≤ 5
     ·exact IH'.2 (L + 1) (by omega) h5 t r (tokK_mono ht (by omega)) 1 _ (loop_end fun h4 => ht.2 _ (by omega) h5 h4)
     ·have : L + 1 = 6 := by omega
      rw [this]
      exact IH'.1 t r ht.1
    obtain ⟨F1, hF1⟩ := right
    have e : tkN (binN op m m') ++ t :: r = wth L m ++ sgt (sgnO op).1 :: (wth (L + 1) m' ++ t :: r) := by
     rw [tk_bin, hLd, List.append_assoc]; rfl
    rw [e]
    refine IH.2 L hL1 hL5 (sgt (sgnO op).1) _ ⟨not_open ho, fun j h1 h2 _ => o2 j h1 h2⟩ (max F1 G + 1) x ?_
    rw [pX, if_pos ⟨rfl, by show lvls L (sgnO op).1 ≠ 0; rw [o1]; omega⟩, pX_more fnumP F1 (max F1 G) _ _ _ (by omega) hF1]
    show pX fnumP (max F1 G) (.L L (binN (lvls L (sgnO op).1) m m')) (t :: r) = _
    rw [o1]
    exact pX_more fnumP G (max F1 G) _ _ _ (by omega) hx
   -- at a looser one
   have loose : ∀ d, d ≤ L - 1 → ∀ t r, tokK (L - d) t → ∀ G x, pX fnumP G (.L (L - d) (binN op m m')) (t :: r) = some x → ∃ F, pX fnumP F (.B (L - d)) (tkN (binN op m m') ++ t :: r) = some x := by
    intro d
    induction d with
    | zero => exact fun _ => own
    | succ d ih =>
     intro hd t r ht G x hx
     obtain ⟨F, hF⟩ := ih (by omega) t r (tokK_mono ht (by omega)) 1 _ (loop_end fun h4 => ht.2 _ (by omega) (by omega) h4)
     rw [show L - d = L - (d + 1) + 1 by omega] at hF
     exact ⟨_, down (t := t) (by omega) hF hx⟩
   have brkd : ∀ t r, ∃ F, pX fnumP F (.B 6) ((sgt [40] :: (tkN (binN op m m') ++ [sgt [41]])) ++ t :: r) = some (binN op m m', t :: r) := by
    intro t r
    have hs : tokK 1 (sgt [41]) := ⟨rfl, fun j h1 h2 _ => by
     have : j = 2 ∨ j = 3 ∨ j = 4 ∨ j = 5 := by omega
     rcases this with rfl | rfl | rfl | rfl <;> rfl⟩
    obtain ⟨F, hF⟩ := loose (L - 1) (Nat.le_refl _) (sgt [41]) (t :: r) (by rw [show L - (L - 1) = 1 by omega]; exact hs) 1 _ (loop_end fun _ => by rw [show L - (L - 1) = 1 by omega]; rfl)
    rw [show L - (L - 1) = 1 by omega] at hF
    refine ⟨F + 3, ?_⟩
    have e : (sgt [40] :: (tkN (binN op m m') ++ [sgt [41]])) ++ t :: r = sgt [40] :: (tkN (binN op m m') ++ sgt [41] :: t :: r) := by simp
    rw [e]
    exact brk fnumP (c := sgt [41]) (by rfl) (by rfl) hF
   refine ⟨fun t r ht => ?_, fun k k1 k5 t r ht G x hx => ?_⟩
   ·rw [wth_gt (by omega)]; exact brkd t r
   ·by_cases hkL : k ≤ L
    ·rw [wth_le (by omega)]
     have := loose (L - k) (by omega) t r (by rw [show L - (L - k) = k by omega]; exact ht) G x (by rw [show L - (L - k) = k by omega]; exact hx)
     rw [show L - (L - k) = k by omega] at this
     exact this
    ·rw [wth_gt (by omega)]
     obtain ⟨F, hF⟩ := brkd t r
     exact atom_up k1 k5 ht hF hx
  | call f l hf hl hkl =>
   have hc : (callN f l).count = counts l + 1 := rfl
   refine up (show ¬ (7 : Int) = 6 by decide) fun t r ht => ?_
   have hfn := fn_back (fits_rng hf)
   have hargs : l ≠ [] → ∃ F, pX fnumP F (.R f []) (comC (tkNs l) ++ sgt [41] :: t :: r) = some (callN f ([] ++ l), t :: r) := fun hne =>
    args_back l [] hne (fun x hx => rights_mem hl hx) fun x hx hxk t' r' h1 h2 h3 => by
     have hcx := count_mem hx
     obtain ⟨F, hF⟩ := (tk_back N x (by omega) (rights_mem hl hx) hxk).2 1 (by omega) (by omega) t' r' h2 1 _ (loop_end h3)
     by_cases h6 : x.kind = 6
     ·cases rgt (rights_mem hl hx) with
      | bin op ho m m' _ _ _ =>
       rw [wth_le (by rw [binds_bin]; exact (op_tok ho).1.1)] at hF
       exact ⟨F, hF⟩
      | num => exact absurd h6 (show ¬ (1 : Int) = 6 by decide)
      | str => exact absurd h6 (show ¬ (1 : Int) = 6 by decide)
      | tru => exact absurd h6 (show ¬ (1 : Int) = 6 by decide)
      | lost => exact absurd h6 (show ¬ (2 : Int) = 6 by decide)
      | one => exact absurd h6 (show ¬ (3 : Int) = 6 by decide)
      | range => exact absurd h6 (show ¬ (4 : Int) = 6 by decide)
      | neg => exact absurd h6 (show ¬ (5 : Int) = 6 by decide)
      | call => exact absurd h6 (show ¬ (7 : Int) = 6 by decide)
     ·rw [wth_le (by rw [binds_no h6]; omega)] at hF
      exact ⟨F, hF⟩
   have e : tkN (callN f l) ++ t :: r = wd (rowP f).1 :: sgt [40] :: (comC (tkNs l) ++ sgt [41] :: t :: r) := by
    rw [tk_call]; simp
   rw [e]
   have fin : ∀ F, pX fnumP F (.W (rowP f).1) (sgt [40] :: (comC (tkNs l) ++ sgt [41] :: t :: r)) = some (callN f l, t :: r) → ∃ F, pX fnumP F (.B 6) (wd (rowP f).1 :: sgt [40] :: (comC (tkNs l) ++ sgt [41] :: t :: r)) = some (callN f l, t :: r) := by
    intro F hF
    refine ⟨F + 3, ?_⟩
    rw [pX, if_pos (by omega), pX, if_neg (bne' (sgT_wd _ _ _)), pX.eq_def]
    dsimp only
    rw [if_neg (show ¬ (wd (rowP f).1).kind = 1 from kne rfl), if_neg (show ¬ (wd (rowP f).1).kind = 2 from kne rfl), if_pos (show (wd (rowP f).1).kind = 3 from rfl)]
    exact hF
   rcases l with _ | ⟨x, l⟩
   ·refine fin 1 ?_
    rw [pX, if_pos (by rfl), List.tail_cons]
    show (if sgT [41] (sgt [41] :: t :: r) = true then _ else _) = _
    rw [if_pos (by rfl), hfn]; rfl
   ·obtain ⟨F, hF⟩ := hargs (by simp)
    refine fin (F + 1) ?_
    rw [pX, if_pos (by rfl), List.tail_cons, hfn]
    have hne : ¬ sgT [41] (comC (tkNs (x :: l)) ++ sgt [41] :: t :: r) = true := by
     intro hh
     -- an argument never begins with a closing bracket
     obtain ⟨t0, r0, e0, k0, x0⟩ := sgT_cons hh
     have hx := rights_mem hl (List.mem_cons_self ..)
     have : ∃ u us, tkN x = u :: us ∧ ¬ (u.kind = 4 ∧ u.text = [41]) := tk_head _ x (Nat.le_refl _) hx
     obtain ⟨u, us, e1, e2⟩ := this
     refine e2 ?_
     have : ∃ z, comC (tkNs (x :: l)) ++ sgt [41] :: t :: r = u :: z := by
      rcases l with _ | ⟨y, l⟩
      ·exact ⟨us ++ sgt [41] :: t :: r, by show tkN x ++ _ = _; rw [e1]; rfl⟩
      ·exact ⟨(us ++ sgt [44] :: comC (tkNs (y :: l))) ++ sgt [41] :: t :: r, by show (tkN x ++ sgt [44] :: comC (tkNs (y :: l))) ++ _ = _; rw [e1]; rfl⟩
     obtain ⟨z, hz⟩ := this
     rw [hz] at e0
     cases e0
     exact ⟨k0, x0⟩
    rw [if_neg hne]
    exact hF
end Go.Den
/- Tokens: what stands behind one changes nothing, if it goes no further. -/
set_option linter.unusedVariables false
set_option linter.unusedSimpArgs false
namespace Go.Den
open Go Go.Proofs
def stopB (b : UInt8) : Bool := !isD b && b != 46 && b != 34 && !wrdB b
def sepW (q : List UInt8) : Prop := q = [] ∨ ∃ b r, q = b :: r ∧ stopB b = true
theorem stopB_spec {b : UInt8} (h : stopB b = true) : isD b = false ∧ b ≠ 46 ∧ b ≠ 34 ∧ wrdB b = false := by
 unfold stopB at h
 simp only [Bool.and_eq_true, Bool.not_eq_true', bne_iff_ne] at h
 exact ⟨h.1.1.1, h.1.1.2, h.1.2, h.2⟩
theorem runD_sepG {q : List UInt8} (hq : sepW q) (q0 : List UInt8) : ∀ (m : Nat) (p : List UInt8), runD m (p ++ q0) ≤ p.length → runD m (p ++ q) = runD m (p ++ q0)
 | 0, p, _ => by simp [runD]
 | m + 1, [], h => by
  have h0 : runD (m + 1) ([] ++ q0) = 0 := Nat.le_zero.1 h
  rw [h0]
  rcases hq with rfl | ⟨c0, r, rfl, hs⟩
  ·rfl
  ·rw [List.nil_append, runD, if_neg (by rw [(stopB_spec hs).1]; decide)]
 | m + 1, c :: p, h => by
  rw [List.cons_append, runD] at h ⊢
  rw [List.cons_append, runD]
  by_cases hc : isD c = true
  ·rw [if_pos hc] at h ⊢
   rw [if_pos hc, runD_sepG hq q0 m p (by simp at h; omega)]
  ·rw [if_neg hc, if_neg hc]
theorem sep_headG {q : List UInt8} (hq : sepW q) {p : List UInt8} {b : UInt8} (hb : b = 46 ∨ b = 34) : ((p ++ q).drop p.length).head? ≠ some b := by
 rw [List.drop_left]
 rcases hq with rfl | ⟨c0, r, rfl, hs⟩
 ·simp
 ·intro h
  have e : c0 = b := Option.some.inj h
  subst e
  rcases hb with h | h
  ·exact (stopB_spec hs).2.1 h
  ·exact (stopB_spec hs).2.2.1 h
theorem sep_digG {q : List UInt8} (hq : sepW q) {p : List UInt8} : isDp (p ++ q) p.length = false := by
 unfold isDp
 rw [List.drop_left]
 rcases hq with rfl | ⟨c0, r, rfl, hs⟩
 ·rfl
 ·exact (stopB_spec hs).1
theorem leadn_sepG {q : List UInt8} (hq : sepW q) (q0 p : List UInt8) (h : leadn (p ++ q0) ≤ p.length) : leadn (p ++ q) = leadn (p ++ q0) := by
 unfold leadn at h ⊢
 dsimp only at h ⊢
 by_cases hc : 0 < runD 30 (p ++ q0) ∧ ((p ++ q0).drop (runD 30 (p ++ q0))).head? = some 46 ∧ isDp (p ++ q0) (runD 30 (p ++ q0) + 1) = true
 ·rw [if_pos hc] at h ⊢
  have e := runD_sepG hq q0 30 p (by omega)
  rw [e]
  obtain ⟨h1, h2, h3⟩ := hc
  have hp : 0 < runD 4 ((p ++ q0).drop (runD 30 (p ++ q0) + 1)) := isDp_pos h3 3
  generalize runD 30 (p ++ q0) = n at *
  have hn : n + 1 < p.length := by omega
  rw [head_app (show n < p.length by omega)] at h2
  rw [isDp_app hn] at h3
  rw [if_pos ⟨h1, by rw [head_app (show n < p.length by omega)]; exact h2, by rw [isDp_app hn]; exact h3⟩]
  rw [drop_app (show n + 1 ≤ p.length by omega)] at h ⊢
  rw [drop_app (show n + 1 ≤ p.length by omega), runD_sepG hq q0 4 (p.drop (n + 1)) (by rw [List.length_drop]; omega)]
 ·rw [if_neg hc] at h ⊢
  have e := runD_sepG hq q0 30 p h
  rw [e]
  generalize runD 30 (p ++ q0) = n at *
  refine if_neg (fun hh => hc ⟨hh.1, ?_⟩)
  obtain ⟨h1, h2, h3⟩ := hh
  have hn : n < p.length := by
   rcases Nat.lt_or_ge n p.length with hn | hn
   ·exact hn
   ·obtain rfl : n = p.length := by omega
    exact absurd h2 (sep_headG hq (Or.inl rfl))
  have hn2 : n + 1 < p.length := by
   rcases Nat.lt_or_ge (n + 1) p.length with hn | hn
   ·exact hn
   ·have e : n + 1 = p.length := by omega
    rw [e, sep_digG hq] at h3
    cases h3
  rw [head_app hn] at h2
  rw [isDp_app hn2] at h3
  exact ⟨by rw [head_app hn]; exact h2, by rw [isDp_app hn2]; exact h3⟩
theorem strL_sepG {q : List UInt8} (hq : sepW q) (q0 : List UInt8) : ∀ (p : List UInt8) (r : List UInt8 × Nat), strL (p ++ q0) = some r → r.2 ≤ p.length → strL (p ++ q) = some r
 | [], r, h, hl => by have := strL_pos _ _ h; simp at hl; omega
 | [b], r, h, hl => by
  have key : plainB b = true ∧ b = 34 ∧ r = ([], 1) := by
   rcases q0 with _ | ⟨c, l⟩
   ·rw [List.append_nil, strL] at h
    by_cases h1 : plainB b = false
    ·rw [if_pos h1] at h; cases h
    ·rw [if_neg h1] at h
     by_cases h2 : b = 34
     ·rw [if_pos h2] at h; cases h
      exact ⟨by simpa using h1, h2, rfl⟩
     ·rw [if_neg h2] at h; cases h
   ·rw [List.cons_append, List.nil_append, strL] at h
    by_cases h1 : plainB b = false
    ·rw [if_pos h1] at h; cases h
    ·rw [if_neg h1] at h
     by_cases h2 : b = 34
     ·rw [if_pos h2] at h
      by_cases h3 : c = 34
      ·rw [if_pos h3] at h
       obtain ⟨r', h4, rfl⟩ := Option.map_eq_some_iff.1 h
       simp at hl
      ·rw [if_neg h3] at h; cases h
       exact ⟨by simpa using h1, h2, rfl⟩
     ·rw [if_neg h2] at h
      obtain ⟨r', h4, rfl⟩ := Option.map_eq_some_iff.1 h
      have := strL_pos _ _ h4
      simp at hl; omega
  obtain ⟨h1, rfl, rfl⟩ := key
  rcases hq with rfl | ⟨c0, r, rfl, hs⟩
  ·rfl
  ·rw [List.cons_append, List.nil_append, strL, h1, if_neg (by decide), if_pos rfl, if_neg (stopB_spec hs).2.2.1]
 | b :: c :: p, r, h, hl => by
  rw [List.cons_append, List.cons_append, strL] at h ⊢
  by_cases h1 : plainB b = false
  ·rw [if_pos h1] at h; cases h
  ·rw [if_neg h1] at h ⊢
   by_cases h2 : b = 34
   ·rw [if_pos h2] at h ⊢
    by_cases h3 : c = 34
    ·rw [if_pos h3] at h ⊢
     obtain ⟨r', h4, rfl⟩ := Option.map_eq_some_iff.1 h
     rw [strL_sepG hq q0 p r' h4 (by simp at hl; omega)]
     rfl
    ·rw [if_neg h3] at h ⊢
     exact h
   ·rw [if_neg h2] at h ⊢
    obtain ⟨r', h4, rfl⟩ := Option.map_eq_some_iff.1 h
    have := strL_sepG hq q0 (c :: p) r' h4 (by simp at hl ⊢; omega)
    rw [List.cons_append] at this
    rw [this]
    rfl
theorem runW_sepG {q : List UInt8} (hq : sepW q) (q0 : List UInt8) : ∀ p : List UInt8, runW (p ++ q0) ≤ p.length → runW (p ++ q) = runW (p ++ q0)
 | [], h => by
  have h0 : runW ([] ++ q0) = 0 := Nat.le_zero.1 h
  rw [h0]
  rcases hq with rfl | ⟨c0, r, rfl, hs⟩
  ·rfl
  ·rw [List.nil_append, runW, if_neg (by rw [(stopB_spec hs).2.2.2]; decide)]
 | c :: p, h => by
  rw [List.cons_append, runW] at h ⊢
  rw [List.cons_append, runW]
  by_cases hc : wrdB c = true
  ·rw [if_pos hc] at h ⊢
   rw [if_pos hc, runW_sepG hq q0 p (by simp at h; omega)]
  ·rw [if_neg hc, if_neg hc]
theorem pre_sepG {q : List UInt8} : ∀ (t p : List UInt8), (∀ b r, q = b :: r → b ∉ t) → t.isPrefixOf (p ++ q) = true → t.isPrefixOf p = true
 | [], p, _, _ => by simp
 | b :: t, [], h0, h => by
  rcases q with _ | ⟨c, r⟩
  ·simp [List.isPrefixOf] at h
  ·simp [List.isPrefixOf] at h
   exact absurd h.1 (fun e => h0 c r rfl (by rw [e]; exact List.mem_cons_self))
 | b :: t, c :: p, h0, h => by
  simp only [List.cons_append, List.isPrefixOf, Bool.and_eq_true] at h ⊢
  exact ⟨h.1, pre_sepG t p (fun b' r e hh => h0 b' r e (List.mem_cons_of_mem _ hh)) h.2⟩
theorem sigs_tail {t : List UInt8} (h : t ∈ sigs) {b : UInt8} (hb : b ∈ t.tail) : b = 82 ∨ b = 69 ∨ b = 70 ∨ b = 61 ∨ b = 62 := by
 have : ∀ t ∈ sigs, ∀ b ∈ t.tail, b = 82 ∨ b = 69 ∨ b = 70 ∨ b = 61 ∨ b = 62 := by decide
 exact this t h b hb
theorem sign_sepG {q : List UInt8} (hq : sepW q) (hs : q.head? ≠ some 61 ∧ q.head? ≠ some 62) (q0 : List UInt8) (b0 : UInt8) (p t : List UInt8) (h : signL (b0 :: p ++ q0) = some t) (hl : t.length ≤ (b0 :: p).length) : signL (b0 :: p ++ q) = some t := by
 refine find_congr sigs (fun x hx ha => pre_app ?_) h ?_
 ·rcases x with _ | ⟨b, x⟩
  ·simp
  ·simp only [List.cons_append, List.isPrefixOf, Bool.and_eq_true] at ha ⊢
   refine ⟨ha.1, pre_sepG x p (fun c r e hc => ?_) ha.2⟩
   subst e
   rcases hq with e | ⟨c0, r0, e, h0⟩
   ·cases e
   ·cases e
    have hw := (stopB_spec h0).2.2.2
    rcases sigs_tail hx hc with e | e | e | e | e
    ·rw [e] at hw; exact absurd hw (by decide)
    ·rw [e] at hw; exact absurd hw (by decide)
    ·rw [e] at hw; exact absurd hw (by decide)
    ·exact hs.1 (by rw [e]; rfl)
    ·exact hs.2 (by rw [e]; rfl)
 ·exact pre_app (pre_short (sign_pre h).1 hl)
theorem next_sepG {q : List UInt8} (hq : sepW q) (q0 p : List UInt8) (hs : (∃ b r, p = b :: r ∧ (isD b = true ∨ b = 34 ∨ uppB b = true)) ∨ (q.head? ≠ some 61 ∧ q.head? ≠ some 62)) {t : Tk} {n : Nat} (h : nextL (p ++ q0) = some (t, n)) (hl : n ≤ p.length) : nextL (p ++ q) = some (t, n) := by
 have hn := (next_le h).1
 rcases p with _ | ⟨b, p⟩
 ·simp at hl; omega
 rw [List.cons_append, nextL] at h ⊢
 by_cases h1 : isD b = true
 ·rw [if_pos h1] at h ⊢
  by_cases h2 : (leadL (b :: (p ++ q0))).2.2 = true
  ·rw [if_pos h2] at h
   have e : leadn (b :: (p ++ q0)) = n := by injection h with h; injection h
   have e2 : leadn ((b :: p) ++ q) = leadn ((b :: p) ++ q0) := leadn_sepG hq q0 (b :: p) (by rw [List.cons_append, e]; exact hl)
   rw [List.cons_append, List.cons_append, e] at e2
   have e3 : leadL (b :: (p ++ q)) = leadL (b :: (p ++ q0)) := by
    unfold leadL
    rw [e2, e, ← List.cons_append, ← List.cons_append, take_app hl, take_app hl]
   rw [e3, if_pos h2, e2, ← e]
   rw [e] at h ⊢
   exact h
  ·rw [if_neg h2] at h; cases h
 ·rw [if_neg h1] at h ⊢
  by_cases h2 : b = 34
  ·rw [if_pos h2] at h ⊢
   obtain ⟨r, h3, h4⟩ := Option.map_eq_some_iff.1 h
   cases h4
   rw [strL_sepG hq q0 p r h3 (by simp at hl; omega)]
   rfl
  ·rw [if_neg h2] at h ⊢
   by_cases h3 : uppB b = true
   ·rw [if_pos h3] at h ⊢
    have e : runW (p ++ q0) + 1 = n := by injection h with h; injection h
    simp at hl
    have e2 := runW_sepG hq q0 p (by omega)
    rw [e2, take_app (by omega)]
    rw [take_app (by omega)] at h
    exact h
   ·rw [if_neg h3] at h ⊢
    obtain ⟨r, h4, h5⟩ := Option.map_eq_some_iff.1 h
    cases h5
    have hs2 : q.head? ≠ some 61 ∧ q.head? ≠ some 62 := by
     rcases hs with ⟨b', r', e, hh⟩ | hh
     ·cases e
      rcases hh with hh | hh | hh
      ·exact absurd hh h1
      ·exact absurd hh h2
      ·exact absurd hh h3
     ·exact hh
    have := sign_sepG hq hs2 q0 b p r h4 hl
    rw [List.cons_append] at this
    rw [this]
    rfl
end Go.Den
/- Tokens of texts put together. -/
set_option linter.unusedVariables false
set_option linter.unusedSimpArgs false
namespace Go.Den
open Go Go.Proofs
end Go.Den
/- A tree's text is taken apart into its tokens: the plain part. -/
set_option linter.unusedVariables false
set_option linter.unusedSimpArgs false
namespace Go.Den
open Go Go.Proofs
def folT (t : Tk) (q : List UInt8) : Prop := if t.kind = 4 then ((t.text = [60] ∨ t.text = [62]) → q.head? ≠ some 61 ∧ q.head? ≠ some 62) else sepW q
def texT (us : List Tk) : List UInt8 := us.flatMap telT
theorem texT_cons (t : Tk) (us : List Tk) : texT (t :: us) = telT t ++ texT us := rfl
theorem texT_app (us vs : List Tk) : texT (us ++ vs) = texT us ++ texT vs := by unfold texT; rw [List.flatMap_append]
def okL : List Tk → List UInt8 → Prop
 | [], _ => True
 | t :: r, q => (goodT t ∧ folT t (texT r ++ q)) ∧ okL r q
theorem okL_app : ∀ (u v : List Tk) (q : List UInt8), okL u (texT v ++ q) → okL v q → okL (u ++ v) q
 | [], v, q, _, h => h
 | t :: u, v, q, h, h2 => by
  refine ⟨⟨h.1.1, ?_⟩, okL_app u v q h.2 h2⟩
  show folT t (texT (u ++ v) ++ q)
  rw [texT_app, List.append_assoc]
  exact h.1.2
theorem find_sg {t q : List UInt8} (h : t ∈ sigs) (hq : (t = [60] ∨ t = [62]) → q.head? ≠ some 61 ∧ q.head? ≠ some 62) : signL (t ++ q) = some t := by
 have e1 : (t = [60] ∨ t = [62]) → ∀ (l : List UInt8), ([61] : List UInt8).isPrefixOf q = false ∧ ([62] : List UInt8).isPrefixOf q = false := by
  intro ht l
  have := hq ht
  rcases q with _ | ⟨b, q⟩
  ·exact ⟨rfl, rfl⟩
  ·have h1 : b ≠ 61 := fun e => this.1 (by rw [e]; rfl)
   have h2 : b ≠ 62 := fun e => this.2 (by rw [e]; rfl)
   constructor
   ·show (61 == b && _) = false
    rw [Bool.and_eq_false_iff]; left; exact beq_eq_false_iff_ne.2 (Ne.symm h1)
   ·show (62 == b && _) = false
    rw [Bool.and_eq_false_iff]; left; exact beq_eq_false_iff_ne.2 (Ne.symm h2)
 unfold sigs at h
 simp only [List.mem_cons, List.not_mem_nil, or_false] at h
 rcases h with rfl | rfl | rfl | rfl | rfl | rfl | rfl | rfl | rfl | rfl | rfl | rfl | rfl | rfl | rfl | rfl | rfl
 all_goals first
  | rfl
  | (have e2 := e1 (by decide) []; unfold signL sigs; simp only [List.cons_append, List.nil_append, List.find?, List.isPrefixOf, e2.1, e2.2]; rfl)
theorem next_sg {t q : List UInt8} (h : t ∈ sigs) (hq : (t = [60] ∨ t = [62]) → q.head? ≠ some 61 ∧ q.head? ≠ some 62) : nextL (t ++ q) = some (⟨4, 0, t, 0⟩, t.length) := by
 have hf := find_sg h hq
 have : ∀ t ∈ sigs, ∃ b l, t = b :: l ∧ isD b = false ∧ b ≠ 34 ∧ uppB b = false := by
  intro t ht
  have : sigs.all (fun t => match t with | [] => false | b :: l => !isD b && b != 34 && !uppB b) = true := by decide
  have := List.all_eq_true.1 this t ht
  rcases t with _ | ⟨b, l⟩
  ·cases this
  ·simp only [Bool.and_eq_true, Bool.not_eq_true', bne_iff_ne] at this
   exact ⟨b, l, rfl, this.1.1, this.1.2, this.2⟩
 obtain ⟨b, l, e, h1, h2, h3⟩ := this t h
 subst e
 rw [List.cons_append] at hf ⊢
 rw [nextL, if_neg (by rw [h1]; decide), if_neg h2, if_neg (by rw [h3]; decide), hf]
 rfl
theorem good_sg {t : List UInt8} (h : t ∈ sigs) : goodT (sgt t) := by
 have hb : ∃ b l, t = b :: l ∧ b ≠ 32 := by
  rcases t with _ | ⟨b, l⟩
  ·exact absurd (sigs_len h).1 (by decide)
  ·exact ⟨b, l, rfl, fun e => sigs_blank h (by rw [e]; exact List.mem_cons_self ..)⟩
 refine ⟨⟨show 1 ≤ 4 by decide, show 4 ≤ 4 by decide⟩, hb, fun q hq => next_sg h fun _ => ?_⟩
 rcases hq with rfl | ⟨r, rfl⟩
 ·exact ⟨by simp, by simp⟩
 ·exact ⟨by simp, by simp⟩
theorem runW_all : ∀ (l q : List UInt8), l.all wrdB = true → (∀ b r, q = b :: r → wrdB b = false) → runW (l ++ q) = l.length
 | [], [], _, _ => rfl
 | [], b :: q, _, h => by rw [List.nil_append, runW, h b q rfl]; rfl
 | b :: l, q, h, h2 => by
  rw [List.all_cons, Bool.and_eq_true] at h
  rw [List.cons_append, runW, if_pos h.1, runW_all l q h.2 h2]; rfl
theorem upp_no {b : UInt8} (h : uppB b = true) : isD b = false ∧ b ≠ 34 ∧ b ≠ 32 ∧ b ≠ 61 ∧ b ≠ 62 := by
 unfold uppB at h
 simp only [Bool.or_eq_true, Bool.and_eq_true, decide_eq_true_eq, beq_iff_eq] at h
 refine ⟨?_, ?_, ?_, ?_, ?_⟩
 ·unfold isD
  rcases h with h | h
  ·rw [decide_eq_false (show ¬ b.toNat ≤ 57 by omega)]; simp
  ·rw [h]; rfl
 all_goals (rintro rfl; revert h; decide)
theorem good_wd {b : UInt8} {l : List UInt8} (hb : uppB b = true) (hl : l.all wrdB = true) : goodT (wd (b :: l)) := by
 obtain ⟨h1, h2, h3, _⟩ := upp_no hb
 refine ⟨⟨show 1 ≤ 3 by decide, show 3 ≤ 4 by decide⟩, ⟨b, l, rfl, h3⟩, fun q hq => ?_⟩
 show nextL ((b :: l) ++ q) = some (⟨3, 0, b :: l, 0⟩, l.length + 1)
 have hr : runW (l ++ q) = l.length := runW_all l q hl fun c r e => by
  rcases hq with rfl | ⟨r', rfl⟩
  ·cases e
  ·cases e; decide
 rw [List.cons_append, nextL, if_neg (by rw [h1]; decide), if_neg h2, if_pos hb, hr, List.take_left]
/-- A good token and what may follow. -/
theorem good_first {t : Tk} (h : goodT t) : (t.kind = 4 ∧ t = ⟨4, t.loc, t.text, 0⟩ ∧ t.text ∈ sigs) ∨ (t.kind ≠ 4 ∧ ∃ b l, telT t = b :: l ∧ (isD b = true ∨ b = 34 ∨ uppB b = true)) := by
 obtain ⟨_, ⟨b, l, e, hb⟩, hn⟩ := h
 have h0 := hn [] (.inl rfl)
 rw [List.append_nil, e, nextL] at h0
 by_cases h1 : isD b = true
 ·rw [if_pos h1] at h0
  refine .inr ⟨?_, b, l, e, .inl h1⟩
  split at h0
  ·injection h0 with h0; injection h0 with h0; intro hk
   have := congrArg Tk.kind h0
   have e4 : (t.put 0).kind = t.kind := rfl
   rw [e4, hk] at this; exact absurd this (kne rfl)
  ·cases h0
 rw [if_neg h1] at h0
 by_cases h2 : b = 34
 ·rw [if_pos h2] at h0
  refine .inr ⟨?_, b, l, e, .inr (.inl h2)⟩
  obtain ⟨r, _, h3⟩ := Option.map_eq_some_iff.1 h0
  injection h3 with h3; intro hk
  have := congrArg Tk.kind h3
  have e4 : (t.put 0).kind = t.kind := rfl
  rw [e4, hk] at this; exact absurd this (kne rfl)
 rw [if_neg h2] at h0
 by_cases h3 : uppB b = true
 ·rw [if_pos h3] at h0
  refine .inr ⟨?_, b, l, e, .inr (.inr h3)⟩
  injection h0 with h0; injection h0 with h0; intro hk
  have := congrArg Tk.kind h0
  have e4 : (t.put 0).kind = t.kind := rfl
  rw [e4, hk] at this; exact absurd this (kne rfl)
 rw [if_neg h3] at h0
 obtain ⟨r, hr, h4⟩ := Option.map_eq_some_iff.1 h0
 injection h4 with h4
 obtain ⟨k, loc, text, num⟩ := t
 have e1 : r = text := congrArg Tk.text h4
 have e2 : (4 : Nat) = k := congrArg Tk.kind h4
 have e3 : (0 : Int) = num := congrArg Tk.num h4
 subst e1 e2 e3
 exact .inl ⟨rfl, rfl, (sign_pre hr).2⟩
theorem tok_next {t : Tk} (h : goodT t) {q : List UInt8} (hf : folT t q) : nextL (telT t ++ q) = some (t.put 0, (telT t).length) := by
 rcases good_first h with ⟨hk, e, hm⟩ | ⟨hk, b, l, e, hc⟩
 ·unfold folT at hf
  rw [if_pos hk] at hf
  have := next_sg hm hf
  have e2 : telT t = t.text := by unfold telT; rw [hk]; rfl
  rw [e2, this, e]
  rfl
 ·unfold folT at hf
  rw [if_neg hk] at hf
  refine next_sepG hf [] _ (.inl ⟨b, l, e, hc⟩) ?_ (Nat.le_refl _)
  exact h.2.2 [] (.inl rfl)
/-- Tokens one behind the other. -/
theorem lex_cat : ∀ (us : List Tk) (a : Nat) (q : List UInt8), okL us q → ∃ vs, vs.map z0 = us.map z0 ∧ lexL a (texT us ++ q) = (match lexL (a + (texT us).length) q with
  | .inl e => .inl e
  | .inr r => .inr (vs ++ r))
 | [], a, q, _ => ⟨[], rfl, by
  show lexL a q = match lexL (a + 0) q with | .inl e => _ | .inr r => _
  rw [Nat.add_zero]
  cases lexL a q <;> rfl⟩
 | t :: us, a, q, h => by
  obtain ⟨⟨hg, hf⟩, h2⟩ := h
  have hn := tok_next hg hf
  obtain ⟨_, ⟨b, l, e, hb⟩, _⟩ := hg
  obtain ⟨vs, e1, e2⟩ := lex_cat us (a + (telT t).length) q h2
  refine ⟨t.put a :: vs, by rw [List.map_cons, List.map_cons, e1]; rfl, ?_⟩
  rw [texT_cons, List.append_assoc]
  have ed : ((telT t) ++ (texT us ++ q)).drop (telT t).length = texT us ++ q := List.drop_left
  generalize hr : texT us ++ q = r at *
  have hc : telT t ++ r = b :: (l ++ r) := by rw [e]; rfl
  rw [hc] at hn ed ⊢
  rw [lexL_tok hb hn, ed, e2, List.length_append, ← Nat.add_assoc]
  cases lexL (a + (telT t).length + (texT us).length) q <;> rfl
/-- The text of a tree. -/
def texN (n : Nod) : List UInt8 := texT (tkN n)
theorem sepW_b {b : UInt8} (h : stopB b = true) (r : List UInt8) : sepW (b :: r) := .inr ⟨b, r, rfl, h⟩
theorem op_sig {op : Nat} (h : 1 ≤ op ∧ op ≤ 12) : (sgnO op).1 ∈ sigs ∧ ∃ b l, (sgnO op).1 = b :: l ∧ stopB b = true := by
 have : op = 1 ∨ op = 2 ∨ op = 3 ∨ op = 4 ∨ op = 5 ∨ op = 6 ∨ op = 7 ∨ op = 8 ∨ op = 9 ∨ op = 10 ∨ op = 11 ∨ op = 12 := by omega
 rcases this with rfl | rfl | rfl | rfl | rfl | rfl | rfl | rfl | rfl | rfl | rfl | rfl <;> exact ⟨by decide, _, _, rfl, by decide⟩
theorem isU_wrd {l : List UInt8} (h : l.all isU = true) : l.all wrdB = true := by
 rw [List.all_eq_true] at h ⊢
 intro b hb
 have := h b hb
 unfold isU at this; unfold wrdB uppB
 rw [this]; rfl
theorem isD_wrd {l : List UInt8} (h : l.all isD = true) : l.all wrdB = true := by
 rw [List.all_eq_true] at h ⊢
 intro b hb
 unfold wrdB
 rw [h b hb, Bool.or_true]
theorem good_ref {r : Rf} (h : refM r = true) : goodT (wd (wrdR r)) := by
 unfold refM at h
 simp only [Bool.and_eq_true, decide_eq_true_eq] at h
 obtain ⟨⟨⟨h1, h2⟩, h3⟩, h4⟩ := h
 have hc : r.col.toNat < 702 := by omega
 obtain ⟨l1, _, _⟩ := let_all hc
 obtain ⟨b, l, l4, l5⟩ := let_head _ hc
 have hu : uppB b = true := by unfold isU at l5; unfold uppB; rw [l5]; rfl
 have hw : ∀ c : Bool, (if c = true then [36] else [] : List UInt8).all wrdB = true := by intro c; cases c <;> rfl
 unfold wrdR
 cases r.hc
 ·rw [if_neg (by decide), List.nil_append]
  rw [l4] at l1 ⊢
  rw [List.cons_append]
  rw [List.all_cons, Bool.and_eq_true] at l1
  refine good_wd hu ?_
  rw [List.all_append, List.all_append, isU_wrd l1.2, hw, isD_wrd (dd_all _)]; rfl
 ·show goodT (wd (36 :: (letL r.col.toNat ++ _)))
  refine good_wd (by decide) ?_
  rw [List.all_append, List.all_append, isU_wrd l1, hw, isD_wrd (dd_all _)]; rfl
theorem fn_words : (List.range 78).all (fun i => match (rowP ((i + 1 : Nat) : Int)).1 with | [] => false | b :: l => uppB b && l.all wrdB) = true := by decide
theorem good_fn {f : Int} (h : 1 ≤ f ∧ f ≤ 78) : goodT (wd (rowP f).1) := by
 have := List.all_eq_true.1 fn_words (f.toNat - 1) (by rw [List.mem_range]; omega)
 rw [show ((f.toNat - 1 + 1 : Nat) : Int) = f by omega] at this
 rcases hr : (rowP f).1 with _ | ⟨b, l⟩
 ·rw [hr] at this; cases this
 ·rw [hr] at this
  simp only [Bool.and_eq_true] at this
  exact good_wd this.1 this.2
/-- What a tree begins with. -/
theorem head_ok : ∀ (N : Nat) (n : Nod), n.count ≤ N → n.rightN = true → ∃ u us, tkN n = u :: us ∧ ∃ b l, telT u = b :: l ∧ b ≠ 61 ∧ b ≠ 62
 | 0, .mk _ _ _ _ _ _, hN, _ => by rw [Nod.count] at hN; omega
 | N + 1, n, hN, hr => by
  have of : ∀ t : Tk, goodT t → t.kind ≠ 4 → ∃ b l, telT t = b :: l ∧ b ≠ 61 ∧ b ≠ 62 := by
   intro t hg hk
   rcases good_first hg with ⟨h4, _⟩ | ⟨_, b, l, e, hc⟩
   ·exact absurd h4 hk
   ·refine ⟨b, l, e, ?_⟩
    rcases hc with hc | rfl | hc
    ·constructor <;> (rintro rfl; cases hc)
    ·exact ⟨by decide, by decide⟩
    ·exact ⟨(upp_no hc).2.2.2.1, (upp_no hc).2.2.2.2⟩
  have h := rgt hr
  cases h with
  | num x h => exact ⟨_, _, rfl, of _ (good_num (show -9223372036854775808 < x ∧ x ≤ 9223372036854775807 by omega) h.1) (show ¬ (1 = 4) by decide)⟩
  | str x h hp => exact ⟨_, _, rfl, of _ (good_str hp) (show ¬ (2 = 4) by decide)⟩
  | tru x h =>
   rcases h with rfl | rfl
   ·exact ⟨wd wordF, [], rfl, _, _, rfl, by decide, by decide⟩
   ·exact ⟨wd wordL, [], rfl, _, _, rfl, by decide, by decide⟩
  | lost => exact ⟨_, _, rfl, _, _, rfl, by decide, by decide⟩
  | one q h => exact ⟨_, _, rfl, of _ (good_ref h) (show ¬ (3 = 4) by decide)⟩
  | range q p h h2 => exact ⟨_, _, rfl, of _ (good_ref h) (show ¬ (3 = 4) by decide)⟩
  | neg m hm hmk => exact ⟨_, _, rfl, _, _, rfl, by decide, by decide⟩
  | bin op ho m m' hm hm' hmk =>
   have hc : (binN op m m').count = m.count + (m'.count + 0) + 1 := rfl
   obtain ⟨u, us, e, h2⟩ := head_wth (k := (sgnO op).2) (P := fun u => ∃ b l, telT u = b :: l ∧ b ≠ 61 ∧ b ≠ 62) ⟨_, _, rfl, by decide, by decide⟩ (head_ok N m (by omega) hm)
   exact ⟨u, _, by rw [tk_bin, e]; rfl, h2⟩
  | call f l hf hl hkl => exact ⟨_, _, rfl, of _ (good_fn (fits_rng hf)) (show ¬ (3 = 4) by decide)⟩
theorem head_q {u : Tk} {us r : List Tk} {q : List UInt8} (e : r = u :: us) (h : ∃ b l, telT u = b :: l ∧ b ≠ 61 ∧ b ≠ 62) : (texT r ++ q).head? ≠ some 61 ∧ (texT r ++ q).head? ≠ some 62 := by
 obtain ⟨b, l, e2, h1, h2⟩ := h
 rw [e, texT_cons, e2]
 exact ⟨fun hh => h1 (Option.some.inj hh), fun hh => h2 (Option.some.inj hh)⟩
theorem fol_sg {x q : List UInt8} (h : x ≠ [60] ∧ x ≠ [62]) : folT (sgt x) q := by
 unfold folT; rw [if_pos (show (sgt x).kind = 4 from rfl)]
 rintro (hh | hh)
 ·exact absurd hh h.1
 ·exact absurd hh h.2
theorem fol_sg2 {x q : List UInt8} (h : q.head? ≠ some 61 ∧ q.head? ≠ some 62) : folT (sgt x) q := by
 unfold folT; rw [if_pos (show (sgt x).kind = 4 from rfl)]
 exact fun _ => h
theorem fol_no {t : Tk} {q : List UInt8} (hk : t.kind ≠ 4) (h : sepW q) : folT t q := by
 unfold folT; rw [if_neg hk]; exact h
theorem ok_wth {k : Nat} {n : Nod} (h : ∀ q, sepW q → okL (tkN n) q) {q : List UInt8} (hq : sepW q) : okL (wth k n) q := by
 unfold wth wthC
 split
 ·exact h q hq
 ·refine ⟨⟨good_sg (by decide), fol_sg ⟨by decide, by decide⟩⟩, okL_app _ _ _ (h _ ?_) ⟨⟨good_sg (by decide), fol_sg ⟨by decide, by decide⟩⟩, trivial⟩⟩
  exact sepW_b (by decide) _
theorem ok_com {q : List UInt8} (hq : sepW q) : ∀ l : List Nod, (∀ n ∈ l, ∀ q, sepW q → okL (tkN n) q) → okL (comC (tkNs l)) q
 | [], _ => trivial
 | [n], h => h n (List.mem_cons_self ..) q hq
 | n :: m :: l, h => by
  show okL (tkN n ++ sgt [44] :: comC (tkNs (m :: l))) q
  refine okL_app _ _ _ (h n (List.mem_cons_self ..) _ (sepW_b (by decide) _)) ⟨⟨good_sg (by decide), fol_sg ⟨by decide, by decide⟩⟩, ?_⟩
  exact ok_com hq (m :: l) fun x hx => h x (List.mem_cons_of_mem _ hx)
theorem ok_tk : ∀ (N : Nat) (n : Nod), n.count ≤ N → n.rightN = true → ∀ q, sepW q → okL (tkN n) q
 | 0, .mk _ _ _ _ _ _, hN, _, _, _ => by rw [Nod.count] at hN; omega
 | N + 1, n, hN, hr, q, hq => by
  have one : ∀ t : Tk, goodT t → t.kind ≠ 4 → okL [t] q := fun t hg hk => ⟨⟨hg, fol_no hk hq⟩, trivial⟩
  have h := rgt hr
  cases h with
  | num x h => exact one _ (good_num (show -9223372036854775808 < x ∧ x ≤ 9223372036854775807 by omega) h.1) (show ¬ (1 = 4) by decide)
  | str x h hp => exact one _ (good_str hp) (show ¬ (2 = 4) by decide)
  | tru x h =>
   rcases h with rfl | rfl
   ·exact one (wd wordF) (good_wd (by decide) (by decide)) (show ¬ (3 = 4) by decide)
   ·exact one (wd wordL) (good_wd (by decide) (by decide)) (show ¬ (3 = 4) by decide)
  | lost => exact ⟨⟨good_sg (by decide), fol_sg ⟨by decide, by decide⟩⟩, trivial⟩
  | one r h => exact one _ (good_ref h) (show ¬ (3 = 4) by decide)
  | range a b h h2 =>
   refine ⟨⟨good_ref h, fol_no (show ¬ (3 = 4) by decide) (sepW_b (by decide) _)⟩, ⟨good_sg (by decide), fol_sg ⟨by decide, by decide⟩⟩, ⟨good_ref h2, fol_no (show ¬ (3 = 4) by decide) hq⟩, trivial⟩
  | neg m hm hmk =>
   have hc : (negN m).count = m.count + 0 + 1 := rfl
   exact ⟨⟨good_sg (by decide), fol_sg ⟨by decide, by decide⟩⟩, ok_wth (ok_tk N m (by omega) hm) hq⟩
  | bin op ho m m' hm hm' hmk =>
   have hc : (binN op m m').count = m.count + (m'.count + 0) + 1 := rfl
   obtain ⟨hs, b, l, eb, hb⟩ := op_sig ho
   rw [tk_bin]
   refine okL_app _ _ _ (ok_wth (ok_tk N m (by omega) hm) ?_) ⟨⟨good_sg hs, fol_sg2 ?_⟩, ok_wth (ok_tk N m' (by omega) hm') hq⟩
   ·show sepW (((sgnO op).1 ++ _) ++ q)
    rw [eb]
    exact sepW_b hb _
   ·obtain ⟨u, us, e, h2⟩ := head_wth (k := (sgnO op).2 + 1) (P := fun u => ∃ b l, telT u = b :: l ∧ b ≠ 61 ∧ b ≠ 62) ⟨_, _, rfl, by decide, by decide⟩ (head_ok _ m' (Nat.le_refl _) hm')
    exact head_q e h2
  | call f l hf hl hkl =>
   have hc : (callN f l).count = counts l + 1 := rfl
   rw [tk_call]
   refine ⟨⟨good_fn (fits_rng hf), fol_no (show ¬ (3 = 4) by decide) (sepW_b (by decide) _)⟩, ⟨good_sg (by decide), fol_sg ⟨by decide, by decide⟩⟩, ?_⟩
   refine okL_app _ _ _ (ok_com (sepW_b (by decide) _) l fun x hx q hq => ?_) ⟨⟨good_sg (by decide), fol_sg ⟨by decide, by decide⟩⟩, trivial⟩
   have := count_mem hx
   exact ok_tk N x (by omega) (rights_mem hl hx) q hq
/-- A formula's text is parsed as it. -/
theorem tex_back {n : Nod} (hr : n.rightN = true) (hk : n.kind ≠ 4) : ∃ us, lexL 0 (texN n) = .inr us ∧ allP fnumP us n := by
 obtain ⟨vs, h1, h2⟩ := lex_cat (tkN n) 0 [] (ok_tk _ n (Nat.le_refl _) hr [] (.inl rfl))
 rw [List.append_nil, lexL_nil] at h2
 refine ⟨_, h2, ?_⟩
 obtain ⟨F, hF⟩ := (tk_back _ n (Nat.le_refl _) hr hk).2 1 (by decide) (by decide) ⟨5, 0, [], 0⟩ [] ⟨rfl, fun j _ _ h => absurd h (by decide)⟩ 1 _ (loop_end fun h => absurd h (by decide))
 have hb : wth 1 n = tkN n := by
  refine wth_le ?_
  by_cases h6 : n.kind = 6
  ·cases rgt hr with
   | bin op ho m m' _ _ _ => rw [binds_bin]; exact (op_tok ho).1.1
   | num => exact absurd h6 (show ¬ (1 : Int) = 6 by decide)
   | str => exact absurd h6 (show ¬ (1 : Int) = 6 by decide)
   | tru => exact absurd h6 (show ¬ (1 : Int) = 6 by decide)
   | lost => exact absurd h6 (show ¬ (2 : Int) = 6 by decide)
   | one => exact absurd h6 (show ¬ (3 : Int) = 6 by decide)
   | range => exact absurd h6 (show ¬ (4 : Int) = 6 by decide)
   | neg => exact absurd h6 (show ¬ (5 : Int) = 6 by decide)
   | call => exact absurd h6 (show ¬ (7 : Int) = 6 by decide)
  ·rw [binds_no h6]; omega
 rw [hb] at hF
 refine allP_z fnumP ?_ ⟨F, _, hF, rfl⟩
 rw [List.map_append, List.map_append, h1]
 rfl
end Go.Den
/- What is parsed is told in no more bytes: the plain part. -/
set_option linter.unusedVariables false
set_option linter.unusedSimpArgs false
namespace Go.Den
open Go Go.Proofs
theorem cut_total : ∀ l : List UInt8, l.length = (cutL l).1.length + ((cutL l).2.1.length + if (cutL l).2.2 = true then 1 else 0)
 | [] => rfl
 | b :: l => by
  have := cut_total l
  rw [cutL]
  by_cases h : b = 46
  ·rw [if_pos h]; simp
  ·rw [if_neg h]
   simp only [List.length_cons]
   omega
theorem frac_len2 : ∀ (k d r : Nat), k ≤ 4 → r < 10000 → r % 10 ^ (4 - k) = 0 → (fracL d r).length ≤ k
 | k, 0, r, _, _, _ => Nat.zero_le _
 | 0, d + 1, r, _, h, hz => by
  have : r = 0 := by simp at hz; omega
  rw [fracL, if_pos this]; exact Nat.le_refl _
 | k + 1, d + 1, r, hk, h, hz => by
  rw [fracL]
  split
  ·exact Nat.zero_le _
  ·have := frac_len2 k d (r % 1000 * 10) (by omega) (by omega) (by
    have hd' : k = 0 ∨ k = 1 ∨ k = 2 ∨ k = 3 := by omega
    rcases hd' with rfl | rfl | rfl | rfl <;> simp at hz ⊢ <;> omega)
   rw [List.length_cons]; omega
theorem num_len {w : List UInt8} (hm : minusL w = false) (h : (readL w).2 = true) : (texS (readL w).1).length ≤ w.length := by
 have hok := read_ok.2 h
 have hb : bodyL w = w := by
  unfold minusL at hm
  unfold bodyL Lib.trimPrefix
  rw [hm]; rfl
 unfold readL at h hok ⊢
 rw [hb] at h hok ⊢
 by_cases hc : w.length ≤ 40 ∧ rightL (cutL w)
 ·rw [if_pos hc] at hok ⊢
  rw [hm, if_neg (by decide)] at hok ⊢
  dsimp only at hok ⊢
  obtain ⟨_, h1, h2, h3, h4⟩ := hc
  have ht := cut_total w
  have hz := (cut_len w).2.2
  unfold texS
  rw [if_pos hok, tex_str, if_neg (by omega), List.nil_append]
  unfold totL
  generalize hC : cutL w = C at *
  obtain ⟨a, z, p⟩ := C
  dsimp only at *
  have ea : valL a 0 + 1 ≤ (0 + 1) * 10 ^ a.length := val_lt a 0 h2
  have hzl : z.length ≤ 4 ∧ z.all isD = true := by
   cases p with
   | true => exact ⟨(h3 rfl).2.2, (h3 rfl).2.1⟩
   | false => rw [hz rfl]; exact ⟨by simp, rfl⟩
  have ez : valL z 0 + 1 ≤ (0 + 1) * 10 ^ z.length := val_lt z 0 hzl.2
  have hlt : valL z 0 * 10 ^ (4 - z.length) < 10000 := by
   have h5 : valL z 0 * 10 ^ (4 - z.length) < 10 ^ z.length * 10 ^ (4 - z.length) := Nat.mul_lt_mul_of_pos_right (by omega) (Nat.pow_pos (by decide))
   rw [← Nat.pow_add, show z.length + (4 - z.length) = 4 by omega] at h5
   exact h5
  have hmod : valL z 0 * 10 ^ (4 - z.length) % 10 ^ (4 - z.length) = 0 := Nat.mul_mod_left _ _
  generalize valL z 0 * 10 ^ (4 - z.length) = y at *
  have e1 : ((valL a 0 * 10000 + y : Nat) : Int).natAbs / 10000 = valL a 0 := by omega
  have e2 : ((valL a 0 * 10000 + y : Nat) : Int).natAbs % 10000 = y := by omega
  rw [e1, e2]
  have ha : 1 ≤ a.length := by
   rcases a with _ | ⟨b, a⟩
   ·exact absurd rfl h1
   ·simp
  have l1 := dd_len (a.length - 1) (valL a 0) (by rw [show a.length - 1 + 1 = a.length by omega]; omega)
  have l2 := frac_len2 z.length 4 y hzl.1 hlt hmod
  unfold strD
  rw [List.length_append]
  by_cases hf : fracL 4 y = []
  ·rw [if_pos hf]; simp only [List.length_nil]; omega
  ·rw [if_neg hf]
   have : p = true := by
    cases p with
    | true => rfl
    | false =>
     have := hz rfl
     subst this
     exact absurd (List.eq_nil_of_length_eq_zero (by simpa using l2)) hf
   subst this
   rw [if_pos rfl] at ht
   simp only [List.length_cons]
   omega
 ·rw [if_neg hc] at h; cases h
theorem dbl_str : ∀ (l : List UInt8) (r : List UInt8 × Nat), strL l = some r → (dblL r.1).length + 1 = r.2
 | [], r, h => by rw [strL] at h; cases h
 | [b], r, h => by
  rw [strL] at h
  split at h
  ·cases h
  ·split at h
   ·cases h; rfl
   ·cases h
 | b :: c :: l, r, h => by
  rw [strL] at h
  split at h
  ·cases h
  ·split at h
   ·split at h
    ·obtain ⟨r', h1, rfl⟩ := Option.map_eq_some_iff.1 h
     have := dbl_str l r' h1
     show (dblL (34 :: r'.1)).length + 1 = r'.2 + 2
     rw [dblL, if_pos rfl]
     simp only [List.length_cons]; omega
    ·cases h; rfl
   ·rename_i hb
    obtain ⟨r', h1, rfl⟩ := Option.map_eq_some_iff.1 h
    have := dbl_str (c :: l) r' h1
    show (dblL (b :: r'.1)).length + 1 = r'.2 + 1
    rw [dblL, if_neg hb]
    simp only [List.length_cons]; omega
theorem tel_le {s : List UInt8} {t : Tk} {n : Nat} (h : nextL s = some (t, n)) : (telT t).length ≤ n := by
 rcases s with _ | ⟨b, l⟩
 ·cases h
 have hle := next_le h
 rw [nextL] at h
 by_cases h1 : isD b = true
 ·rw [if_pos h1] at h
  by_cases h2 : (leadL (b :: l)).2.2 = true
  ·rw [if_pos h2] at h
   have e : t = ⟨1, 0, [], (leadL (b :: l)).1⟩ := by injection h with h; injection h with h; exact h.symm
   have e2 : n = leadn (b :: l) := by injection h with h; injection h with h h3; exact h3.symm
   subst e e2
   have hln := leadn_le (b :: l)
   have hlp := leadn_pos (l := l) h1
   unfold leadL at h2 ⊢
   by_cases h3 : (readL ((b :: l).take (leadn (b :: l)))).2 = true
   ·rw [if_pos h3]
    show (texS (readL ((b :: l).take (leadn (b :: l)))).1).length ≤ _
    refine Nat.le_trans (num_len ?_ h3) (by rw [List.length_take]; omega)
    obtain ⟨m, hm⟩ : ∃ m, leadn (b :: l) = m + 1 := ⟨leadn (b :: l) - 1, by omega⟩
    rw [hm, List.take_succ_cons]
    rw [(minus_eq b _).1]
    have := isD_rng h1
    rw [beq_eq_false_iff_ne]
    omega
   ·rw [if_neg h3] at h2; cases h2
  ·rw [if_neg h2] at h; cases h
 ·rw [if_neg h1] at h
  by_cases h2 : b = 34
  ·rw [if_pos h2] at h
   obtain ⟨r, h3, h4⟩ := Option.map_eq_some_iff.1 h
   cases h4
   have := dbl_str l r h3
   show (quoL r.1).length ≤ _
   unfold quoL
   simp only [List.length_cons, List.length_append, List.length_nil]; omega
  ·rw [if_neg h2] at h
   by_cases h3 : uppB b = true
   ·rw [if_pos h3] at h
    cases h
    show (b :: l.take (runW l)).length ≤ _
    rw [List.length_cons, List.length_take]; omega
   ·rw [if_neg h3] at h
    obtain ⟨r, h4, h5⟩ := Option.map_eq_some_iff.1 h
    cases h5
    exact Nat.le_refl _
/-- The tokens' texts are no longer than the text. -/
theorem lex_src : ∀ (N a : Nat) (s : List UInt8) (l : List Tk), s.length ≤ N → lexL a s = .inr l → (texT l).length ≤ s.length
 | _, a, [], l, _, h => by
  rw [lexL_nil] at h
  cases h
  exact Nat.le_refl _
 | 0, a, b :: s, l, hl, _ => by simp at hl
 | N + 1, a, b :: s, l, hl, h => by
  by_cases hb : b = 32
  ·subst hb
   rw [lexL_blank] at h
   have := lex_src N (a + 1) s l (by simp at hl; omega) h
   rw [List.length_cons]; omega
  ·cases hn : nextL (b :: s) with
   | none => rw [lexL_bad hb hn] at h; cases h
   | some r =>
    obtain ⟨t, n⟩ := r
    obtain ⟨n0, n1⟩ := next_le hn
    rw [lexL_tok hb hn] at h
    have hlen : ((b :: s).drop n).length = (b :: s).length - n := List.length_drop
    cases hr : lexL (a + n) ((b :: s).drop n) with
    | inl e => rw [hr] at h; cases h
    | inr l' =>
     rw [hr] at h
     cases h
     have := lex_src N (a + n) _ l' (by rw [hlen]; omega) hr
     have h2 := tel_le hn
     rw [texT_cons, List.length_append]
     show (telT t).length + _ ≤ _
     omega
/-- References and names are no longer. -/
theorem colN_one (b : UInt8) (h : isU b = true) : colN [b] = b.toNat - 65 + 1 := by show 0 * 26 + (b.toNat - 65) + 1 = _; omega
theorem cutD_len (t : List UInt8) : t.length = (cutD t).1.length + (if (cutD t).2 = true then 1 else 0) := by
 rcases t with _ | ⟨b, l⟩
 ·rfl
 ·unfold cutD
  dsimp only
  split <;> simp
theorem ref_len {w : List UInt8} {r : Rf} (h : refP w = some r) : (wrdR r).length ≤ w.length := by
 unfold refP at h
 dsimp only at h
 have e1 := cutD_len w
 generalize hu : (cutD w).1 = u at *
 have e2 := cutD_len (u.drop (runU u))
 have e3 : u.length = (u.take (runU u)).length + (u.drop (runU u)).length := by rw [← List.length_append, List.take_append_drop]
 generalize u.take (runU u) = c at *
 generalize u.drop (runU u) = d at *
 split at h
 ·rename_i cc rr hc hr
  cases h
  unfold colL at hc
  split at hc
  ·rename_i h1
   cases hc
   unfold rowL at hr
   split at hr
   ·rename_i h2
    cases hr
    have l1 : (letL ((colN c : Int) - 1).toNat).length ≤ c.length := by
     unfold letL
     by_cases h26 : ((colN c : Int) - 1).toNat < 26
     ·rw [if_pos h26]; simpa using h1.1.1
     ·rw [if_neg h26]
      rcases c with _ | ⟨x, _ | ⟨y, c⟩⟩
      ·simp at h1
      ·exfalso
       have hx : isU x = true := by have := h1.2; rw [List.all_cons, Bool.and_eq_true] at this; exact this.1
       rw [colN_one x hx] at h26
       unfold isU at hx
       simp only [Bool.and_eq_true, decide_eq_true_eq] at hx
       omega
      ·simp
    have l2 : (Lib.decDigits (((rowN (cutD d).1 : Int) - 1).toNat + 1)).length ≤ (cutD d).1.length := by
     have h3 : valL (cutD d).1 0 + 1 ≤ (0 + 1) * 10 ^ (cutD d).1.length := val_lt _ 0 h2.2.2
     have h4 : rowN (cutD d).1 = valL (cutD d).1 0 := rowN_val _ 0
     have h5 : 10 ^ 1 ≤ 10 ^ (cutD d).1.length := Nat.pow_le_pow_right (by decide) h2.1.1
     have := dd_len ((cutD d).1.length - 1) (((rowN (cutD d).1 : Int) - 1).toNat + 1) (by rw [show (cutD d).1.length - 1 + 1 = (cutD d).1.length by omega]; omega)
     omega
    unfold wrdR
    dsimp only
    rw [List.length_append, List.length_append, List.length_append]
    have i1 : ∀ b : Bool, (if b = true then [36] else [] : List UInt8).length = if b = true then 1 else 0 := by intro b; cases b <;> rfl
    rw [i1, i1]
    omega
   ·cases hr
  ·cases hc
 ·cases h
theorem find_cases : ∀ (l : List (List UInt8 × List UInt8)) (k : Nat) (w : List UInt8), findF l k w = 0 ∨ ∃ i, ∃ h : i < l.length, findF l k w = k + i ∧ (l[i]).1 = w
 | [], k, w => .inl rfl
 | r :: l, k, w => by
  rw [findF]
  by_cases h : r.1 = w
  ·rw [if_pos h]; exact .inr ⟨0, by simp, rfl, h⟩
  ·rw [if_neg h]
   rcases find_cases l (k + 1) w with h2 | ⟨i, h2, h3, h4⟩
   ·exact .inl h2
   ·exact .inr ⟨i + 1, by simp; omega, by omega, by simpa using h4⟩
theorem fnRows_len : fnRows.length = 78 := by decide
theorem fn_name (w : List UInt8) : fnumP w = 0 ∨ (1 ≤ fnumP w ∧ fnumP w ≤ 78 ∧ (rowP (fnumP w)).1 = w) := by
 unfold fnumP
 rcases find_cases fnRows 1 w with h | ⟨i, h1, h2, h3⟩
 ·rw [h]; exact .inl rfl
 ·rw [h2]
  have hl := fnRows_len
  refine .inr ⟨by omega, by omega, ?_⟩
  unfold rowP
  rw [if_pos (by omega), show ((1 + i : Nat) : Int).toNat - 1 = i by omega]
  rw [List.getD_eq_getElem?_getD, List.getElem?_eq_getElem h1]
  exact h3
theorem name_len (w : List UInt8) : (rowP (fnumP w)).1.length ≤ w.length := by
 rcases fn_name w with h | ⟨_, _, h⟩
 ·rw [h]; exact Nat.zero_le _
 ·rw [h]; exact Nat.le_refl _
/-- Lengths. -/
def lenK (k : Nat) (n : Nod) : Nat := (texT (wth k n)).length
def sl (us : List Tk) : Nat := (texT us).length
theorem sl_cons (t : Tk) (us : List Tk) : sl (t :: us) = (telT t).length + sl us := by unfold sl; rw [texT_cons, List.length_append]
theorem sl_app (us vs : List Tk) : sl (us ++ vs) = sl us + sl vs := by unfold sl; rw [texT_app, List.length_append]
theorem lenK_mono {k k' : Nat} (h : k ≤ k') (n : Nod) : lenK k n ≤ lenK k' n := by
 unfold lenK wth wthC
 by_cases h1 : k' ≤ bindsN n
 ·rw [if_pos h1, if_pos (by omega)]; exact Nat.le_refl _
 ·rw [if_neg h1]
  split
  ·rw [texT_cons, texT_app, List.length_append, List.length_append]; omega
  ·exact Nat.le_refl _
theorem sgnO_pos (op : Int) : 1 ≤ (sgnO op).2 ∧ (sgnO op).2 ≤ 5 := by
 unfold sgnO
 repeat' split
 all_goals exact ⟨by decide, by decide⟩
theorem binds_pos (n : Nod) : 1 ≤ bindsN n := by
 unfold bindsN
 split
 ·exact (sgnO_pos _).1
 ·decide
theorem len_1 (n : Nod) : lenK 1 n = (texN n).length := by unfold lenK; rw [wth_le (binds_pos n)]; rfl
theorem len_le {k : Nat} {n : Nod} (h : k ≤ bindsN n) : lenK k n = (texN n).length := by unfold lenK; rw [wth_le h]; rfl
theorem len_brk (n : Nod) (k : Nat) : lenK k n ≤ (texN n).length + 2 := by
 unfold lenK wth wthC
 split
 ·show (texT (tkN n)).length ≤ (texT (tkN n)).length + 2; omega
 ·rw [texT_cons, texT_app, List.length_append, List.length_append]
  show 1 + ((texT (tkN n)).length + 1) ≤ (texT (tkN n)).length + 2
  omega
theorem lvls_op {k : Nat} {x : List UInt8} (h : lvls k x ≠ 0) : sgnO (lvls k x : Nat) = (x, k) := by
 unfold lvls at h ⊢
 split
 ·repeat' (split; · rename_i e; rw [e]; rfl)
  exfalso; revert h; simp only []; repeat' (split; · contradiction)
  simp
 ·split
  ·rename_i e; rw [e]; rfl
  ·exfalso; revert h; simp only []; split <;> simp_all
 ·split
  ·rename_i e; rw [e]; rfl
  ·split
   ·rename_i e; rw [e]; rfl
   ·exfalso; revert h; simp only []; simp_all
 ·split
  ·rename_i e; rw [e]; rfl
  ·split
   ·rename_i e; rw [e]; rfl
   ·exfalso; revert h; simp only []; simp_all
 ·split
  ·rename_i e; rw [e]; rfl
  ·exfalso; revert h; simp only []; simp_all
 ·exfalso; simp_all
theorem tel_4 {t : Tk} (h : t.kind = 4) : telT t = t.text := by unfold telT; rw [h]; rfl
theorem tel_3 {t : Tk} (h : t.kind = 3) : telT t = t.text := by unfold telT; rw [h]; rfl
theorem sl_sg {x : List UInt8} {ts : List Tk} (h : sgT x ts = true) : sl ts = x.length + sl ts.tail := by
 obtain ⟨t, r, rfl, h1, h2⟩ := sgT_cons h
 rw [sl_cons, tel_4 h1, h2]; rfl
def argL : List Nod → Nat
 | [] => 0
 | n :: l => (texN n).length + 1 + argL l
theorem argL_app (l : List Nod) (n : Nod) : argL (l ++ [n]) = argL l + (texN n).length + 1 := by
 induction l with
 | nil => show _ + 1 + 0 = 0 + _ + 1; omega
 | cons m l ih => show _ + 1 + argL (l ++ [n]) = _ + 1 + argL l + _ + 1; omega
theorem com_len : ∀ l : List Nod, l ≠ [] → sl (comC (tkNs l)) + 1 = argL l
 | [], h => absurd rfl h
 | [n], _ => rfl
 | n :: m :: l, _ => by
  have := com_len (m :: l) (by simp)
  show sl (tkN n ++ sgt [44] :: comC (tkNs (m :: l))) + 1 = (texN n).length + 1 + argL (m :: l)
  rw [sl_app, sl_cons]
  show (texN n).length + (1 + sl (comC (tkNs (m :: l)))) + 1 = _
  omega
def bnd (g : Go1) (ts : List Tk) (n : Nod) (r : List Tk) : Prop := match g with
 | .B k => k ≤ 6 → lenK k n + sl r ≤ sl ts
 | .L k m => lenK k n + sl r ≤ lenK k m + sl ts
 | .S => lenK 6 n + sl r ≤ sl ts
 | .A => lenK 6 n + sl r ≤ sl ts
 | .W w => lenK 6 n + sl r ≤ w.length + sl ts
 | .R f l => lenK 6 n + sl r ≤ (rowP f).1.length + 1 + argL l + sl ts
 | .G => (texN n).length + sl r ≤ sl ts
theorem len6_no {n : Nod} (h : n.kind ≠ 6) : lenK 6 n = (texN n).length := len_le (by rw [binds_no h]; omega)
theorem rng_len {ts : List Tk} {n : Nod} {r : List Tk} (h : rngP ts = some (some (n, r))) : (texN n).length + sl r ≤ sl ts := by
 unfold rngP at h
 split at h
 ·cases h
 ·rename_i t r0
  split at h
  ·cases h
  ·rename_i a ha
   split at h
   ·rename_i hs
    have h := Option.some.inj h
    split at h
    ·cases h
    ·rename_i u r1 hu
     split at h
     ·rename_i hk
      obtain ⟨b, hb, e⟩ := Option.map_eq_some_iff.1 h
      cases e
      have hk3 : t.kind = 3 := by
       apply Classical.byContradiction; intro h3; rw [if_neg h3] at ha; cases ha
      rw [if_pos hk3] at ha
      rw [sl_cons, tel_3 hk3, sl_sg hs, hu, sl_cons, tel_3 hk]
      have := ref_len ha
      have := ref_len hb
      show (texT [wd (wrdR a), sgt [58], wd (wrdR b)]).length + sl r ≤ t.text.length + (1 + (u.text.length + sl r))
      have e2 : (texT [wd (wrdR a), sgt [58], wd (wrdR b)]).length = (wrdR a).length + (1 + (wrdR b).length) := by
       show ((wrdR a) ++ ([58] ++ ((wrdR b) ++ []))).length = _
       simp only [List.length_append, List.length_cons, List.length_nil]; omega
      omega
     ·cases h
   ·cases h
theorem pX_len : ∀ (F : Nat) (g : Go1) (ts : List Tk) (n : Nod) (r : List Tk), pX fnumP F g ts = some (n, r) → bnd g ts n r
 | 0, g, ts, n, r, h => by unfold pX at h; cases h
 | F + 1, .B level, ts, n, r, h => by
  have IH := pX_len F
  rw [pX] at h
  intro hl
  split at h
  ·rw [show level = 6 by omega]; exact IH _ _ _ _ h
  ·split at h
   ·cases h
   ·rename_i m r' h'
    have h1 := IH _ _ _ _ h' (by omega)
    have h2 : lenK level n + sl r ≤ lenK level m + sl r' := IH _ _ _ _ h
    have h3 := lenK_mono (show level ≤ level + 1 by omega) m
    omega
 | F + 1, .L level m, ts, n, r, h => by
  have IH := pX_len F
  rw [pX.eq_def] at h
  dsimp only at h
  split at h
  ·cases h
  ·rename_i t r0
   split at h
   ·rename_i ht
    split at h
    ·cases h
    ·rename_i m' r' h'
     have hop := lvls_op ht.2
     have hl5 : level ≤ 5 := by have := (sgnO_pos (lvls level t.text : Nat)).2; rw [hop] at this; exact this
     have h1 := IH _ _ _ _ h' (by omega)
     have h2 : lenK level n + sl r ≤ lenK level (binN (lvls level t.text) m m') + sl r' := IH _ _ _ _ h
     have h3 : lenK level (binN (lvls level t.text) m m') = lenK level m + (t.text.length + lenK (level + 1) m') := by
      rw [len_le (by rw [binds_bin, hop]; exact Nat.le_refl _)]
      unfold texN
      rw [tk_bin, hop]
      unfold lenK
      rw [texT_app, texT_cons, List.length_append, List.length_append]; rfl
     show lenK level n + sl r ≤ lenK level m + sl (t :: r0)
     rw [sl_cons, tel_4 ht.1]
     omega
   ·cases h; exact Nat.le_refl _
 | F + 1, .S, ts, n, r, h => by
  have IH := pX_len F
  rw [pX] at h
  split at h
  ·rename_i hs
   obtain ⟨x, h', e⟩ := Option.map_eq_some_iff.1 h
   obtain ⟨x1, x2⟩ := x
   cases e
   have h1 : lenK 6 x1 + sl x2 ≤ sl ts.tail := IH _ _ _ _ h'
   show lenK 6 (negN x1) + sl x2 ≤ sl ts
   rw [sl_sg hs, len6_no (n := negN x1) (show (5 : Int) ≠ 6 by decide)]
   show (texT (sgt [45] :: wth 6 x1)).length + sl x2 ≤ 1 + sl ts.tail
   rw [texT_cons, List.length_append]
   show 1 + lenK 6 x1 + sl x2 ≤ _
   omega
  ·have h1 : lenK 6 n + sl r ≤ sl ts := IH .A _ _ _ h
   exact h1
 | F + 1, .A, ts, n, r, h => by
  have IH := pX_len F
  rw [pX.eq_def] at h
  dsimp only at h
  split at h
  ·cases h
  ·rename_i t r0
   split at h
   ·rename_i hk
    cases h
    show lenK 6 (litN ⟨1, t.num, ⟨#[]⟩⟩) + sl r ≤ _
    rw [len6_no (n := litN ⟨1, t.num, ⟨#[]⟩⟩) (show (1 : Int) ≠ 6 by decide), sl_cons]
    have e : telT t = texS t.num := by unfold telT; rw [if_pos hk]
    rw [e]
    have : texN (litN ⟨1, t.num, ⟨#[]⟩⟩) = texS t.num ++ [] := rfl
    rw [this, List.append_nil]; exact Nat.le_refl _
   split at h
   ·rename_i hk1 hk
    cases h
    show lenK 6 (litN ⟨2, 0, ⟨t.text.toArray⟩⟩) + sl r ≤ _
    rw [len6_no (n := litN ⟨2, 0, ⟨t.text.toArray⟩⟩) (show (1 : Int) ≠ 6 by decide), sl_cons]
    have e : telT t = quoL t.text := by unfold telT; rw [if_neg hk1, if_pos hk]
    rw [e]
    have : texN (litN ⟨2, 0, ⟨t.text.toArray⟩⟩) = quoL t.text ++ [] := rfl
    rw [this, List.append_nil]; exact Nat.le_refl _
   split at h
   ·rename_i hk
    have h1 : lenK 6 n + sl r ≤ t.text.length + sl r0 := IH _ _ _ _ h
    show _ ≤ sl (t :: r0)
    rw [sl_cons, tel_3 hk]; exact h1
   split at h
   ·rename_i hs
    cases h
    show lenK 6 lostN + sl r ≤ _
    rw [sl_sg hs, List.tail_cons]; exact Nat.le_refl _
   split at h
   ·rename_i hs
    split at h
    ·cases h
    ·rename_i m u h'
     split at h
     ·rename_i hs2
      cases h
      have h1 : lenK 1 n + sl u ≤ sl r0 := IH _ _ _ _ h' (by decide)
      show lenK 6 n + sl u.tail ≤ _
      rw [sl_sg hs, List.tail_cons]
      have h2 := sl_sg hs2
      have h3 := len_brk n 6
      rw [len_1] at h1
      simp only [List.length_cons, List.length_nil] at h2 ⊢
      omega
     ·cases h
   ·cases h
 | F + 1, .W w, ts, n, r, h => by
  have IH := pX_len F
  rw [pX] at h
  split at h
  ·rename_i hs
   split at h
   ·rename_i hs2
    cases h
    show lenK 6 (callN (fnumP w) []) + sl ts.tail.tail ≤ w.length + sl ts
    rw [sl_sg hs, sl_sg hs2, len6_no (n := callN (fnumP w) []) (show (7 : Int) ≠ 6 by decide)]
    have := name_len w
    have e : texN (callN (fnumP w) []) = (rowP (fnumP w)).1 ++ ([40] ++ ([41] ++ [])) := rfl
    rw [e]
    simp only [List.length_append, List.length_cons, List.length_nil]
    omega
   ·have h1 : lenK 6 n + sl r ≤ (rowP (fnumP w)).1.length + 1 + argL [] + sl ts.tail := IH _ _ _ _ h
    have := name_len w
    show _ ≤ w.length + sl ts
    rw [sl_sg hs]
    have e0 : argL [] = 0 := rfl
    simp only [List.length_cons, List.length_nil]
    omega
  split at h
  ·rename_i hw
   cases h
   show lenK 6 (litN ⟨3, 1, ⟨#[]⟩⟩) + sl ts ≤ w.length + sl ts
   rw [len6_no (n := litN ⟨3, 1, ⟨#[]⟩⟩) (show (1 : Int) ≠ 6 by decide), hw]; exact Nat.le_refl _
  split at h
  ·rename_i _ hw
   cases h
   show lenK 6 (litN ⟨3, 0, ⟨#[]⟩⟩) + sl ts ≤ w.length + sl ts
   rw [len6_no (n := litN ⟨3, 0, ⟨#[]⟩⟩) (show (1 : Int) ≠ 6 by decide), hw]; exact Nat.le_refl _
  obtain ⟨x, hx, e⟩ := Option.map_eq_some_iff.1 h
  cases e
  show lenK 6 (oneN x) + sl ts ≤ w.length + sl ts
  rw [len6_no (n := oneN x) (show (3 : Int) ≠ 6 by decide)]
  have e : texN (oneN x) = wrdR x ++ [] := rfl
  rw [e, List.append_nil]
  have := ref_len hx
  omega
 | F + 1, .R f l, ts, n, r, h => by
  have IH := pX_len F
  rw [pX] at h
  split at h
  ·cases h
  ·rename_i m u h'
   have h1 : (texN m).length + sl u ≤ sl ts := IH _ _ _ _ h'
   split at h
   ·rename_i hs
    cases h
    show lenK 6 (callN f (l ++ [m])) + sl u.tail ≤ (rowP f).1.length + 1 + argL l + sl ts
    rw [len6_no (n := callN f (l ++ [m])) (show (7 : Int) ≠ 6 by decide)]
    have h2 := sl_sg hs
    have h3 := com_len (l ++ [m]) (by simp)
    rw [argL_app] at h3
    unfold texN
    rw [tk_call, texT_cons, texT_cons, texT_app]
    show ((rowP f).1 ++ ([40] ++ (_ ++ ([41] ++ [])))).length + _ ≤ _
    have e : (texT (comC (tkNs (l ++ [m])))).length = sl (comC (tkNs (l ++ [m]))) := rfl
    simp only [List.length_append, List.length_cons, List.length_nil] at h2 ⊢
    rw [e]
    omega
   split at h
   ·rename_i _ hs
    have h2 : lenK 6 n + sl r ≤ (rowP f).1.length + 1 + argL (l ++ [m]) + sl u.tail := IH _ _ _ _ h
    rw [argL_app] at h2
    have h3 := sl_sg hs
    show lenK 6 n + sl r ≤ (rowP f).1.length + 1 + argL l + sl ts
    simp only [List.length_cons, List.length_nil] at h3
    omega
   ·cases h
 | F + 1, .G, ts, n, r, h => by
  have IH := pX_len F
  rw [pX] at h
  split at h
  ·rename_i x hx
   subst h
   exact rng_len hx
  ·have h1 : lenK 1 n + sl r ≤ sl ts := IH _ _ _ _ h (by decide)
   rw [len_1] at h1
   exact h1
end Go.Den
/- What is parsed is no monster: the plain part. -/
set_option linter.unusedVariables false
set_option linter.unusedSimpArgs false
namespace Go.Den
open Go Go.Proofs
def tkOk (t : Tk) : Prop := t.text.length ≤ 1000000 ∧ I64 t.num
theorem ok_lit (k x : Int) (t : ByteArray) (h : t.size ≤ 1000000) (hx : I64 x) : (litN ⟨k, x, t⟩).ok := by
 rw [litN, Nod.ok]
 exact ⟨⟨by dsimp only; omega, hx⟩, trivial, by simp⟩
theorem zV_ok : zV.text.size ≤ 9223372036854775807 ∧ I64 zV.num := ⟨by decide, ⟨by decide, by decide⟩⟩
theorem ok_0 (k op : Int) (a b : Rf) : (Nod.mk k op zV a b []).ok := by
 rw [Nod.ok]; exact ⟨zV_ok, trivial, by simp⟩
theorem ok_neg {n : Nod} (h : n.ok) : (negN n).ok := by
 rw [negN, Nod.ok]; exact ⟨zV_ok, ⟨h, trivial⟩, by simp⟩
theorem ok_bin {op : Nat} {m n : Nod} (hm : m.ok) (h : n.ok) : (binN op m n).ok := by
 rw [binN, Nod.ok]; exact ⟨zV_ok, ⟨hm, h, trivial⟩, by simp⟩
theorem ok_call {f : Int} {l : List Nod} (h : oks l) (hl : l.length ≤ 1000000) : (callN f l).ok := by
 rw [callN, Nod.ok]; exact ⟨zV_ok, h, by omega⟩
theorem oks_app {n : Nod} (h : n.ok) : ∀ {l : List Nod}, oks l → oks (l ++ [n])
 | [], _ => ⟨h, trivial⟩
 | m :: l, ho => ⟨ho.1, oks_app h ho.2⟩
theorem rng_ok {ts : List Tk} {n : Nod} {r : List Tk} (h : rngP ts = some (some (n, r))) : n.ok := by
 unfold rngP at h
 split at h
 ·cases h
 ·split at h
  ·cases h
  ·split at h
   ·have h := Option.some.inj h
    split at h
    ·cases h
    ·split at h
     ·obtain ⟨b, hb, e⟩ := Option.map_eq_some_iff.1 h
      cases e
      exact ok_0 _ _ _ _
     ·cases h
   ·cases h
def pre (g : Go1) (ts : List Tk) : Prop := match g with
 | .L _ m => m.ok
 | .R _ l => oks l ∧ l.length + ts.length ≤ 1000000
 | _ => ts.length ≤ 1000000
theorem pX_ok (fnum : List UInt8 → Int) : ∀ (F : Nat) (g : Go1) (ts : List Tk) (n : Nod) (r : List Tk), (∀ t ∈ ts, tkOk t) → ts.length ≤ 1000000 → pX fnum F g ts = some (n, r) → pre g ts → n.ok
 | 0, g, ts, n, r, _, _, h, _ => by unfold pX at h; cases h
 | F + 1, .B level, ts, n, r, ht, hl, h, hp => by
  have IH := pX_ok fnum F
  rw [pX] at h
  split at h
  ·exact IH _ _ _ _ ht hl h hl
  ·split at h
   ·cases h
   ·rename_i m r' h'
    have hs := pX_suf fnum F _ _ _ _ h'
    have hm := IH _ _ _ _ ht hl h' hl
    exact IH _ _ _ _ (fun t h => ht t (hs.subset h)) (by have := hs.length_le; omega) h hm
 | F + 1, .L level m, ts, n, r, ht, hl, h, hp => by
  have IH := pX_ok fnum F
  rw [pX.eq_def] at h
  dsimp only at h
  split at h
  ·cases h
  ·rename_i t r0
   have ht0 : ∀ x ∈ r0, tkOk x := fun x hx => ht x (List.mem_cons_of_mem _ hx)
   have hl0 : r0.length ≤ 1000000 := by simp at hl; omega
   split at h
   ·split at h
    ·cases h
    ·rename_i m' r' h'
     have hs := pX_suf fnum F _ _ _ _ h'
     have hm := IH _ _ _ _ ht0 hl0 h' hl0
     exact IH _ _ _ _ (fun t h => ht0 t (hs.subset h)) (by have := hs.length_le; omega) h (ok_bin (op := lvls level t.text) hp hm)
   ·cases h; exact hp
 | F + 1, .S, ts, n, r, ht, hl, h, hp => by
  have IH := pX_ok fnum F
  rw [pX] at h
  split at h
  ·obtain ⟨x, h', e⟩ := Option.map_eq_some_iff.1 h
   obtain ⟨x1, x2⟩ := x
   cases e
   have hl1 : ts.tail.length ≤ 1000000 := by rw [List.length_tail]; omega
   exact ok_neg (IH _ _ _ _ (fun t h => ht t (List.mem_of_mem_tail h)) hl1 h' hl1)
  ·exact IH _ _ _ _ ht hl h hl
 | F + 1, .A, ts, n, r, ht, hl, h, hp => by
  have IH := pX_ok fnum F
  rw [pX.eq_def] at h
  dsimp only at h
  split at h
  ·cases h
  ·rename_i t r0
   have ht0 : ∀ x ∈ r0, tkOk x := fun x hx => ht x (List.mem_cons_of_mem _ hx)
   have hl0 : r0.length ≤ 1000000 := by simp at hl; omega
   have htt := ht t (List.mem_cons_self ..)
   split at h
   ·cases h; exact ok_lit _ _ _ (by decide) htt.2
   split at h
   ·cases h; exact ok_lit _ _ _ htt.1 ⟨by decide, by decide⟩
   split at h
   ·exact IH _ _ _ _ ht0 hl0 h hl0
   split at h
   ·cases h; exact ok_0 _ _ _ _
   split at h
   ·split at h
    ·cases h
    ·rename_i m u h'
     split at h
     ·cases h
      exact IH _ _ _ _ ht0 hl0 h' hl0
     ·cases h
   ·cases h
 | F + 1, .W w, ts, n, r, ht, hl, h, hp => by
  have IH := pX_ok fnum F
  rw [pX] at h
  have hl1 : ts.tail.length ≤ 1000000 := by rw [List.length_tail]; omega
  split at h
  ·split at h
   ·cases h
    exact ok_0 _ _ _ _
   ·exact IH _ _ _ _ (fun t h => ht t (List.mem_of_mem_tail h)) hl1 h ⟨trivial, by simp; omega⟩
  split at h
  ·cases h; exact ok_lit _ _ _ (by decide) ⟨by decide, by decide⟩
  split at h
  ·cases h; exact ok_lit _ _ _ (by decide) ⟨by decide, by decide⟩
  obtain ⟨x, _, e⟩ := Option.map_eq_some_iff.1 h
  cases e
  exact ok_0 _ _ _ _
 | F + 1, .R f l, ts, n, r, ht, hl, h, hp => by
  have IH := pX_ok fnum F
  rw [pX] at h
  split at h
  ·cases h
  ·rename_i m u h'
   have hm := IH _ _ _ _ ht hl h' hl
   have hs := pX_suf fnum F _ _ _ _ h'
   have hsl := hs.length_le
   have hp2 : oks l ∧ l.length + ts.length ≤ 1000000 := hp
   split at h
   ·rename_i hsg
    cases h
    obtain ⟨t, u', e, _, _⟩ := sgT_cons hsg
    rw [e] at hsl
    simp at hsl
    exact ok_call (oks_app hm hp2.1) (by simp; omega)
   split at h
   ·rename_i _ hsg
    obtain ⟨t, u', e, _, _⟩ := sgT_cons hsg
    rw [e] at h hsl hs
    simp at hsl
    exact IH _ _ _ _ (fun t h => ht t (hs.subset (List.mem_cons_of_mem _ h))) (by omega) h ⟨oks_app hm hp2.1, by simp; omega⟩
   ·cases h
 | F + 1, .G, ts, n, r, ht, hl, h, hp => by
  have IH := pX_ok fnum F
  rw [pX] at h
  split at h
  ·rename_i x hx
   subst h
   exact rng_ok hx
  ·exact IH _ _ _ _ ht hl h hl
theorem next_tk {s : List UInt8} {t : Tk} {n : Nat} (hs : s.length ≤ 100000) (h : nextL s = some (t, n)) : t.text.length ≤ s.length ∧ I64 t.num := by
 have h0 : I64 0 := by unfold I64; omega
 rcases s with _ | ⟨b, l⟩
 ·cases h
 have hle := next_le h
 have htl := tel_le h
 rw [nextL] at h
 by_cases h1 : isD b = true
 ·rw [if_pos h1] at h
  by_cases h2 : (leadL (b :: l)).2.2 = true
  ·rw [if_pos h2] at h
   cases h
   refine ⟨Nat.zero_le _, ?_⟩
   unfold leadL
   split
   ·exact read_ok.1
   ·exact h0
  ·rw [if_neg h2] at h; cases h
 ·rw [if_neg h1] at h
  by_cases h2 : b = 34
  ·rw [if_pos h2] at h
   obtain ⟨r, h3, h4⟩ := Option.map_eq_some_iff.1 h
   cases h4
   refine ⟨?_, h0⟩
   have := dbl_str l r h3
   have h5 := strL_le l r h3
   have h6 : ∀ l : List UInt8, l.length ≤ (dblL l).length := by
    intro l
    induction l with
    | nil => exact Nat.le_refl _
    | cons b l ih => rw [dblL]; split <;> simp <;> omega
   have := h6 r.1
   show r.1.length ≤ (b :: l).length
   rw [List.length_cons]; omega
  ·rw [if_neg h2] at h
   by_cases h3 : uppB b = true
   ·rw [if_pos h3] at h
    cases h
    refine ⟨?_, h0⟩
    show (b :: l.take (runW l)).length ≤ _
    rw [List.length_cons, List.length_take, List.length_cons]; omega
   ·rw [if_neg h3] at h
    obtain ⟨r, h4, h5⟩ := Option.map_eq_some_iff.1 h
    cases h5
    exact ⟨hle.2, h0⟩
/-- The tokens of a text. -/
theorem lex_okk : ∀ (N a : Nat) (s : List UInt8) (l : List Tk), s.length ≤ N → s.length ≤ 100000 → lexL a s = .inr l → (∀ t ∈ l, tkOk t) ∧ l.length ≤ s.length + 1 ∧ l ≠ [] ∧ (∀ (i : Nat) (h : i < l.length), l[i].kind ≠ 5 → i + 1 < l.length) ∧ (∃ us e, l = us ++ [e] ∧ e.kind = 5)
 | _, a, [], l, _, _, h => by
  rw [lexL_nil] at h
  cases h
  refine ⟨?_, Nat.le_refl _, by simp, ?_, [], _, rfl, rfl⟩
  ·intro t ht
   rw [List.mem_singleton.1 ht]
   exact ⟨Nat.zero_le _, (by unfold I64; decide : I64 0)⟩
  ·intro i hi hk
   have : i = 0 := by simp at hi; omega
   subst this
   exact absurd rfl hk
 | 0, a, b :: s, l, hl, _, _ => by simp at hl
 | N + 1, a, b :: s, l, hl, h5, h => by
  by_cases hb : b = 32
  ·subst hb
   rw [lexL_blank] at h
   obtain ⟨h1, h2, h3⟩ := lex_okk N (a + 1) s l (by simp at hl; omega) (by simp at h5; omega) h
   exact ⟨h1, by rw [List.length_cons]; omega, h3⟩
  ·cases hn : nextL (b :: s) with
   | none => rw [lexL_bad hb hn] at h; cases h
   | some r =>
    obtain ⟨t, n⟩ := r
    obtain ⟨n0, n1⟩ := next_le hn
    rw [lexL_tok hb hn] at h
    have hlen : ((b :: s).drop n).length = (b :: s).length - n := List.length_drop
    cases hr : lexL (a + n) ((b :: s).drop n) with
    | inl e => rw [hr] at h; cases h
    | inr l' =>
     rw [hr] at h
     cases h
     obtain ⟨h1, h2, h3, h4, us, e, h6, h7⟩ := lex_okk N (a + n) _ l' (by rw [hlen]; omega) (by rw [hlen]; omega) hr
     have ht := next_tk h5 hn
     refine ⟨?_, ?_, by simp, ?_, t.put a :: us, e, by rw [h6]; rfl, h7⟩
     ·intro x hx
      rcases List.mem_cons.1 hx with rfl | hx
      ·exact ⟨by have : t.text.length ≤ (b :: s).length := ht.1; show t.text.length ≤ 1000000; omega, ht.2⟩
      ·exact h1 x hx
     ·rw [List.length_cons]; omega
     ·intro i hi hk
      rcases i with _ | i
      ·have : 0 < l'.length := List.length_pos_iff.2 h3
       rw [List.length_cons]; omega
      ·have := h4 i (by simp at hi; omega) hk
       rw [List.length_cons]; omega
theorem wth_length {k : Nat} {n : Nod} {m : Nat} (h : m ≤ (tkN n).length) : m ≤ (wth k n).length := by
 unfold wth wthC
 split
 ·exact h
 ·simp only [List.length_cons, List.length_append]; omega
theorem com_count : ∀ l : List Nod, (∀ n ∈ l, n.count ≤ (tkN n).length) → counts l ≤ (comC (tkNs l)).length
 | [], _ => Nat.zero_le _
 | [n], h => by
  have := h n (List.mem_cons_self ..)
  show n.count + 0 ≤ (tkN n).length
  omega
 | n :: m :: l, h => by
  have h1 := h n (List.mem_cons_self ..)
  have h2 := com_count (m :: l) fun x hx => h x (List.mem_cons_of_mem _ hx)
  show n.count + counts (m :: l) ≤ (tkN n ++ sgt [44] :: comC (tkNs (m :: l))).length
  rw [List.length_append, List.length_cons]; omega
theorem tk_count : ∀ (N : Nat) (n : Nod), n.count ≤ N → n.rightN = true → n.count ≤ (tkN n).length
 | 0, .mk _ _ _ _ _ _, hN, _ => by rw [Nod.count] at hN; omega
 | N + 1, n, hN, hr => by
  have h := rgt hr
  cases h with
  | num x h => exact Nat.le_refl _
  | str x h hp => exact Nat.le_refl _
  | tru x h => exact Nat.le_refl _
  | lost => exact Nat.le_refl _
  | one q h => exact Nat.le_refl _
  | range q p h h2 => show 0 + 1 ≤ 3; omega
  | neg m hm hmk =>
   have hc : (negN m).count = m.count + 0 + 1 := rfl
   have := wth_length (k := 6) (tk_count N m (by omega) hm)
   rw [tk_neg, List.length_cons]; omega
  | bin op ho m m' hm hm' hmk =>
   have hc : (binN op m m').count = m.count + (m'.count + 0) + 1 := rfl
   have h1 := wth_length (k := (sgnO op).2) (tk_count N m (by omega) hm)
   have h2 := wth_length (k := (sgnO op).2 + 1) (tk_count N m' (by omega) hm')
   rw [tk_bin, List.length_append, List.length_cons]; omega
  | call f l hf hl hkl =>
   have hc : (callN f l).count = counts l + 1 := rfl
   have := com_count l fun x hx => tk_count N x (by have := count_mem hx; omega) (rights_mem hl hx)
   rw [tk_call, List.length_cons, List.length_cons, List.length_append]; omega
theorem okL_len : ∀ (us : List Tk) (q : List UInt8), okL us q → us.length ≤ (texT us).length
 | [], _, _ => Nat.le_refl _
 | t :: us, q, h => by
  obtain ⟨⟨⟨_, ⟨b, l, e, _⟩, _⟩, _⟩, h2⟩ := h
  have := okL_len us q h2
  rw [texT_cons, List.length_append, e, List.length_cons, List.length_cons]; omega
theorem count_tex {n : Nod} (h : n.rightN = true) : n.count ≤ (texN n).length :=
 Nat.le_trans (tk_count _ n (Nat.le_refl _) h) (okL_len _ _ (ok_tk _ n (Nat.le_refl _) h [] (.inl rfl)))
/-- Parse: the tree, or why there is none (1, 3, 4, 6). -/
def parE (s : List UInt8) : Option Nod × Int := if s.length ≤ 200 then (match lexL 0 s with
  | .inl _ => (none, 1)
  | .inr l => match pX fnumP (need (.B 1) l) (.B 1) l with
   | some (n, e :: _) => if e.kind = 5 then (if n.rightN = true then (if n.deep ≤ 12 then (some n, 0) else (none, 4)) else (none, 6)) else (none, 1)
   | _ => (none, 1)) else (none, 3)
theorem parE_some {s : List UInt8} {n : Nod} {c : Int} (h : parE s = (some n, c)) : c = 0 ∧ s.length ≤ 200 ∧ n.rightN = true ∧ n.deep ≤ 12 ∧ ∃ us, lexL 0 s = .inr us ∧ allP fnumP us n := by
 unfold parE at h
 split at h
 ·rename_i hl
  split at h
  ·cases h
  ·rename_i l hx
   split at h
   ·rename_i m e r hp
    split at h
    ·rename_i hk
     split at h
     ·rename_i hr
      split at h
      ·rename_i hd
       cases h
       refine ⟨rfl, hl, hr, hd, l, hx, need (.B 1) l, e, ?_, hk⟩
       obtain ⟨ts', e1, e2⟩ := lex_form s.length 0 s l (Nat.le_refl _) hx
       have hs := pX_suf fnumP _ _ _ _ _ hp
       have hr : r = [] := by
        obtain ⟨p, hp2⟩ := hs
        rw [e1] at hp2
        rcases List.eq_nil_or_concat r with h0 | ⟨r', z, h0⟩
        ·exact h0
        ·rw [h0, List.concat_eq_append, ← List.cons_append, ← List.append_assoc] at hp2
         have h3 := (List.append_inj' hp2 rfl).1
         have h4 := e2 e (by rw [← h3]; exact List.mem_append_right _ (List.mem_cons_self ..))
         have h5 := h4.1.2
         have h6 : (e.put 0).kind = e.kind := rfl
         rw [h6, hk] at h5
         exact absurd h5 (by decide)
       rw [hr] at hp
       exact hp
      ·cases h
     ·cases h
    ·cases h
   ·cases h
 ·cases h
end Go.Den
/- A tree's text, by the program. -/
set_option linter.unusedVariables false
set_option linter.unusedSimpArgs false
set_option maxRecDepth 100000
namespace Go.Den.EK
open Go Go.Proofs
theorem letters_ev {c : Nat} (h : c < 702) : D 56 [.sc (.int .i64 (c : Int))] = some (.sc (.string (B (letL c)))) := by
 rw [f56_eq 0, bO]
 have hc : (decide ((c : Int) < 0) || decide ((c : Int) ≥ 702)) = false := by
  rw [Bool.or_eq_false_iff, decide_eq_false_iff_not, decide_eq_false_iff_not]; omega
 rw [hc]
 refine im (Bool.false_ne_true) ?_
 unfold letL
 by_cases h26 : c < 26
 ·rw [if_pos h26]
  refine ip (by rw [decide_eq_true_eq]; omega) ?_
  have e : IntKind.u8.wrap (IntKind.i64.wrap ((65 : Int) + (c : Int))) = ((65 + c : Nat) : Int) := by
   rw [w64 (by omega) (by omega), u8w (by omega) (by omega)]; omega
  rw [e]
  exact ip rfl rfl
 ·rw [if_neg h26]
  refine im (by rw [decide_eq_true_eq]; omega) ?_
  have e1 : (c : Int).tdiv 26 = ((c / 26 : Nat) : Int) := by rw [Int.tdiv_eq_ediv_of_nonneg (by omega)]; omega
  have e2 : (c : Int).tmod 26 = ((c % 26 : Nat) : Int) := by rw [Int.tmod_eq_emod_of_nonneg (by omega)]; omega
  have e3 : IntKind.u8.wrap (IntKind.i64.wrap ((IntKind.i64.wrap ((65 : Int) + (IntKind.i64.wrap ((c : Int).tdiv 26)))) - 1)) = ((64 + c / 26 : Nat) : Int) := by
   rw [e1, w64 (x := ((c / 26 : Nat) : Int)) (by omega) (by omega), w64 (x := (65 : Int) + ((c / 26 : Nat) : Int)) (by omega) (by omega), w64 (by omega) (by omega), u8w (by omega) (by omega)]; omega
  have e4 : IntKind.u8.wrap (IntKind.i64.wrap ((65 : Int) + ((c : Int).tmod 26))) = ((65 + c % 26 : Nat) : Int) := by
   rw [e2, w64 (by omega) (by omega), u8w (by omega) (by omega)]; omega
  rw [e3, e4]
  exact ip rfl rfl
def refD (r : Rf) : List UInt8 := if refM r = true then wrdR r else []
theorem letL_le (c : Nat) : (letL c).length ≤ 2 := by unfold letL; split <;> simp
theorem cname_ev {r c : Nat} (hr : r < 999) (hc : c < 702) : D 55 [.agg [.sc (.int .i64 (r : Int)), .sc (.int .i64 (c : Int))]] = some (.sc (.string (B (letL c ++ Lib.decDigits (r + 1))))) := by
 have hm := amay_ev (r : Int) (c : Int)
 have e : (decide ((0 : Int) ≤ (r : Int)) && decide ((r : Int) < 999) && decide ((0 : Int) ≤ (c : Int)) && decide ((c : Int) < 702)) = true := by
  simp only [Bool.and_eq_true, decide_eq_true_eq]; omega
 rw [e] at hm
 refine (f55_eq 0 _ _).trans (cb hm rfl (im (show ¬ (!true) = true by decide) (cb (letters_ev hc) rfl ?_)))
 have ei := itoac_ev (n := ((r + 1 : Nat) : Int)) (by unfold I64; omega)
 rw [itoa_nat] at ei
 have ew : IntKind.i64.wrap ((r : Int) + 1) = ((r + 1 : Nat) : Int) := by rw [w64 (by omega) (by omega)]; omega
 rw [← ew] at ei
 refine cb ei rfl ?_
 have h1 := letL_le c
 have h2 := dd_len 2 (r + 1) (by omega)
 refine ip (by show (B (letL c)).size + (B (Lib.decDigits (r + 1))).size ≤ _; rw [B_size, B_size]; omega) ?_
 show some (PV.sc (.string (B (letL c) ++ B (Lib.decDigits (r + 1))))) = _
 rw [B_append]
theorem cref_ev (r : Rf) : D 24 [r.pv] = some (.sc (.string (B (refD r)))) := by
 obtain ⟨row, col, hr, hc⟩ := r
 refine (f24_eq 0 _ _ _ _).trans ?_
 unfold refD
 have he : ((B []).toList == (⟨#[]⟩ : ByteArray).toList) = true := by rw [show (⟨#[]⟩ : ByteArray) = B [] from rfl, beq_self_eq_true]
 by_cases hM : refM ⟨row, col, hr, hc⟩ = true
 ·rw [if_pos hM]
  have hM2 := hM
  unfold refM at hM2
  simp only [Bool.and_eq_true, decide_eq_true_eq] at hM2
  obtain ⟨⟨⟨h1, h2⟩, h3⟩, h4⟩ := hM2
  obtain ⟨rn, rfl⟩ : ∃ k : Nat, row = k := ⟨row.toNat, by omega⟩
  obtain ⟨cn, rfl⟩ : ∃ k : Nat, col = k := ⟨col.toNat, by omega⟩
  have hcn : cn < 702 := by omega
  refine cb (cname_ev (by omega) hcn) rfl (im ?_ (cb (letters_ev hcn) rfl ?_))
  ·show ¬ ((B (letL cn ++ Lib.decDigits (rn + 1))).toList == (⟨#[]⟩ : ByteArray).toList) = true
   rw [em_eq, B_size, beq_iff_eq, List.length_append]
   have := (let_all hcn).2.1.1
   omega
  have l1 := letL_le cn
  have l2 := dd_len 2 (rn + 1) (by omega)
  have ex : (B (letL cn ++ Lib.decDigits (rn + 1))).extract ((B (letL cn)).size : Int).toNat ((B (letL cn ++ Lib.decDigits (rn + 1))).size : Int).toNat = B (Lib.decDigits (rn + 1)) := by
   rw [ext_drop, B_size, List.drop_left]
  have p36 : (⟨#[36]⟩ : ByteArray) = B [36] := rfl
  refine ip (by omega) (ip (Int.le_refl _) (ip (by omega) (ip (by show ((B (letL cn)).size : Int) ≤ ((B (letL cn ++ Lib.decDigits (rn + 1))).size : Int); rw [B_size, B_size, List.length_append]; omega) ?_)))
  show (if hc = true then _ else _) = _
  simp only [ts, ex, p36, B_append]
  simp only [B_size, List.length_append, List.length_cons, List.length_nil]
  unfold wrdR
  dsimp only
  rw [Int.toNat_natCast, Int.toNat_natCast]
  cases hc
  ·refine im (Bool.false_ne_true) ?_
   cases hr
   ·exact im (Bool.false_ne_true) (ip (by omega) (by simp))
   ·exact ip rfl (ip (by omega) (ip (by omega) (by simp)))
  ·refine ip rfl (ip (by omega) ?_)
   cases hr
   ·exact im (Bool.false_ne_true) (ip (by omega) (by simp))
   ·exact ip rfl (ip (by omega) (ip (by omega) (by simp)))
 ·rw [if_neg hM]
  have hn : D 55 [.agg [.sc (.int .i64 row), .sc (.int .i64 col)]] = some (.sc (.string (B []))) := by
   have hm := amay_ev row col
   have e : (decide (0 ≤ row) && decide (row < 999) && decide (0 ≤ col) && decide (col < 702)) = false := by
    unfold refM at hM; simpa using hM
   rw [e] at hm
   exact (f55_eq 0 _ _).trans (cb hm rfl (ip rfl rfl))
  refine cb hn rfl (ip he rfl)
theorem csign_ev (op : Int) : D 104 [.sc (.int .i64 op)] = some (.tup [.sc (.string (B (sgnO op).1)), .sc (.int .i64 (((sgnO op).2 : Nat) : Int))]) := by
 rw [f104_eq 0]
 unfold sgnO
 simp only [beq_iff_eq]
 by_cases h1 : op = 1
 ·subst h1; rfl
 by_cases h2 : op = 2
 ·subst h2; rfl
 by_cases h3 : op = 3
 ·subst h3; rfl
 by_cases h4 : op = 4
 ·subst h4; rfl
 by_cases h5 : op = 5
 ·subst h5; rfl
 by_cases h6 : op = 6
 ·subst h6; rfl
 by_cases h7 : op = 7
 ·subst h7; rfl
 by_cases h8 : op = 8
 ·subst h8; rfl
 by_cases h9 : op = 9
 ·subst h9; rfl
 by_cases h10 : op = 10
 ·subst h10; rfl
 by_cases h11 : op = 11
 ·subst h11; rfl
 simp only [if_neg h1, if_neg h2, if_neg h3, if_neg h4, if_neg h5, if_neg h6, if_neg h7, if_neg h8, if_neg h9, if_neg h10, if_neg h11]
 rfl
theorem cbinds_ev (n : Nod) : D 154 [n.pv] = some (.sc (.int .i64 ((bindsN n : Nat) : Int))) := by
 obtain ⟨kind, op, v, a, b, l⟩ := n
 refine (f154_eq 0 _ _ _ _ _ _ _ _ _ _ _ _ _ _ _).trans ?_
 unfold bindsN
 by_cases h : kind = 6
 ·rw [if_pos (show (Nod.mk kind op v a b l).kind = 6 from h)]
  exact im (by rw [bne_iff_ne]; exact fun hh => hh h) (cb (csign_ev op) rfl rfl)
 ·rw [if_neg (show ¬ (Nod.mk kind op v a b l).kind = 6 from h)]
  exact ip (by rw [bne_iff_ne]; exact h) rfl
theorem shw_str (t : ByteArray) (h : t.size ≤ 256) : D 100 [Vl.pv ⟨2, 0, t⟩] = some (.sc (.string (B (quoL (tb8 t))))) := by
 have hq := quote_ev (tb8 t) (by rw [tb8_len]; omega)
 rw [tb8_B] at hq
 exact (f100_eq 0 _ _ _).trans (im (show ¬ ((2 : Int) == 0) = true by decide) (ip rfl (cb hq rfl rfl)))
theorem vstr_ev (t : ByteArray) (h : t.size ≤ 256) : D 194 [.sc (.string t)] = some (Vl.pv ⟨2, 0, t⟩) := by
 have hm : D 221 [Vl.pv ⟨2, 0, t⟩, .sc (.int .i64 2)] = some (Vl.pv ⟨2, 0, t⟩) := by
  refine (f221_eq 0 _ _ _ _).trans (cb (vmay_ev ⟨2, 0, t⟩ (by unfold I64; decide : I64 0)) rfl (im ?_ rfl))
  have : mayV ⟨2, 0, t⟩ = true := by
   unfold mayV
   dsimp only
   rw [if_neg (by decide), if_neg (by decide), if_pos rfl, decide_eq_true h]; rfl
  rw [this]; decide
 exact (f194_eq 0 _).trans (cb hm rfl rfl)
theorem shw_tru (x : Int) (h : x = 0 ∨ x = 1) : D 100 [Vl.pv ⟨3, x, EM⟩] = some (.sc (.string (B (if x = 1 then wordL else wordF)))) := by
 have ht : D 195 [Vl.pv ⟨3, x, EM⟩] = some (.sc (.string (B (if x = 1 then wordL else wordF)))) := by
  refine (f195_eq 0 _ _ _).trans ?_
  rcases h with rfl | rfl
  ·rfl
  ·rfl
 have hs : (B (if x = 1 then wordL else wordF)).size ≤ 256 := by rcases h with rfl | rfl <;> decide
 have ha : D 153 [Vl.pv ⟨3, x, EM⟩] = some (Vl.pv ⟨2, 0, B (if x = 1 then wordL else wordF)⟩) :=
  (f153_eq 0 _ _ _).trans (im (show ¬ ((3 : Int) == 0) = true by decide) (ip rfl (cb ht rfl (cb (vstr_ev _ hs) rfl rfl))))
 exact (f100_eq 0 _ _ _).trans (im (show ¬ ((3 : Int) == 0) = true by decide) (im (show ¬ ((3 : Int) == 2) = true by decide) (im (show ¬ ((3 : Int) == 4) = true by decide) (cb ha rfl rfl))))
/-- What is put. -/
def Puts (s : List UInt8) (u : Option PV) (t : List UInt8) : Prop := u = some (.tup [.hp (bld (strB (B (s ++ t)))), .tup []])
def argsT : Bool → List Nod → List UInt8
 | _, [] => []
 | true, n :: l => texN n ++ argsT false l
 | false, n :: l => 44 :: (texN n ++ argsT false l)
theorem argsT_eq : ∀ l : List Nod, texT (comC (tkNs l)) = argsT true l ∧ (l ≠ [] → 44 :: texT (comC (tkNs l)) = argsT false l)
 | [] => ⟨rfl, fun h => absurd rfl h⟩
 | [n] => by
  have : texT (comC (tkNs [n])) = texN n := rfl
  refine ⟨?_, fun _ => ?_⟩
  ·rw [this]; show _ = texN n ++ []; rw [List.append_nil]
  ·rw [this]; show _ = 44 :: (texN n ++ []); rw [List.append_nil]
 | n :: m :: l => by
  have ih := (argsT_eq (m :: l)).2 (by simp)
  have : texT (comC (tkNs (n :: m :: l))) = texN n ++ 44 :: texT (comC (tkNs (m :: l))) := by
   show texT (tkN n ++ sgt [44] :: comC (tkNs (m :: l))) = _
   rw [texT_app, texT_cons]; rfl
  refine ⟨?_, fun _ => ?_⟩
  ·rw [this, ih]; rfl
  ·rw [this, ih]; rfl
theorem within_ev {n : Nod} (hput : ∀ s, s.length + (texN n).length ≤ 1000000 → Puts s (D 52 [.hp (bld (strB (B s))), .ptr 0 0, n.pv]) (texN n)) {k : Nat} (s : List UInt8) (h : s.length + (texT (wth k n)).length ≤ 1000000) : Puts s (D 103 [.hp (bld (strB (B s))), .ptr 0 0, n.pv, .sc (.int .i64 (k : Int))]) (texT (wth k n)) := by
 have hb0 := cbinds_ev n
 obtain ⟨kind, op, v, a, b, l⟩ := n
 refine (f103h_eq 0 _ _ _ _ _ _ _ _ _ _ _ _ _ _ _ _ _).trans (cb hb0 rfl ?_)
 by_cases hk : k ≤ bindsN (.mk kind op v a b l)
 ·rw [wth_le hk] at h ⊢
  refine ip (by show decide (((bindsN (.mk kind op v a b l) : Nat) : Int) ≥ (k : Int)) = true; rw [decide_eq_true_eq]; omega) (hb (hput s h) rfl rfl ?_)
  rfl
 ·rw [wth_gt (by omega)] at h ⊢
  have ht : texT (sgt [40] :: (tkN (.mk kind op v a b l) ++ [sgt [41]])) = 40 :: (texN (.mk kind op v a b l) ++ [41]) := by
   rw [texT_cons, texT_app]; rfl
  rw [ht] at h ⊢
  simp only [List.length_cons, List.length_append, List.length_nil] at h
  have p1 := bwb_ev s 40 (by omega)
  have p2 := hput (s ++ [40]) (by simp; omega)
  have p3 := bwb_ev ((s ++ [40]) ++ texN (.mk kind op v a b l)) 41 (by simp; omega)
  refine im (by show ¬ decide (((bindsN (.mk kind op v a b l) : Nat) : Int) ≥ (k : Int)) = true; rw [decide_eq_true_eq]; omega) (hb p1 rfl rfl (hb p2 rfl rfl (hb p3 rfl rfl ?_)))
  show some (PV.tup [.hp (bld (strB (B (((s ++ [40]) ++ texN (.mk kind op v a b l)) ++ [41])))), .tup []]) = _
  rw [show ((s ++ [40]) ++ texN (.mk kind op v a b l)) ++ [41] = s ++ 40 :: (texN (.mk kind op v a b l) ++ [41]) by simp]
theorem put_l (l : List Nod) (hl : l.length ≤ 1000000) (IH : ∀ n ∈ l, ∀ s, s.length + (texN n).length ≤ 1000000 → Puts s (D 52 [.hp (bld (strB (B s))), .ptr 0 0, n.pv]) (texN n)) : ∀ (d i : Nat) (s : List UInt8), i + d = l.length → s.length + (argsT (i == 0) (l.drop i)).length + 1 ≤ 1000000 → Puts s (f52h.l0a 0 (pvs l).length (fun i => (pvs l).getD i .top) (l.length : Int) (i : Int) (strB (B s))) (argsT (i == 0) (l.drop i) ++ [41]) := by
 intro d
 induction d with
 | zero =>
  intro i s h hs
  unfold Puts
  rw [f52h.l0a_eq]
  refine im (by rw [decide_eq_true_eq]; omega) ?_
  rw [List.drop_eq_nil_of_le (by omega)] at hs ⊢
  have e : argsT (i == 0) [] = [] := by cases (i == 0) <;> rfl
  rw [e, List.nil_append]
  exact hb (bwb_ev s 41 (by omega)) rfl rfl rfl
 | succ d ih =>
  intro i s h hs
  have hi : i < l.length := by omega
  unfold Puts
  rw [f52h.l0a_eq]
  rw [Int.toNat_natCast, pvs_get hi]
  rw [List.drop_eq_getElem_cons hi] at hs ⊢
  refine ip (by rw [decide_eq_true_eq]; omega) (ip (by omega) (ip (by rw [pvs_len]; omega) (ip (sh_pv _) ?_)))
  have nxi : IntKind.i64.wrap ((i : Int) + 1) = ((i + 1 : Nat) : Int) := nx hi (by omega)
  have join : ∀ s' : List UInt8, s'.length + (texN l[i]).length + (argsT false (l.drop (i + 1))).length + 1 ≤ 1000000 → f52h.j1a 0 (pvs l).length (fun i => (pvs l).getD i .top) (l.length : Int) (i : Int) (strB (B s')) ((cel 0 (l[i].pv).cells).toInt) ((cel 1 (l[i].pv).cells).toInt) ((cel 2 (l[i].pv).cells).toInt) ((cel 3 (l[i].pv).cells).toInt) ((cel 4 (l[i].pv).cells).toStr) ((cel 5 (l[i].pv).cells).toInt) ((cel 6 (l[i].pv).cells).toInt) ((cel 7 (l[i].pv).cells).toBool) ((cel 8 (l[i].pv).cells).toBool) ((cel 9 (l[i].pv).cells).toInt) ((cel 10 (l[i].pv).cells).toInt) ((cel 11 (l[i].pv).cells).toBool) ((cel 12 (l[i].pv).cells).toBool) ((cel 13 (l[i].pv).cells).len) ((cel 13 (l[i].pv).cells).at) =
    some (.tup [.hp (bld (strB (B (s' ++ (texN l[i] ++ (argsT false (l.drop (i + 1)) ++ [41])))))), .tup []]) := by
   intro s' hs'
   have p := IH _ (List.getElem_mem hi) s' (by omega)
   rw [← rb_pv] at p
   refine (f52h.j1a_eq 0 _ _ _ _ _ _ _ _ _ _ _ _ _ _ _ _ _ _ _ _).trans (hb p rfl rfl ?_)
   rw [nxi]
   have q := ih (i + 1) (s' ++ texN l[i]) (by omega) (by rw [List.length_append]; show _ + (argsT false (l.drop (i + 1))).length + 1 ≤ _; omega)
   unfold Puts at q
   refine Eq.trans q ?_
   rw [List.append_assoc]; rfl
  by_cases h0 : i = 0
  ·subst h0
   refine im (by decide) ((join s (by
    have : (argsT true (l[0] :: l.drop (0 + 1))).length = (texN l[0]).length + (argsT false (l.drop (0 + 1))).length := List.length_append
    have e : ((0 : Nat) == 0) = true := rfl
    rw [e, this] at hs
    omega)).trans ?_)
   show _ = some (PV.tup [.hp (bld (strB (B (s ++ ((texN l[0] ++ argsT false (l.drop (0 + 1))) ++ [41]))))), .tup []])
   rw [List.append_assoc (texN l[0])]
  ·have e : (i == 0) = false := by rw [beq_eq_false_iff_ne]; exact h0
   rw [e] at hs ⊢
   have hlen : (argsT false (l[i] :: l.drop (i + 1))).length = (texN l[i]).length + (argsT false (l.drop (i + 1))).length + 1 := by
    show (44 :: (texN l[i] ++ argsT false (l.drop (i + 1)))).length = _
    rw [List.length_cons, List.length_append]
   rw [hlen] at hs
   refine ip (by rw [decide_eq_true_eq]; omega) (hb (bwb_ev s 44 (by omega)) rfl rfl ((join (s ++ [44]) (by rw [List.length_append]; simp only [List.length_cons, List.length_nil]; omega)).trans ?_))
   show _ = some (PV.tup [.hp (bld (strB (B (s ++ ((44 :: (texN l[i] ++ argsT false (l.drop (i + 1)))) ++ [41]))))), .tup []])
   simp
theorem cput_ev : ∀ (N : Nat) (n : Nod), n.count ≤ N → n.rightN = true → ∀ s, s.length + (texN n).length ≤ 1000000 → Puts s (D 52 [.hp (bld (strB (B s))), .ptr 0 0, n.pv]) (texN n)
 | 0, .mk _ _ _ _ _ _, hN, _, _, _ => by rw [Nod.count] at hN; omega
 | N + 1, n, hN, hr, s, hs => by
  have wr : ∀ w : List UInt8, s.length + w.length ≤ 1000000 → D 98 [.hp (bld (strB (B s))), .ptr 0 0, .sc (.string (B w))] = some (.tup [.hp (bld (strB (B (s ++ w)))), .tup [.sc (.int .i64 (w.length : Int)), .top]]) := fun w h => bws_ev s w h
  have h := rgt hr
  unfold Puts
  cases h with
  | num x h =>
   have e : texN (litN ⟨1, x, ⟨#[]⟩⟩) = texS x := List.append_nil _
   rw [e] at hs ⊢
   exact (f52h_eq 0 _ _ _ _ _ _ _ _ _ _ _ _ _ _ _ _).trans (ip rfl (ip rfl (cb (text_ev (x := x) (by unfold I64; omega)) rfl (hb (wr _ hs) rfl rfl rfl))))
  | str t h hp =>
   have e : texN (litN ⟨2, 0, t⟩) = quoL (tb8 t) := List.append_nil _
   rw [e] at hs ⊢
   exact (f52h_eq 0 _ _ _ _ _ _ _ _ _ _ _ _ _ _ _ _).trans (ip rfl (im (show ¬ ((2 : Int) == 1) = true by decide) (cb (shw_str t h) rfl (hb (wr _ hs) rfl rfl rfl))))
  | tru x h =>
   have e : texN (litN ⟨3, x, ⟨#[]⟩⟩) = (if x = 1 then wordL else wordF) := List.append_nil _
   rw [e] at hs ⊢
   exact (f52h_eq 0 _ _ _ _ _ _ _ _ _ _ _ _ _ _ _ _).trans (ip rfl (im (show ¬ ((3 : Int) == 1) = true by decide) (cb (shw_tru x h) rfl (hb (wr _ hs) rfl rfl rfl))))
  | lost =>
   have e : texN lostN = [35, 82, 69, 70] := rfl
   rw [e] at hs ⊢
   have hf : D 101 [.sc (.int .i64 3)] = some (.sc (.string (B [35, 82, 69, 70]))) := f101_eq 0 3
   exact (f52h_eq 0 _ _ _ _ _ _ _ _ _ _ _ _ _ _ _ _).trans (im (show ¬ ((2 : Int) == 1) = true by decide) (ip rfl (cb hf rfl (hb (wr _ hs) rfl rfl rfl))))
  | one r h =>
   have e : texN (oneN r) = wrdR r := List.append_nil _
   rw [e] at hs ⊢
   have hf := cref_ev r
   have er : refD r = wrdR r := if_pos h
   rw [er] at hf
   exact (f52h_eq 0 _ _ _ _ _ _ _ _ _ _ _ _ _ _ _ _).trans (im (show ¬ ((3 : Int) == 1) = true by decide) (im (show ¬ ((3 : Int) == 2) = true by decide) (ip rfl (cb hf rfl (hb (wr _ hs) rfl rfl rfl)))))
  | range r q h h2 =>
   have e : texN (rangeN r q) = wrdR r ++ 58 :: wrdR q := by
    show wrdR r ++ ([58] ++ (wrdR q ++ [])) = _
    simp
   rw [e] at hs ⊢
   have hf := cref_ev r
   have hf2 := cref_ev q
   rw [show refD r = wrdR r from if_pos h] at hf
   rw [show refD q = wrdR q from if_pos h2] at hf2
   have hw := wr _ hs
   rw [show B (wrdR r ++ 58 :: wrdR q) = (B (wrdR r) ++ (⟨#[58]⟩ : ByteArray)) ++ B (wrdR q) by rw [show (⟨#[58]⟩ : ByteArray) = B [58] from rfl, B_append, B_append]; simp] at hw
   rw [List.length_append, List.length_cons] at hs
   refine (f52h_eq 0 _ _ _ _ _ _ _ _ _ _ _ _ _ _ _ _).trans (im (show ¬ ((4 : Int) == 1) = true by decide) (im (show ¬ ((4 : Int) == 2) = true by decide) (im (show ¬ ((4 : Int) == 3) = true by decide) (ip rfl (cb hf rfl (ip ?_ (cb hf2 rfl (ip ?_ (hb hw rfl rfl ?_)))))))))
   ·show (B (wrdR r)).size + 1 ≤ _; rw [B_size]; omega
   ·show ((B (wrdR r)) ++ (⟨#[58]⟩ : ByteArray)).size + (B (wrdR q)).size ≤ _
    rw [show (⟨#[58]⟩ : ByteArray) = B [58] from rfl, B_append, B_size, B_size, List.length_append]; simp only [List.length_cons, List.length_nil]; omega
   ·rfl
  | neg m hm hmk =>
   have hc : (negN m).count = m.count + 0 + 1 := rfl
   have e : texN (negN m) = 45 :: texT (wth 6 m) := rfl
   rw [e] at hs ⊢
   rw [List.length_cons] at hs
   have p := within_ev (k := 6) (cput_ev N m (by omega) hm) (s ++ [45]) (by rw [List.length_append]; simp only [List.length_cons, List.length_nil]; omega)
   have p9 : D 103 [.hp (bld (strB (B (s ++ [45])))), .ptr 0 0, rbN m.pv, .sc (.int .i64 9)] = some (.tup [.hp (bld (strB (B ((s ++ [45]) ++ texT (wth 6 m))))), .tup []]) := by
    have q := within_ev (k := 9) (cput_ev N m (by omega) hm) (s ++ [45]) (by
     have : texT (wth 9 m) = texT (wth 6 m) := by
      by_cases h6 : 9 ≤ bindsN m
      ·rw [wth_le h6, wth_le (by omega)]
      ·have : bindsN m ≤ 5 := by
        unfold bindsN at h6 ⊢
        by_cases hk6 : m.kind = 6
        ·rw [if_pos hk6]; exact (sgnO_pos _).2
        ·rw [if_neg hk6] at h6; exact absurd (Nat.le_refl _) h6
       rw [wth_gt (by omega), wth_gt (by omega)]
     rw [this, List.length_append]; simp only [List.length_cons, List.length_nil]; omega)
    have : texT (wth 9 m) = texT (wth 6 m) := by
     by_cases h6 : 9 ≤ bindsN m
     ·rw [wth_le h6, wth_le (by omega)]
     ·have : bindsN m ≤ 5 := by
       unfold bindsN at h6 ⊢
       by_cases hk6 : m.kind = 6
       ·rw [if_pos hk6]; exact (sgnO_pos _).2
       ·rw [if_neg hk6] at h6; exact absurd (Nat.le_refl _) h6
      rw [wth_gt (by omega), wth_gt (by omega)]
    rw [this] at q
    rw [rb_pv]
    exact q
   refine (f52h_eq 0 _ _ _ _ _ _ _ _ _ _ _ _ _ _ _ _).trans (im (show ¬ ((5 : Int) == 1) = true by decide) (im (show ¬ ((5 : Int) == 2) = true by decide) (im (show ¬ ((5 : Int) == 3) = true by decide) (im (show ¬ ((5 : Int) == 4) = true by decide) (ip rfl (hb (bwb_ev s 45 (by omega)) rfl rfl (ip ?_ (ip ?_ (hb p9 rfl rfl ?_)))))))))
   ·show (0 : Int) < ((pvs [m]).length : Int); rw [pvs_len]; simp
   ·exact sh_pv m
   ·show some (PV.tup [.hp (bld (strB (B ((s ++ [45]) ++ texT (wth 6 m))))), .tup []]) = _
    rw [List.append_assoc]; rfl
  | bin op ho m m' hm hm' hmk =>
   have hc : (binN op m m').count = m.count + (m'.count + 0) + 1 := rfl
   have e : texN (binN op m m') = texT (wth (sgnO op).2 m) ++ ((sgnO op).1 ++ texT (wth ((sgnO op).2 + 1) m')) := by
    unfold texN; rw [tk_bin, texT_app, texT_cons]; rfl
   rw [e] at hs ⊢
   rw [List.length_append, List.length_append] at hs
   have hso := csign_ev (op : Int)
   have p1 := within_ev (k := (sgnO op).2) (cput_ev N m (by omega) hm) s (by omega)
   have p2 := bws_ev (s ++ texT (wth (sgnO op).2 m)) (sgnO op).1 (by rw [List.length_append]; omega)
   have p3 := within_ev (k := (sgnO op).2 + 1) (cput_ev N m' (by omega) hm') ((s ++ texT (wth (sgnO op).2 m)) ++ (sgnO op).1) (by rw [List.length_append, List.length_append]; omega)
   unfold Puts at p1 p3
   rw [← rb_pv] at p1 p3
   have hb5 := (op_tok ho).1
   have ew : IntKind.i64.wrap ((((sgnO op).2 : Nat) : Int) + 1) = (((sgnO op).2 + 1 : Nat) : Int) := by rw [w64 (by omega) (by omega)]; omega
   rw [← ew] at p3
   refine (f52h_eq 0 _ _ _ _ _ _ _ _ _ _ _ _ _ _ _ _).trans (im (show ¬ ((6 : Int) == 1) = true by decide) (im (show ¬ ((6 : Int) == 2) = true by decide) (im (show ¬ ((6 : Int) == 3) = true by decide) (im (show ¬ ((6 : Int) == 4) = true by decide) (im (show ¬ ((6 : Int) == 5) = true by decide) (ip rfl (cb hso rfl (ip ?_ (ip ?_ (hb p1 rfl rfl (hb p2 rfl rfl (ip ?_ (ip ?_ (hb p3 rfl rfl ?_))))))))))))))
   ·show (0 : Int) < ((pvs [m, m']).length : Int); rw [pvs_len]; simp
   ·exact sh_pv m
   ·show (1 : Int) < ((pvs [m, m']).length : Int); rw [pvs_len]; simp
   ·exact sh_pv m'
   ·show some (PV.tup [.hp (bld (strB (B (((s ++ texT (wth (sgnO op).2 m)) ++ (sgnO op).1) ++ texT (wth ((sgnO op).2 + 1) m'))))), .tup []]) = _
    rw [List.append_assoc, List.append_assoc]
  | call f l hf hl hkl =>
   have hc : (callN f l).count = counts l + 1 := rfl
   have e : texN (callN f l) = ((rowP f).1 ++ [40]) ++ (argsT true l ++ [41]) := by
    unfold texN
    rw [tk_call, texT_cons, texT_cons, texT_app, (argsT_eq l).1]
    show (rowP f).1 ++ ([40] ++ (argsT true l ++ ([41] ++ []))) = _
    simp
   rw [e] at hs ⊢
   rw [List.length_append, List.length_append, List.length_append] at hs
   simp only [List.length_cons, List.length_nil] at hs
   have hw := wr ((rowP f).1 ++ [40]) (by rw [List.length_append]; simp only [List.length_cons, List.length_nil]; omega)
   rw [show B ((rowP f).1 ++ [40]) = B (rowP f).1 ++ (⟨#[40]⟩ : ByteArray) by rw [show (⟨#[40]⟩ : ByteArray) = B [40] from rfl, B_append]] at hw
   have hlen := fits_le hf
   have p := put_l l (by omega) (fun n hn => cput_ev N n (by have := count_mem hn; omega) (rights_mem hl hn)) l.length 0 (s ++ ((rowP f).1 ++ [40])) (Nat.zero_add _) (by
    rw [List.drop_zero]
    show (s ++ ((rowP f).1 ++ [40])).length + (argsT true l).length + 1 ≤ _
    rw [List.length_append, List.length_append]; simp only [List.length_cons, List.length_nil]; omega)
   rw [List.drop_zero] at p
   unfold Puts at p
   refine (f52h_eq 0 _ _ _ _ _ _ _ _ _ _ _ _ _ _ _ _).trans (im (show ¬ ((7 : Int) == 1) = true by decide) (im (show ¬ ((7 : Int) == 2) = true by decide) (im (show ¬ ((7 : Int) == 3) = true by decide) (im (show ¬ ((7 : Int) == 4) = true by decide) (im (show ¬ ((7 : Int) == 5) = true by decide) (im (show ¬ ((7 : Int) == 6) = true by decide) (ip rfl (cb (fname_ev f) rfl (ip ?_ (hb hw rfl rfl ?_))))))))))
   ·show (B (rowP f).1).size + 1 ≤ _; rw [B_size]; omega
   ·refine Eq.trans ?_ (p.trans ?_)
    ·rw [pvs_len]; rfl
    ·rw [List.append_assoc s]; rfl
theorem ctext_ev (n : Nod) (hok : n.ok) (ht : (texN n).length ≤ 1000000) : D 22 [n.pv] = some (.sc (.string (B (if n.rightN = true then texN n else [])))) := by
 have hr := right_ev n.count n (Nat.le_refl _) hok
 have hp := fun h => cput_ev n.count n (Nat.le_refl _) h [] (by simpa using ht)
 obtain ⟨kind, op, v, a, b, l⟩ := n
 refine (f22_eq 0 _ _ _ _ _ _ _ _ _ _ _ _ _ _ _).trans (cb hr rfl ?_)
 by_cases h : (Nod.mk kind op v a b l).rightN = true
 ·rw [if_pos h]
  refine im (by rw [h]; decide) (hb (hp h) rfl rfl ?_)
  exact hb (bstr_ev (texN (.mk kind op v a b l))) rfl rfl rfl
 ·have : (Nod.mk kind op v a b l).rightN = false := by simpa using h
  rw [if_neg h, this]
  exact ip rfl rfl
end Go.Den.EK
