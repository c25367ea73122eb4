/- Texts that CanonTells rests on. -/
import Derived.Test.YtkhbkbkambflbaaGreatDoorMCanonTells0
import Derived.Lib.Split
import Derived.Lib.SplitLaws
/- Which trees the program calls right. -/
set_option linter.unusedVariables false
set_option linter.unusedSimpArgs false
set_option maxRecDepth 100000
namespace Go.Den.ET
open Go Go.Proofs
theorem tb8_B (t : ByteArray) : B (tb8 t) = t := by rcases t with ⟨⟨l⟩⟩; rfl
theorem tb8_len (t : ByteArray) : (tb8 t).length = t.size := by rcases t with ⟨⟨l⟩⟩; rfl
theorem em_eq (t : ByteArray) : (t.toList == (⟨#[]⟩ : ByteArray).toList) = (t.size == 0) := by
 rw [← tb8_B t, show (⟨#[]⟩ : ByteArray) = B [] from rfl, B_toList, B_toList, B_size]
 cases tb8 t <;> rfl
/-- Parts of a node. -/
def hasZ (b0 b1 b2 b3 b4 : Bool) : Int := (if b0 = true then 1 else 0) + (if b1 = true then 2 else 0) + (if b2 = true then 4 else 0) + (if b3 = true then 8 else 0) + (if b4 = true then 16 else 0)
theorem has_l (b0 b1 b2 b3 b4 : Bool) : f81.l0a 0 b0 b1 b2 b3 b4 = some (.sc (.int .u64 (hasZ b0 b1 b2 b3 b4))) := by
 cases b0 <;> cases b1 <;> cases b2 <;> cases b3 <;> cases b4 <;>
  (simp only [f81.l0a_eq, f81.l0b_eq, f81.l0c_eq, f81.l0d_eq, f81.l0e_eq, f81.l0f_eq, f81.l0g_eq, f81.l0h_eq, f81.l0i_eq, f81.l0j_eq, f81.l0k_eq, f81.l0l_eq, f81.l0m_eq, f81.l0n_eq, f81.l0o_eq, f81.l0p_eq, f81.l0z16z_eq, f81.l0z17z_eq, f81.l0z18z_eq, f81.l0z19z_eq, f81.l0z20z_eq, f81.l0z21z_eq, f81.l0z22z_eq, f81.l0z23z_eq, f81.l0z24z_eq, f81.l0z25z_eq, f81.l0z26z_eq, f81.l0z27z_eq, f81.l0z28z_eq, f81.l0z29z_eq, f81.l0z30z_eq, f81.l0z31z_eq, f81.l0z32z_eq, f81.l0z33z_eq, f81.l0z34z_eq, f81.l0z35z_eq, f81.l0z36z_eq, f81.l0z37z_eq, f81.l0z38z_eq, f81.l0z39z_eq, f81.l0z40z_eq, f81.l0z41z_eq, f81.l0z42z_eq, f81.l0z43z_eq, f81.l0z44z_eq, f81.l0z45z_eq, f81.l0z46z_eq, f81.l0z47z_eq, f81.l0z48z_eq, f81.l0z49z_eq, f81.l0z50z_eq, f81.l0z51z_eq, f81.l0z52z_eq, f81.l0z53z_eq, f81.l0z54z_eq, f81.l0z55z_eq, f81.l0z56z_eq, f81.l0z57z_eq, f81.l0z58z_eq, f81.l0z59z_eq, f81.l0z60z_eq, f81.l0z61z_eq, f81.l0z62z_eq, if_true, Bool.false_eq_true, if_false]; rfl)
theorem has_ev (kind op : Int) (v : Vl) (a b : Rf) (l : List Nod) : D 81 [Nod.pv (.mk kind op v a b l)] = some (.sc (.int .u64 (hasZ (!(op == 0)) (!isZV v) (!isZR a) (!isZR b) (!l.isEmpty)))) := by
 refine (f81_eq 0 _ _ _ _ _ _ _ _ _ _ _ _ _ _ _).trans ((has_l _ _ _ _ _).trans ?_)
 have e1 : (v.kind == 0 && (v.num == 0 && ((v.text.toList == (⟨#[]⟩ : ByteArray).toList) && true))) = isZV v := by
  rw [em_eq]; unfold isZV; rw [Bool.and_true, Bool.and_assoc]
 have e2 : ∀ r : Rf, (r.row == 0 && (r.col == 0 && (r.hr == false && (r.hc == false && true)))) = isZR r := by
  intro r; obtain ⟨x, y, p, q⟩ := r
  unfold isZR
  cases p <;> cases q <;> simp
 have e3 : decide ((((pvs l).length : Nat) : Int) > 0) = !l.isEmpty := by
  rw [pvs_len]; cases l with
  | nil => rfl
  | cons x l => rw [List.isEmpty_cons, Bool.not_false, decide_eq_true_eq, List.length_cons]; omega
 rw [e1, e2, e2, e3]
 rfl
theorem ma2 (z0 z1 z2 z3 z4 : Bool) : (Go.bits .andNot .u64 (hasZ (!z0) (!z1) (!z2) (!z3) (!z4)) 2 == 0) = (z0 && z2 && z3 && z4) := by
 cases z0 <;> cases z1 <;> cases z2 <;> cases z3 <;> cases z4 <;> rfl
theorem ma0 (z0 z1 z2 z3 z4 : Bool) : (hasZ (!z0) (!z1) (!z2) (!z3) (!z4) == 0) = (z0 && z1 && z2 && z3 && z4) := by
 cases z0 <;> cases z1 <;> cases z2 <;> cases z3 <;> cases z4 <;> rfl
theorem ma4 (z0 z1 z2 z3 z4 : Bool) : (Go.bits .andNot .u64 (hasZ (!z0) (!z1) (!z2) (!z3) (!z4)) 4 == 0) = (z0 && z1 && z3 && z4) := by
 cases z0 <;> cases z1 <;> cases z2 <;> cases z3 <;> cases z4 <;> rfl
theorem ma12 (z0 z1 z2 z3 z4 : Bool) : (Go.bits .andNot .u64 (hasZ (!z0) (!z1) (!z2) (!z3) (!z4)) 12 == 0) = (z0 && z1 && z4) := by
 cases z0 <;> cases z1 <;> cases z2 <;> cases z3 <;> cases z4 <;> rfl
theorem ma16 (z0 z1 z2 z3 z4 : Bool) : (Go.bits .andNot .u64 (hasZ (!z0) (!z1) (!z2) (!z3) (!z4)) 16 == 0) = (z0 && z1 && z2 && z3) := by
 cases z0 <;> cases z1 <;> cases z2 <;> cases z3 <;> cases z4 <;> rfl
theorem ma17 (z0 z1 z2 z3 z4 : Bool) : (Go.bits .andNot .u64 (hasZ (!z0) (!z1) (!z2) (!z3) (!z4)) 17 == 0) = (z1 && z2 && z3) := by
 cases z0 <;> cases z1 <;> cases z2 <;> cases z3 <;> cases z4 <;> rfl
/-- Literals and references. -/
theorem plain_l (t : List UInt8) (hl : (t.length : Int) ≤ 9223372036854775807) : ∀ (d i : Nat), i + d = t.length → f136.l0a 0 (B t) (t.length : Int) (i : Int) = some (.sc (.bool ((t.drop i).all plainB))) := by
 intro d
 induction d with
 | zero =>
  intro i h
  rw [f136.l0a_eq]
  refine im (by rw [decide_eq_true_eq]; omega) ?_
  rw [List.drop_eq_nil_of_le (by omega)]; rfl
 | succ d ih =>
  intro i h
  have hi : i < t.length := by omega
  rw [f136.l0a_eq]
  refine ip (by rw [decide_eq_true_eq]; omega) (ip (by omega) (ip (by rw [B_size]; omega) ?_))
  rw [B_bt hi, List.drop_eq_getElem_cons hi, List.all_cons]
  refine cb (plain_ev _) rfl ?_
  by_cases hp : plainB t[i] = true
  ·rw [hp, Bool.true_and]
   refine im (by decide) ?_
   rw [nx hi hl]
   exact ih (i + 1) (by omega)
  ·have : plainB t[i] = false := by simpa using hp
   rw [this, Bool.false_and]
   exact ip rfl rfl
theorem lplain_ev (t : ByteArray) (hl : (t.size : Int) ≤ 9223372036854775807) : D 136 [.sc (.string t)] = some (.sc (.bool ((tb8 t).all plainB))) := by
 have hb := tb8_B t
 rw [← tb8_len] at hl
 generalize tb8 t = l at *
 subst hb
 rw [f136_eq 0]
 have := plain_l l hl l.length 0 (Nat.zero_add _)
 rw [List.drop_zero] at this
 exact this
def mayV (v : Vl) : Bool := if v.kind = 0 then v.num == 0 && v.text.size == 0 else if v.kind = 1 then decide (May v.num) && v.text.size == 0 else if v.kind = 2 then v.num == 0 && decide (v.text.size ≤ 256)
 else if v.kind = 3 then (v.num == 0 || v.num == 1) && v.text.size == 0 else if v.kind = 4 then (decide (v.num ≥ 1) && decide (v.num ≤ 7)) && v.text.size == 0 else false
abbrev Vl.pv (v : Vl) : PV := .agg [.sc (.int .i64 v.kind), .sc (.int .i64 v.num), .sc (.string v.text)]
theorem vmay_ev (v : Vl) (hn : I64 v.num) : D 135 [Vl.pv v] = some (.sc (.bool (mayV v))) := by
 refine (f135_eq 0 _ _ _).trans ?_
 unfold mayV
 by_cases h0 : v.kind = 0
 ·rw [if_pos h0]
  refine ip (by rw [h0]; rfl) ?_
  rw [bA, em_eq]; rfl
 rw [if_neg h0]
 refine im (by simpa using h0) ?_
 by_cases h1 : v.kind = 1
 ·rw [if_pos h1]
  refine ip (by rw [h1]; rfl) (cb (may_ev hn) rfl ?_)
  rw [bA, em_eq]; rfl
 rw [if_neg h1]
 refine im (by simpa using h1) ?_
 by_cases h2 : v.kind = 2
 ·rw [if_pos h2]
  refine ip (by rw [h2]; rfl) ?_
  rw [bA]
  dsimp only [tb]
  congr 4
  rw [Bool.eq_iff_iff, decide_eq_true_iff, decide_eq_true_iff]; omega
 rw [if_neg h2]
 refine im (by simpa using h2) ?_
 by_cases h3 : v.kind = 3
 ·rw [if_pos h3]
  refine ip (by rw [h3]; rfl) ?_
  rw [bO, bA, em_eq]; rfl
 rw [if_neg h3]
 refine im (by simpa using h3) ?_
 by_cases h4 : v.kind = 4
 ·rw [if_pos h4]
  refine ip (by rw [h4]; rfl) ?_
  rw [bA, bA, em_eq]; rfl
 rw [if_neg h4]
 exact im (by simpa using h4) rfl
theorem lit_ev (v : Vl) (hn : I64 v.num) (hs : (v.text.size : Int) ≤ 9223372036854775807) : D 82 [Vl.pv v] = some (.sc (.bool (litR v))) := by
 have hj : f82.j0a 0 v.kind v.num v.text = some (.sc (.bool (mayV v))) := (f82.j0a_eq 0 _ _ _).trans (cb (vmay_ev v hn) rfl rfl)
 refine (f82_eq 0 _ _ _).trans ?_
 unfold litR
 by_cases h2 : v.kind = 2
 ·rw [if_pos h2]
  refine ip (by rw [h2]; rfl) (cb (vmay_ev v hn) rfl ?_)
  simp only [lplain_ev v.text hs, bs, shb, if_true, tb]
  rw [bA]
  unfold mayV
  rw [if_neg (by omega), if_neg (by omega), if_pos h2]; rfl
 rw [if_neg h2]
 refine im (by simpa using h2) ?_
 by_cases h1 : v.kind = 1
 ·rw [if_pos h1]
  refine ip (by rw [h1]; rfl) ?_
  unfold I64 at hn
  by_cases hlt : v.num < 0
  ·rw [decide_eq_false (show ¬ 0 ≤ v.num by omega)]
   exact ip (decide_eq_true hlt) rfl
  ·refine im (by rw [decide_eq_true_eq]; exact hlt) (hj.trans ?_)
   unfold mayV
   rw [if_neg (by omega), if_pos h1, decide_eq_true (show 0 ≤ v.num by omega), decide_eq_true hn.2, decide_eq_true (show May v.num by unfold May; omega)]; rfl
 rw [if_neg h1]
 refine im (by simpa using h1) ?_
 by_cases h3 : v.kind = 3
 ·rw [if_pos h3]
  refine ip (by rw [h3]; rfl) (hj.trans ?_)
  unfold mayV
  rw [if_neg (by omega), if_neg h1, if_neg h2, if_pos h3]
 rw [if_neg h3]
 exact im (by simpa using h3) rfl
theorem amay_ev (r c : Int) : D 111 [.agg [.sc (.int .i64 r), .sc (.int .i64 c)]] = some (.sc (.bool (decide (0 ≤ r) && decide (r < 999) && decide (0 ≤ c) && decide (c < 702)))) := by
 refine (f111_eq 0 _ _).trans ?_
 rw [bA, bA, bA]; rfl
theorem nref_ev (r : Rf) : D 83 [r.pv] = some (.sc (.bool (refM r))) := by
 refine (f83_eq 0 _ _ _ _).trans (cb (amay_ev _ _) rfl ?_)
 rfl
/-- Categories and labels. -/
theorem cnum_l (t : List UInt8) (hl : t.length ≤ 3) : ∀ (d i n : Nat), i + d = t.length → n ≤ 100 ^ i → f210.l0a 0 (B t) (n : Int) (t.length : Int) (i : Int) = some (match rowG (t.drop i) n with
  | none => .tup [.sc (.int .i64 0), .sc (.bool false)]
  | some m => .tup [.sc (.int .i64 (m : Int)), .sc (.bool (decide ((m : Int) < 64)))]) := by
 intro d
 induction d with
 | zero =>
  intro i n h hn
  rw [f210.l0a_eq]
  refine im (by rw [decide_eq_true_eq]; omega) ?_
  rw [List.drop_eq_nil_of_le (by omega)]
  rfl
 | succ d ih =>
  intro i n h hn
  have := pow100 (i := i) (by omega)
  have hi : i < t.length := by omega
  rw [f210.l0a_eq]
  have c1 : (0 : Int) ≤ (i : Int) := by omega
  have c2 : (i : Int) < ((B t).size : Int) := by rw [B_size]; omega
  refine ip (by rw [decide_eq_true_eq]; omega) (ip c1 (ip c2 ?_))
  rw [B_bt hi, List.drop_eq_getElem_cons hi, rowG]
  simp only [if_pos c1, if_pos c2, bs, tb]
  rw [bO]
  have hc : (decide ((t[i].toNat : Int) < 48) || decide ((t[i].toNat : Int) > 57)) = !isD t[i] := by
   unfold isD; rw [Bool.eq_iff_iff]; simp; omega
  rw [hc]
  by_cases hu : isD t[i] = true
  ·rw [if_pos hu, hu]
   refine im (by decide) ?_
   unfold isD at hu
   simp only [Bool.and_eq_true, decide_eq_true_eq] at hu
   have e1 : IntKind.u8.wrap ((t[i].toNat : Int) - 48) = (t[i].toNat : Int) - 48 := u8w (by omega) (by omega)
   rw [e1, w64 (x := (t[i].toNat : Int) - 48) (by omega) (by omega), w64 (x := (n : Int) * 10) (by omega) (by omega), w64 (x := (n : Int) * 10 + ((t[i].toNat : Int) - 48)) (by omega) (by omega), nx hi (by omega)]
   have := ih (i + 1) (n * 10 + (t[i].toNat - 48)) (by omega) (by rw [Nat.pow_succ]; have : 1 ≤ 100 ^ i := Nat.pow_pos (by decide); omega)
   rw [show ((n * 10 + (t[i].toNat - 48) : Nat) : Int) = (n : Int) * 10 + ((t[i].toNat : Int) - 48) by omega] at this
   exact this
  ·rw [if_neg hu]
   have : isD t[i] = false := by simpa using hu
   rw [this]
   exact ip (by decide) rfl
/-- A word as a category: the number, and whether it is one. -/
theorem cnum_ev (t : List UInt8) : ∃ m : Nat, D 210 [.sc (.string (B t))] = some (.tup [.sc (.int .i64 (m : Int)), .sc (.bool (numC t).isSome)]) ∧ ∀ c, numC t = some c → c = m ∧ m < 64 := by
 rw [f210_eq 0, bO]
 dsimp +instances only [tb]
 by_cases h : 1 ≤ t.length ∧ t.length ≤ 2
 ·have c0 : (0 : Int) < ((B t).size : Int) := by rw [B_size]; omega
  have cz : (decide (((B t).size : Int) < 1) || decide (((B t).size : Int) > 2)) = false := by
   rw [Bool.or_eq_false_iff, decide_eq_false_iff_not, decide_eq_false_iff_not, B_size]; omega
  obtain ⟨b, l, e⟩ : ∃ b l, t = b :: l := by
   rcases t with _ | ⟨b, l⟩
   ·simp at h
   ·exact ⟨b, l, rfl⟩
  have hb : bt (B t) 0 = (b.toNat : Int) := by
   have := B_bt (l := t) (i := 0) (by omega)
   rw [show ((0 : Nat) : Int) = 0 from rfl] at this
   rw [this]; simp [e]
  rw [cz]
  simp only [Bool.false_eq_true, if_false, if_pos c0, bs, tb, hb]
  rw [bA]
  dsimp +instances only [tb]
  have hq : (((B t).size : Int) == 2 && ((b.toNat : Int) == 48)) = decide (t.length = 2 ∧ t.head? = some 48) := by
   have hh0 : t.head? = some b := by rw [e]; rfl
   rw [hh0, B_size, Bool.eq_iff_iff, Bool.and_eq_true, beq_iff_eq, beq_iff_eq, decide_eq_true_iff]
   constructor
   ·rintro ⟨h1, hh⟩
    have : b.toNat = (48 : UInt8).toNat := by exact_mod_cast hh
    rw [UInt8.toNat_inj.1 this]; exact ⟨by omega, rfl⟩
   ·rintro ⟨h1, hh⟩
    have := Option.some.inj hh; rw [this]; exact ⟨by omega, rfl⟩
  rw [hq]
  by_cases hz : t.length = 2 ∧ t.head? = some 48
  ·refine ⟨0, ?_, ?_⟩
   ·rw [decide_eq_true hz]
    have : numC t = none := by unfold numC; rw [if_neg (fun hh => hh.1.2 hz)]
    rw [this]
    simp only [bs, tb]
    exact ip trivial rfl
   ·intro c hc
    unfold numC at hc; rw [if_neg (fun hh => hh.1.2 hz)] at hc; cases hc
  ·rw [decide_eq_false hz]
   simp only [bs, tb]
   have := cnum_l t (by omega) t.length 0 0 (by omega) (by simp)
   rw [List.drop_zero, rowG_eq] at this
   by_cases ha : t.all isD = true
   ·rw [if_pos ha] at this
    refine ⟨rowN t, im (by decide) (Eq.trans this ?_), fun c hc => ?_⟩
    ·show some (PV.tup [.sc (.int .i64 (rowN t : Int)), .sc (.bool (decide ((rowN t : Int) < 64)))]) = _
     congr 4
     unfold numC
     by_cases h6 : rowN t < 64
     ·rw [if_pos ⟨⟨h, hz⟩, ha, h6⟩, decide_eq_true (by omega)]; rfl
     ·rw [if_neg (fun hh => h6 hh.2.2), decide_eq_false (by omega)]; rfl
    ·unfold numC at hc
     split at hc
     ·rename_i hh; cases hc; exact ⟨rfl, hh.2.2⟩
     ·cases hc
   ·rw [if_neg ha] at this
    have hN : numC t = none := by unfold numC; rw [if_neg (fun hh => ha hh.2.1)]
    refine ⟨0, im (by decide) (Eq.trans this ?_), fun c hc => by rw [hN] at hc; cases hc⟩
    rw [hN]; rfl
 ·have hN : numC t = none := by unfold numC; rw [if_neg (fun hh => h hh.1.1)]
  have cz : (decide (((B t).size : Int) < 1) || decide (((B t).size : Int) > 2)) = true := by
   rw [Bool.or_eq_true, decide_eq_true_eq, decide_eq_true_eq, B_size]; omega
  refine ⟨0, ?_, fun c hc => by rw [hN] at hc; cases hc⟩
  rw [cz, hN]
  simp only [if_true, bs, tb]
  rfl
end Go.Den.ET
/- A text, cut at its commas: the plain part. -/
set_option linter.unusedVariables false
set_option linter.unusedSimpArgs false
namespace Go.Den
open Go Go.Proofs
theorem spc_ne : ∀ l, ∃ h t, spc l = h :: t
 | [] => ⟨_, _, rfl⟩
 | b :: l => by
  unfold spc
  split
  ·exact ⟨_, _, rfl⟩
  ·obtain ⟨h, t, e⟩ := spc_ne l
   rw [e]; exact ⟨_, _, rfl⟩
theorem spc_cons {b : UInt8} (hb : b ≠ 44) {l h : List UInt8} {t : List (List UInt8)} (e : spc l = h :: t) : spc (b :: l) = (b :: h) :: t := by
 unfold spc; rw [if_neg hb, e]
theorem spc_blank (l : List UInt8) : spc (44 :: l) = [] :: spc l := by
 conv => lhs; unfold spc
 rfl
theorem splitC_eq : ∀ l : List UInt8, Lib.splitK [44] 0 (Lib.count l [44]) l = spc l
 | [] => by
  rw [Lib.count_miss (by rfl)]; rfl
 | b :: l => by
  by_cases hb : b = 44
  ·subst hb
   have hix : Lib.index (44 :: l) [44] = ((0 : Nat) : Int) := by rw [Lib.index]; simp [List.isPrefixOf]
   rw [Lib.count_cons_eq, Nat.add_comm, Lib.splitK, if_neg (by rw [hix]; decide), hix, spc_blank, ← splitC_eq l]
   rfl
  ·have hp : ([44] : List UInt8).isPrefixOf (b :: l) = false := by simp [List.isPrefixOf, Ne.symm hb]
   have hix : Lib.index (b :: l) [44] = if Lib.index l [44] == -1 then -1 else Lib.index l [44] + 1 := by rw [Lib.index, hp]; simp
   have ih := splitC_eq l
   rw [Lib.count_cons_ne b 44 l hb]
   by_cases hm : Lib.index l [44] = -1
   ·rw [Lib.count_miss hm] at ih ⊢
    rw [spc_cons hb (h := l) (t := []) ih.symm]; rfl
   ·have hge := Lib.index_ge l [44]
    obtain ⟨j, hj⟩ : ∃ j : Nat, Lib.index l [44] = j := ⟨(Lib.index l [44]).toNat, by omega⟩
    have hix' : Lib.index (b :: l) [44] = ((j + 1 : Nat) : Int) := by rw [hix, if_neg (by rw [hj]; simp <;> omega), hj]; omega
    rw [Lib.count_hit (by simp) hj, Nat.add_comm] at ih ⊢
    rw [Lib.splitK, if_neg (by rw [hj]; simp <;> omega), hj] at ih
    rw [Lib.splitK, if_neg (by rw [hix']; simp <;> omega), hix']
    rw [spc_cons hb ih.symm]
    rfl
theorem splitB_spc (l : List UInt8) : Lib.splitB (B [44]) 0 (Lib.countB (B l) (B [44])) (B l) = (spc l).map B := by
 have h := Lib.splitB_data (B [44]) 0 (Lib.countB (B l) (B [44])) (B l)
 have e : Lib.splitK (B [44]).data.toList 0 (Lib.countB (B l) (B [44])) (B l).data.toList = spc l := splitC_eq l
 rw [e] at h
 rw [← h, List.map_map]
 conv => lhs; rw [← List.map_id (Lib.splitB (B [44]) 0 (Lib.countB (B l) (B [44])) (B l))]
 apply List.map_congr_left
 intro s _
 rcases s with ⟨⟨s⟩⟩
 rfl
theorem spc_word : ∀ (w r : List UInt8), (44 : UInt8) ∉ w → spc (w ++ 44 :: r) = w :: spc r
 | [], r, _ => spc_blank r
 | b :: w, r, h => by
  have hb : b ≠ 44 := fun e => h (by rw [e]; exact List.mem_cons_self)
  rw [List.cons_append]
  exact spc_cons hb (spc_word w r fun hm => h (List.mem_cons_of_mem _ hm))
theorem spc_last : ∀ w : List UInt8, (44 : UInt8) ∉ w → spc w = [w]
 | [], _ => rfl
 | b :: w, h => by
  have hb : b ≠ 44 := fun e => h (by rw [e]; exact List.mem_cons_self)
  exact spc_cons hb (spc_last w fun hm => h (List.mem_cons_of_mem _ hm))
theorem spc_len : ∀ l : List UInt8, (spc l).flatten.length + (spc l).length = l.length + 1
 | [] => rfl
 | b :: l => by
  have ih := spc_len l
  by_cases hb : b = 44
  ·subst hb
   rw [spc_blank, List.flatten_cons, List.nil_append, List.length_cons, List.length_cons]; omega
  ·obtain ⟨h0, t0, e0⟩ := spc_ne l
   rw [spc_cons hb e0]
   rw [e0] at ih
   simp only [List.flatten_cons, List.length_append, List.length_cons] at ih ⊢
   omega
end Go.Den
/- Labels read of texts, by the program. -/
set_option linter.unusedVariables false
set_option linter.unusedSimpArgs false
set_option maxRecDepth 100000
namespace Go.Den.ET
open Go Go.Proofs
def wpC (ws : List (List UInt8)) : List PV := ws.map fun w => .sc (.string (B w))
theorem wpC_len (ws : List (List UInt8)) : (wpC ws).length = ws.length := by simp [wpC]
theorem wpC_get {ws : List (List UInt8)} {i : Nat} (h : i < ws.length) : (wpC ws).getD i .top = .sc (.string (B ws[i])) := by simp [wpC, h]
theorem splc_ev (l : List UInt8) (hl : l.length ≤ 1000000) : D 209 [.sc (.string (B l)), .sc (.string (⟨#[44]⟩ : ByteArray))] = some (frozen 1 (wpC (spc l))) := by
 have e : D 209 [.sc (.string (B l)), .sc (.string (⟨#[44]⟩ : ByteArray))] = xSplit [.sc (.string (B l)), .sc (.string (⟨#[44]⟩ : ByteArray))] := (denI_eq 0 _ _).trans (by kernel_rfl)
 rw [e]
 refine (if_pos ⟨by rw [B_size]; omega, by decide⟩).trans ?_
 show some (strs (Lib.splitB (B [44]) 0 (Lib.countB (B l) (B [44])) (B l))) = _
 rw [splitB_spc]
 unfold strs wpC
 rw [List.map_map]
 rfl
def catR : Option Nat → PV
 | none => .tup [.sc (.int .u64 0), .sc (.bool false)]
 | some s => .tup [.sc (.int .u64 (s : Int)), .sc (.bool true)]
theorem cats_l (ws : List (List UInt8)) (hl : ws.length ≤ 1000001) : ∀ (d i s : Nat), i + d = ws.length → s < 2 ^ 64 → f185.l0a 0 (s : Int) ws.length (fun i => (wpC ws).getD i .top) (ws.length : Int) (i : Int) = some (catR (catsG s (ws.drop i))) := by
 intro d
 induction d with
 | zero =>
  intro i s h hs
  rw [f185.l0a_eq]
  refine im (by rw [decide_eq_true_eq]; omega) ?_
  rw [List.drop_eq_nil_of_le (by omega)]; rfl
 | succ d ih =>
  intro i s h hs
  have hi : i < ws.length := by omega
  rw [f185.l0a_eq]
  rw [Int.toNat_natCast, wpC_get hi, List.drop_eq_getElem_cons hi, catsG]
  refine ip (by rw [decide_eq_true_eq]; omega) (ip (by omega) (ip (by omega) (ip rfl ?_)))
  obtain ⟨m, e1, e2⟩ := cnum_ev ws[i]
  refine cb e1 rfl ?_
  show Option.bind (α := PV) (if (!(numC ws[i]).isSome) = true then some (.sc (.bool true)) else Option.bind (α := PV) (Option.bind (α := PV) (Option.bind (α := PV) (if 0 ≤ IntKind.u64.wrap (m : Int) then some (.sc (.bool (((s : Int).fdiv (2 ^ (min (IntKind.u64.wrap (m : Int)).toNat 64))) != 0))) else none) fun r3 => some (.sc (.bool r3.toBool))) fun r4 => some (.sc (.bool r4.toBool))) fun r5 => some (.sc (.bool r5.toBool))) (fun r6 => if r6.toBool = true then some (.tup [.sc (.int .u64 0), .sc (.bool false)]) else if 0 ≤ IntKind.u64.wrap (m : Int) then f185.l0a 0 (Go.bits .or .u64 (s : Int) (IntKind.u64.wrap ((1 : Int) * 2 ^ (min (IntKind.u64.wrap (m : Int)).toNat 64)))) ws.length (fun i => (wpC ws).getD i .top) (ws.length : Int) (IntKind.i64.wrap ((i : Int) + 1)) else none) = _
  cases hN : numC ws[i] with
  | none =>
   simp only [Option.isSome_none, Bool.not_false, if_true, bs, tb]
   rfl
  | some c =>
   obtain ⟨rfl, h64⟩ := e2 c hN
   have ew : IntKind.u64.wrap (c : Int) = (c : Int) := u64i (by omega) (by omega)
   have c0 : (0 : Int) ≤ (c : Int) := by omega
   have hp : (2 : Nat) ^ (c + 1) ≤ 2 ^ 64 := Nat.pow_le_pow_right (by decide) h64
   rw [Nat.pow_succ] at hp
   have hpc : ((2 : Int) ^ c) = ((2 ^ c : Nat) : Int) := by rw [Int.natCast_pow]; rfl
   rw [ew, Int.toNat_natCast, show min c 64 = c by omega]
   simp only [Option.isSome_some, Bool.not_true, Bool.false_eq_true, if_false, if_pos c0, bs, tb]
   have efd : ((s : Nat) : Int).fdiv ((2 ^ c : Nat) : Int) = ((s / 2 ^ c : Nat) : Int) := by rw [Int.fdiv_eq_ediv_of_nonneg _ (by omega), Int.natCast_ediv]
   rw [hpc, Int.one_mul, efd]
   have e0 : (((s / 2 ^ c : Nat) : Int) != 0) = !decide (s / 2 ^ c = 0) := by
    rw [Bool.eq_iff_iff, bne_iff_ne, Bool.not_eq_true', decide_eq_false_iff_not]; omega
   rw [e0]
   by_cases hz : s / 2 ^ c = 0
   ·rw [if_pos hz, decide_eq_true hz]
    refine im (by decide) ?_
    have h1 : s < 2 ^ c := by
     apply Classical.byContradiction; intro hn
     have : 1 ≤ s / 2 ^ c := (Nat.le_div_iff_mul_le (Nat.pow_pos (by decide))).2 (by omega)
     omega
    have eu : IntKind.u64.wrap ((2 ^ c : Nat) : Int) = ((2 ^ c : Nat) : Int) := u64i (by omega) (by omega)
    have eo : Go.bits .or .u64 (s : Int) ((2 ^ c : Nat) : Int) = ((s + 2 ^ c : Nat) : Int) := by
     rw [(bits_nat .u64 64 (by decide) (fun n h0 h1 => u64i h0 (by simpa using h1)) s (2 ^ c) hs (by omega)).2]
     have := Nat.two_pow_add_eq_or_of_lt h1 1
     rw [Nat.mul_one] at this
     rw [Nat.or_comm, ← this, Nat.add_comm]
    rw [eu, eo, nx hi (by omega)]
    exact ih (i + 1) _ (by omega) (by omega)
   ·rw [if_neg hz, decide_eq_false hz]
    exact ip (by decide) rfl
theorem cats_ev (t : List UInt8) (hl : t.length ≤ 1000000) : D 185 [.sc (.string (B t))] = some (catR (catsP t)) := by
 rw [f185_eq 0]
 have he : ((B t).toList == (⟨#[]⟩ : ByteArray).toList) = decide (t = []) := by
  rw [show (⟨#[]⟩ : ByteArray) = B [] from rfl, B_toList, B_toList, Bool.eq_iff_iff, beq_iff_eq, decide_eq_true_iff]
 rw [he]
 unfold catsP
 by_cases ht : t = []
 ·rw [if_pos ht]; exact ip (decide_eq_true ht) rfl
 ·rw [if_neg ht]
  refine im (by rw [decide_eq_true_eq]; exact ht) (cb (splc_ev t hl) (by simp [hasSh, frozen, PV.isLst]) ?_)
  have hn := spc_len t
  have hl2 : (spc t).length ≤ 1000001 := by omega
  have := cats_l (spc t) hl2 (spc t).length 0 0 (Nat.zero_add _) (by decide)
  rw [List.drop_zero] at this
  show f185.l0a 0 0 (wpC (spc t)).length (fun i => (wpC (spc t)).getD i .top) ((wpC (spc t)).length : Int) 0 = _
  rw [wpC_len]
  exact this
theorem itoac_ev {n : Int} (h : I64 n) : D 112 [.sc (.int .i64 n)] = some (.sc (.string (B (Lib.itoa n)))) := by
 have e : D 112 [.sc (.int .i64 n)] = xItoa [.sc (.int .i64 n)] := (denI_eq 0 _ _).trans (by kernel_rfl)
 rw [e]
 unfold xItoa
 exact if_pos ⟨h.1, h.2⟩
def levR (h : List UInt8) : Nat → Nat → Int → Int
 | 0, _, l => l
 | d + 1, i, l => levR h d (i + 1) (if Lib.decDigits i = h then (i : Int) else l)
theorem levR_no {h : List UInt8} : ∀ (d i : Nat) (l : Int), (∀ n, i ≤ n → n < i + d → Lib.decDigits n ≠ h) → levR h d i l = l
 | 0, _, _, _ => rfl
 | d + 1, i, l, hn => by
  rw [levR, if_neg (hn i (by omega) (by omega))]
  exact levR_no d (i + 1) l fun n h1 h2 => hn n (by omega) (by omega)
theorem dd_inj {m n : Nat} (h : Lib.decDigits m = Lib.decDigits n) : m = n := by rw [← dd_val m, h, dd_val]
theorem levR_yes {h : List UInt8} {n : Nat} (hn : Lib.decDigits n = h) : ∀ (d i : Nat) (l : Int), i ≤ n → n < i + d → levR h d i l = (n : Int)
 | 0, i, l, h1, h2 => by omega
 | d + 1, i, l, h1, h2 => by
  rw [levR]
  by_cases hi : i = n
  ·subst hi
   rw [if_pos hn]
   exact levR_no d (i + 1) _ fun m h3 h4 e => by have := dd_inj (e.trans hn.symm); omega
  ·exact levR_yes hn d (i + 1) _ (by omega) (by omega)
theorem levR_eq (h : List UInt8) : levR h 16 0 (-1) = match levP h with
  | some n => (n : Int)
  | none => -1 := by
 unfold levP
 cases hf : (List.range 16).find? (fun n => Lib.decDigits n == h) with
 | none =>
  have := List.find?_eq_none.1 hf
  exact levR_no 16 0 (-1) fun n _ h2 e => this n (List.mem_range.2 (by omega)) (by rw [e]; exact beq_self_eq_true h)
 | some n =>
  have h1 := List.find?_some hf
  have h2 := List.mem_range.1 (List.mem_of_find?_eq_some hf)
  exact levR_yes (beq_iff_eq.1 h1) 16 0 (-1) (by omega) (by omega)
theorem levP_le {h : List UInt8} {n : Nat} (e : levP h = some n) : n ≤ 15 := by
 unfold levP at e
 have := List.mem_range.1 (List.mem_of_find?_eq_some e)
 omega
def labF (c : Option Nat) (l : Int) (more : Bool) : Bool := match c with
 | none => false
 | some s => !(decide (l < 0) || !(more == (s != 0)) || (l == 15 && s == 18446744073709551615))
theorem lab_l (hd rest : List UInt8) (hr : rest.length ≤ 1000000) (more : Bool) : ∀ (d i : Nat) (l : Int), i + d = 16 → ∃ x y, f137.l0a 0 (B hd) (B rest) more (i : Int) 0 0 l 0 = some (.tup [.agg [.sc (.int .i64 x), .sc (.int .u64 y)], .sc (.bool (labF (catsP rest) (levR hd d i l) more))]) := by
 intro d
 induction d with
 | zero =>
  intro i l h
  rw [f137.l0a_eq]
  have hi : i = 16 := by omega
  subst hi
  have hl16 : ∀ u v : Option PV, (if decide (((16 : Nat) : Int) < 16) = true then u else v) = v := fun u v => im (by decide) rfl
  rw [hl16]
  have hc := cats_ev rest hr
  rw [levR]
  cases hC : catsP rest with
  | none =>
   rw [hC] at hc
   refine ⟨0, 0, cb hc rfl ?_⟩
   rfl
  | some s =>
   rw [hC] at hc
   have e1 : (((s : Nat) : Int) != 0) = (s != 0) := by rw [Bool.eq_iff_iff, bne_iff_ne, bne_iff_ne]; omega
   have e2 : (((s : Nat) : Int) == 18446744073709551615) = (s == 18446744073709551615) := by rw [Bool.eq_iff_iff, beq_iff_eq, beq_iff_eq]; omega
   have go : ∀ {r : Option PV}, (if (decide (l < 0) || !(more == (s != 0)) || (l == 15 && s == 18446744073709551615)) = true then some (PV.tup [.agg [.sc (.int .i64 0), .sc (.int .u64 0)], .sc (.bool false)]) else some (.tup [.agg [.sc (.int .i64 l), .sc (.int .u64 (s : Int))], .sc (.bool true)])) = r →
     ((D 185 [.sc (.string (B rest))]).bind fun r4 => if hasSh (.tup [(.int .u64), .bool]) r4 = true then
      Option.bind (α := PV) (if (!((cel 1 r4.parts).toBool)) = true then some (.sc (.bool true)) else some (.sc (.bool (decide (l < 0))))) fun r5 =>
      Option.bind (α := PV) (if r5.toBool = true then some (.sc (.bool true)) else some (.sc (.bool (!(more == (((cel 0 r4.parts).toInt) != 0)))))) fun r6 =>
      Option.bind (α := PV) (if r6.toBool = true then some (.sc (.bool true)) else Option.bind (α := PV) ((D 183 []).bind fun r7 => if hasSh (.agg [(.int .i64), (.int .u64)]) r7 = true then some (.sc (.bool ((l == ((cel 0 r7.cells).toInt)) && ((((cel 0 r4.parts).toInt) == ((cel 1 r7.cells).toInt)) && true)))) else none) fun r8 => some (.sc (.bool r8.toBool))) fun r9 =>
      if r9.toBool = true then some (PV.tup [.agg [.sc (.int .i64 0), .sc (.int .u64 0)], .sc (.bool false)]) else some (.tup [.agg [.sc (.int .i64 l), .sc (.int .u64 ((cel 0 r4.parts).toInt))], .sc (.bool true)]) else none) = r := by
    intro r hgo
    refine cb hc rfl ?_
    have ht : D 183 [] = some (.agg [.sc (.int .i64 15), .sc (.int .u64 18446744073709551615)]) := f183_eq 0
    simp only [ht, bs]
    show Option.bind (α := PV) (if false = true then some (.sc (.bool true)) else some (.sc (.bool (decide (l < 0))))) (fun r5 =>
      Option.bind (α := PV) (if r5.toBool = true then some (.sc (.bool true)) else some (.sc (.bool (!(more == (((s : Nat) : Int) != 0)))))) fun r6 =>
      Option.bind (α := PV) (if r6.toBool = true then some (.sc (.bool true)) else some (.sc (.bool ((l == 15) && ((((s : Nat) : Int) == 18446744073709551615) && true))))) fun r9 =>
      if r9.toBool = true then some (PV.tup [.agg [.sc (.int .i64 0), .sc (.int .u64 0)], .sc (.bool false)]) else some (PV.tup [.agg [.sc (.int .i64 l), .sc (.int .u64 (s : Int))], .sc (.bool true)])) = _
    rw [e1, e2, bO, bO, bO, Bool.and_true]
    exact hgo
   by_cases hb : (decide (l < 0) || !(more == (s != 0)) || (l == 15 && s == 18446744073709551615)) = true
   ·refine ⟨0, 0, go (ip hb ?_)⟩
    unfold labF; dsimp only; rw [hb]; rfl
   ·refine ⟨l, s, go (im hb ?_)⟩
    have : (decide (l < 0) || !(more == (s != 0)) || (l == 15 && s == 18446744073709551615)) = false := by simpa using hb
    unfold labF; dsimp only; rw [this]; rfl
 | succ d ih =>
  intro i l h
  obtain ⟨x, y, e⟩ := ih (i + 1) (if Lib.decDigits i = hd then (i : Int) else l) (by omega)
  refine ⟨x, y, ?_⟩
  rw [f137.l0a_eq]
  refine ip (by rw [decide_eq_true_eq]; omega) (cb (itoac_ev (n := (i : Int)) (by unfold I64; omega)) rfl ?_)
  rw [levR, ← e]
  have eb : ((B (Lib.itoa (i : Int))).toList == (B hd).toList) = decide (Lib.decDigits i = hd) := by
   rw [B_toList, B_toList, itoa_nat, Bool.eq_iff_iff, beq_iff_eq, decide_eq_true_iff]
  show (if ((B (Lib.itoa (i : Int))).toList == (B hd).toList) = true then _ else _) = _
  rw [eb, nx (n := 16) (show i < 16 by omega) (by decide)]
  by_cases hi : Lib.decDigits i = hd
  ·rw [if_pos hi]
   exact ip (decide_eq_true hi) rfl
  ·rw [if_neg hi]
   exact im (by rw [decide_eq_true_eq]; exact hi) rfl
theorem lab_ev (t : List UInt8) (hl : t.length ≤ 1000000) : ∃ x y, D 137 [.sc (.string (B t))] = some (.tup [.agg [.sc (.int .i64 x), .sc (.int .u64 y)], .sc (.bool (labP t))]) := by
 rw [f137_eq 0]
 have he : ((B t).toList == (⟨#[116, 111, 112]⟩ : ByteArray).toList) = decide (t = topT) := by
  rw [show (⟨#[116, 111, 112]⟩ : ByteArray) = B topT from rfl, B_toList, B_toList, Bool.eq_iff_iff, beq_iff_eq, decide_eq_true_iff]
 rw [he]
 unfold labP
 by_cases ht : t = topT
 ·refine ⟨15, 18446744073709551615, ip (decide_eq_true ht) (cb (f183_eq 0) rfl ?_)⟩
  rw [ht, beq_self_eq_true, Bool.true_or]
  rfl
 ·have hc := cutg_ev 58 hl
  rw [cutg_C] at hc
  have hlr : ((cutC t).2.getD []).length ≤ t.length := by
   have : ∀ t : List UInt8, ((cutC t).2.getD []).length ≤ t.length := by
    intro t
    induction t with
    | nil => exact Nat.le_refl _
    | cons b t ih =>
     rw [cutC]
     split
     ·simp
     ·simp only [List.length_cons]; omega
   exact this t
  obtain ⟨x, y, e⟩ := lab_l (cutC t).1 ((cutC t).2.getD []) (by omega) (cutC t).2.isSome 16 0 (-1) rfl
  refine ⟨x, y, im (by rw [decide_eq_true_eq]; exact ht) (cb hc rfl ?_)⟩
  refine Eq.trans e ?_
  rw [show (t == topT) = false by rw [beq_eq_false_iff_ne]; exact ht, Bool.false_or, levR_eq]
  congr 5
  unfold labF
  cases hC : catsP ((cutC t).2.getD []) with
  | none => cases levP (cutC t).1 <;> rfl
  | some s =>
   cases hL : levP (cutC t).1 with
   | none => rfl
   | some n =>
    dsimp only
    have hn := levP_le hL
    have e1 : decide ((n : Int) < 0) = false := by rw [decide_eq_false_iff_not]; omega
    have e2 : ((n : Int) == 15) = (n == 15) := by rw [Bool.eq_iff_iff, beq_iff_eq, beq_iff_eq]; omega
    rw [e1, e2, Bool.false_or, Bool.not_or, Bool.not_not]
end Go.Den.ET
/- Right, and how deep: the program's answers. -/
set_option linter.unusedVariables false
set_option linter.unusedSimpArgs false
set_option maxRecDepth 100000
namespace Go.Den.ET
open Go Go.Proofs
theorem i64 (n : Int) (m : Int) : (n == m) = decide (n = m) := by rw [Bool.eq_iff_iff, beq_iff_eq, decide_eq_true_iff]
theorem fitn_ev (c : UInt8) (n : Nod) (hs : n.val.text.size ≤ 1000000) : D 84 [.sc (.int .u8 (c.toNat : Int)), n.pv] = some (.sc (.bool (fitsA c n))) := by
 obtain ⟨kind, op, v, a, b, l⟩ := n
 refine (f84_eq 0 _ _ _ _ _ _ _ _ _ _ _ _ _ _ _ _).trans ?_
 have hq : ∀ m : UInt8, (((c.toNat : Nat) : Int) == (m.toNat : Int)) = decide (c = m) := by
  intro m
  rw [Bool.eq_iff_iff, beq_iff_eq, decide_eq_true_iff]
  constructor
  ·intro h; exact UInt8.toNat_inj.1 (by omega)
  ·intro h; rw [h]
 have q1 := hq 108; have q2 := hq 114; have q3 := hq 110; have q4 := hq 116
 unfold fitsA
 by_cases h1 : c = 108
 ·rw [if_pos h1]; exact ip (by rw [h1]; rfl) rfl
 rw [if_neg h1]
 refine im (by show ¬ (((c.toNat : Nat) : Int) == ((108 : UInt8).toNat : Int)) = true; rw [q1, decide_eq_true_eq]; exact h1) ?_
 have key : Option.bind (α := PV) (β := PV) (if (kind == 3) = true then some (.sc (.bool true)) else some (.sc (.bool (kind == 4)))) (fun r1 => Option.bind (α := PV) (β := PV) (if r1.toBool = true then some (.sc (.bool true)) else some (.sc (.bool (kind == 2)))) fun r2 => some (PV.sc (.bool r2.toBool))) = some (.sc (.bool (kind == 3 || kind == 4 || kind == 2))) := by
  rw [bO, bO]; rfl
 by_cases h2 : c = 114
 ·rw [if_pos (show c = 114 ∨ c = 110 from .inl h2)]
  exact ip (by rw [h2]; rfl) key
 refine im (by show ¬ (((c.toNat : Nat) : Int) == ((114 : UInt8).toNat : Int)) = true; rw [q2, decide_eq_true_eq]; exact h2) ?_
 by_cases h3 : c = 110
 ·rw [if_pos (show c = 114 ∨ c = 110 from .inr h3)]
  exact ip (by rw [h3]; rfl) key
 rw [if_neg (show ¬ (c = 114 ∨ c = 110) by rintro (h | h); exact h2 h; exact h3 h)]
 refine im (by show ¬ (((c.toNat : Nat) : Int) == ((110 : UInt8).toNat : Int)) = true; rw [q3, decide_eq_true_eq]; exact h3) ?_
 by_cases h4 : c = 116
 ·rw [if_pos h4]
  refine ip (by rw [h4]; rfl) ?_
  obtain ⟨x, y, e⟩ := lab_ev (tb8 v.text) (by rw [tb8_len]; exact hs)
  rw [tb8_B] at e
  refine cb e rfl ?_
  rw [bA, bA]
  show some (PV.sc (.bool ((labP (tb8 v.text) && kind == 1) && v.kind == 2))) = some (PV.sc (.bool ((kind == 1 && v.kind == 2) && labP (tb8 v.text))))
  congr 3
  cases labP (tb8 v.text) <;> cases (kind == 1) <;> cases (v.kind == 2) <;> rfl
 ·rw [if_neg h4]
  exact im (by show ¬ (((c.toNat : Nat) : Int) == ((116 : UInt8).toNat : Int)) = true; rw [q4, decide_eq_true_eq]; exact h4) rfl
theorem right_text {n : Nod} (h : n.rightN = true) : n.val.text.size ≤ 256 := by
 cases rgt h with
 | str t ht hp => exact ht
 | num => exact Nat.zero_le _
 | tru => exact Nat.zero_le _
 | lost => exact Nat.zero_le _
 | one => exact Nat.zero_le _
 | range => exact Nat.zero_le _
 | neg => exact Nat.zero_le _
 | bin => exact Nat.zero_le _
 | call => exact Nat.zero_le _
theorem fits_le {f : Int} {n : Nat} (h : fitsF f n = true) : n ≤ 9 := by
 unfold fitsF at h
 rcases row_cases f with e | ⟨a, b, k, e, ha, hb, hl⟩
 ·rw [e] at h; cases h
 ·rw [e] at h
  simp only [Bool.and_eq_true, decide_eq_true_eq] at h
  have := isD_rng hb
  omega
theorem called_l (kind op : Int) (v : Vl) (a b : Rf) (l : List Nod) (hl : l.length ≤ 1000000000) (ht : ∀ n ∈ l, n.val.text.size ≤ 1000000) : ∀ (d i : Nat), i + d = l.length → f85.l0a 0 (pvs l).length (fun i => (pvs l).getD i .top) (l.length : Int) (i : Int) kind op v.kind v.num v.text a.row a.col a.hr a.hc b.row b.col b.hr b.hc (pvs l).length (fun i => (pvs l).getD i .top) = some (.sc (.bool (fitsL op i (l.drop i)))) := by
 intro d
 induction d with
 | zero =>
  intro i h
  rw [f85.l0a_eq]
  refine im (by rw [decide_eq_true_eq]; omega) ?_
  rw [List.drop_eq_nil_of_le (by omega)]; rfl
 | succ d ih =>
  intro i h
  have hi : i < l.length := by omega
  rw [f85.l0a_eq]
  rw [Int.toNat_natCast, pvs_get hi, List.drop_eq_getElem_cons hi, fitsL]
  refine ip (by rw [decide_eq_true_eq]; omega) (ip (by omega) (ip (by rw [pvs_len]; omega) (ip (sh_pv _) (cb (kind_ev op (i := i) (by omega)) rfl ?_))))
  have hf := fitn_ev (kindF op i) l[i] (ht _ (List.getElem_mem hi))
  rw [← rb_pv] at hf
  refine cb hf rfl ?_
  by_cases hp : fitsA (kindF op i) l[i] = true
  ·rw [hp, Bool.true_and]
   refine im (by decide) ?_
   rw [nx hi (by omega)]
   exact ih (i + 1) (by omega)
  ·have : fitsA (kindF op i) l[i] = false := by simpa using hp
   rw [this, Bool.false_and]
   exact ip rfl rfl
/-- One node, whatever is below it. -/
theorem one_l (kind op : Int) (v : Vl) (a b : Rf) (l : List Nod) (hk : (Nod.mk kind op v a b l).ok) (ht : ∀ n ∈ l, n.val.text.size ≤ 1000000) (i : Int) (hi : ¬ i < (l.length : Int)) :
  f43.l0a 0 (pvs l).length (fun i => (pvs l).getD i .top) (l.length : Int) i kind op v.kind v.num v.text a.row a.col a.hr a.hc b.row b.col b.hr b.hc (pvs l).length (fun i => (pvs l).getD i .top) = some (.sc (.bool (one1 kind op v a b l))) := by
 rw [Nod.ok] at hk
 obtain ⟨⟨k1, k2⟩, _, k3⟩ := hk
 rw [f43.l0a_eq]
 refine im (by rw [decide_eq_true_eq]; exact hi) (cb (has_ev kind op v a b l) rfl ?_)
 have hf := fun c n h => fitn_ev c n h
 unfold one1
 by_cases h1 : kind = 1
 ·rw [if_pos h1]
  refine ip (by rw [h1]; rfl) ?_
  show Option.bind (α := PV) (β := PV) (if (Go.bits .andNot .u64 (hasZ (!(op == 0)) (!isZV v) (!isZR a) (!isZR b) (!l.isEmpty)) 2 == 0) = true then Option.bind (α := PV) (β := PV) (Option.bind (α := PV) (β := PV) ((D 82 [Vl.pv v]).bind fun r3 => if hasSh .bool r3 = true then some (.sc (.bool r3.toBool)) else none) fun r4 => some (.sc (.bool r4.toBool))) (fun r5 => some (.sc (.bool r5.toBool))) else some (.sc (.bool false))) (fun r6 => some (.sc (.bool r6.toBool))) = _
  rw [ma2]
  simp only [lit_ev v k2 (by omega), bs, shb, if_true, tb]
  rw [bA]; rfl
 rw [if_neg h1]
 refine im (by simpa using h1) ?_
 by_cases h2 : kind = 2
 ·rw [if_pos h2]
  refine ip (by rw [h2]; rfl) ?_
  show some (PV.sc (.bool (hasZ (!(op == 0)) (!isZV v) (!isZR a) (!isZR b) (!l.isEmpty) == 0))) = _
  rw [ma0]
 rw [if_neg h2]
 refine im (by simpa using h2) ?_
 by_cases h3 : kind = 3
 ·rw [if_pos h3]
  refine ip (by rw [h3]; rfl) ?_
  show Option.bind (α := PV) (β := PV) (if (Go.bits .andNot .u64 (hasZ (!(op == 0)) (!isZV v) (!isZR a) (!isZR b) (!l.isEmpty)) 4 == 0) = true then Option.bind (α := PV) (β := PV) (Option.bind (α := PV) (β := PV) ((D 83 [a.pv]).bind fun r3 => if hasSh .bool r3 = true then some (.sc (.bool r3.toBool)) else none) fun r4 => some (.sc (.bool r4.toBool))) (fun r5 => some (.sc (.bool r5.toBool))) else some (.sc (.bool false))) (fun r6 => some (.sc (.bool r6.toBool))) = _
  rw [ma4]
  simp only [nref_ev, bs, shb, if_true, tb]
  rw [bA]; rfl
 rw [if_neg h3]
 refine im (by simpa using h3) ?_
 by_cases h4 : kind = 4
 ·rw [if_pos h4]
  refine ip (by rw [h4]; rfl) ?_
  show Option.bind (α := PV) (β := PV) (if (Go.bits .andNot .u64 (hasZ (!(op == 0)) (!isZV v) (!isZR a) (!isZR b) (!l.isEmpty)) 12 == 0) = true then Option.bind (α := PV) (β := PV) (Option.bind (α := PV) (β := PV) ((D 83 [a.pv]).bind fun r3 => if hasSh .bool r3 = true then some (.sc (.bool r3.toBool)) else none) fun r4 => some (.sc (.bool r4.toBool))) (fun r5 => some (.sc (.bool r5.toBool))) else some (.sc (.bool false)))
   (fun r14 => Option.bind (α := PV) (β := PV) (if r14.toBool = true then Option.bind (α := PV) (β := PV) (Option.bind (α := PV) (β := PV) ((D 83 [b.pv]).bind fun r3 => if hasSh .bool r3 = true then some (.sc (.bool r3.toBool)) else none) fun r4 => some (.sc (.bool r4.toBool))) (fun r5 => some (.sc (.bool r5.toBool))) else some (.sc (.bool false))) fun r18 => some (.sc (.bool r18.toBool))) = _
  rw [ma12]
  simp only [nref_ev, bs, shb, if_true, tb]
  rw [bA, bA]; rfl
 rw [if_neg h4]
 refine im (by simpa using h4) ?_
 by_cases h5 : kind = 5
 ·rw [if_pos h5]
  refine ip (by rw [h5]; rfl) ?_
  dsimp +instances only [ti]
  rw [ma16, bA]
  dsimp +instances only [tb]
  have hlen : ((((pvs l).length : Nat) : Int) == 1) = (l.length == 1) := by rw [pvs_len, Bool.eq_iff_iff, beq_iff_eq, beq_iff_eq]; omega
  rw [hlen]
  rcases l with _ | ⟨x, _ | ⟨y, l⟩⟩
  ·rw [show (([] : List Nod).length == 1) = false from rfl, Bool.and_false]; rfl
  ·rw [show ([x].length == 1) = true from rfl, Bool.and_true]
   have e := hf 118 x (ht x (List.mem_cons_self ..))
   rw [← rb_pv] at e
   have c0 : (0 : Int) < (((pvs [x]).length : Nat) : Int) := by rw [pvs_len]; simp
   have hs : hasSh shN ((pvs [x]).getD 0 .top) = true := sh_pv x
   show Option.bind (α := PV) (β := PV) (if _ = true then Option.bind (α := PV) (β := PV) (Option.bind (α := PV) (β := PV) (if 0 < (((pvs [x]).length : Nat) : Int) then if hasSh shN ((pvs [x]).getD 0 .top) = true then Option.bind (α := PV) (β := PV) (Option.bind (α := PV) (β := PV) ((D 84 [.sc (.int .u8 (((118 : UInt8).toNat : Nat) : Int)), rbN x.pv]).bind fun r20 => if hasSh .bool r20 = true then some (.sc (.bool r20.toBool)) else none) fun r21 => some (.sc (.bool r21.toBool))) (fun r22 => some (.sc (.bool r22.toBool))) else none else none) fun r23 => some (.sc (.bool r23.toBool))) (fun r24 => some (.sc (.bool r24.toBool))) else some (.sc (.bool false))) (fun r25 => some (.sc (.bool r25.toBool))) = _
   simp only [if_pos c0, if_pos hs, e, bs, shb, if_true, tb]
   rw [bA]; rfl
  ·rw [show ((x :: y :: l).length == 1) = false by rw [beq_eq_false_iff_ne]; simp, Bool.and_false]; rfl
 rw [if_neg h5]
 refine im (by simpa using h5) ?_
 by_cases h6 : kind = 6
 ·rw [if_pos h6]
  refine ip (by rw [h6]; rfl) ?_
  dsimp +instances only [ti]
  rw [ma17, bA]
  dsimp +instances only [tb]
  rw [bA]
  dsimp +instances only [tb]
  rw [bA]
  dsimp +instances only [tb]
  have hlen : ((((pvs l).length : Nat) : Int) == 2) = (l.length == 2) := by rw [pvs_len, Bool.eq_iff_iff, beq_iff_eq, beq_iff_eq]; omega
  rw [hlen]
  rcases l with _ | ⟨x, _ | ⟨y, _ | ⟨z, l⟩⟩⟩
  ·rw [show (([] : List Nod).length == 2) = false from rfl]
   simp only [Bool.and_false]; rfl
  ·rw [show ([x].length == 2) = false from rfl]
   simp only [Bool.and_false]; rfl
  ·rw [show ([x, y].length == 2) = true from rfl, Bool.and_true]
   have e := hf 118 x (ht x (List.mem_cons_self ..))
   have e2 := hf 118 y (ht y (List.mem_cons_of_mem _ (List.mem_cons_self ..)))
   rw [← rb_pv] at e e2
   have c0 : (0 : Int) < (((pvs [x, y]).length : Nat) : Int) := by rw [pvs_len]; simp
   have c1 : (1 : Int) < (((pvs [x, y]).length : Nat) : Int) := by rw [pvs_len]; simp
   have hs : hasSh shN ((pvs [x, y]).getD 0 .top) = true := sh_pv x
   have hs2 : hasSh shN ((pvs [x, y]).getD 1 .top) = true := sh_pv y
   show Option.bind (α := PV) (β := PV) (if _ = true then Option.bind (α := PV) (β := PV) (Option.bind (α := PV) (β := PV) (if 0 < (((pvs [x, y]).length : Nat) : Int) then if hasSh shN ((pvs [x, y]).getD 0 .top) = true then Option.bind (α := PV) (β := PV) (Option.bind (α := PV) (β := PV) ((D 84 [.sc (.int .u8 (((118 : UInt8).toNat : Nat) : Int)), rbN x.pv]).bind fun r20 => if hasSh .bool r20 = true then some (.sc (.bool r20.toBool)) else none) fun r21 => some (.sc (.bool r21.toBool))) (fun r22 => some (.sc (.bool r22.toBool))) else none else none) fun r23 => some (.sc (.bool r23.toBool))) (fun r24 => some (.sc (.bool r24.toBool))) else some (.sc (.bool false)))
    (fun r34 => Option.bind (α := PV) (β := PV) (if r34.toBool = true then Option.bind (α := PV) (β := PV) (Option.bind (α := PV) (β := PV) (if 1 < (((pvs [x, y]).length : Nat) : Int) then if hasSh shN ((pvs [x, y]).getD 1 .top) = true then Option.bind (α := PV) (β := PV) (Option.bind (α := PV) (β := PV) ((D 84 [.sc (.int .u8 (((118 : UInt8).toNat : Nat) : Int)), rbN y.pv]).bind fun r20 => if hasSh .bool r20 = true then some (.sc (.bool r20.toBool)) else none) fun r21 => some (.sc (.bool r21.toBool))) (fun r22 => some (.sc (.bool r22.toBool))) else none else none) fun r23 => some (.sc (.bool r23.toBool))) (fun r24 => some (.sc (.bool r24.toBool))) else some (.sc (.bool false))) fun r40 => some (.sc (.bool r40.toBool))) = _
   simp only [if_pos c0, if_pos c1, if_pos hs, if_pos hs2, e, e2, bs, shb, if_true, tb]
   rw [bA, bA]
   dsimp only [tb]
   rw [Bool.and_assoc (_ && _) (fitsA 118 x) (fitsA 118 y)]
  ·rw [show ((x :: y :: z :: l).length == 2) = false by rw [beq_eq_false_iff_ne]; simp]
   simp only [Bool.and_false]; rfl
 rw [if_neg h6]
 refine im (by simpa using h6) ?_
 by_cases h7 : kind = 7
 ·rw [if_pos h7]
  refine ip (by rw [h7]; rfl) ?_
  have hc : D 85 [Nod.pv (.mk kind op v a b l)] = some (.sc (.bool (fitsF op l.length && fitsL op 0 l))) := by
   refine (f85_eq 0 _ _ _ _ _ _ _ _ _ _ _ _ _ _ _).trans ?_
   have hfi := fits_ev op (n := (pvs l).length) (by rw [pvs_len]; omega)
   refine cb hfi rfl ?_
   rw [pvs_len]
   by_cases hp : fitsF op l.length = true
   ·rw [hp, Bool.true_and]
    refine im (by decide) ?_
    have := called_l kind op v a b l (by have := fits_le hp; omega) ht l.length 0 (Nat.zero_add _)
    rw [List.drop_zero, pvs_len] at this
    exact this
   ·have : fitsF op l.length = false := by simpa using hp
    rw [this, Bool.false_and]
    exact ip rfl rfl
  dsimp +instances only [ti]
  rw [ma17]
  show Option.bind (α := PV) (β := PV) (if _ = true then Option.bind (α := PV) (β := PV) ((D 85 [Nod.pv (.mk kind op v a b l)]).bind fun r41 => if hasSh .bool r41 = true then some (.sc (.bool r41.toBool)) else none) (fun r42 => some (.sc (.bool r42.toBool))) else some (.sc (.bool false))) (fun r43 => some (.sc (.bool r43.toBool))) = _
  simp only [hc, bs, shb, if_true, tb]
  rw [bA, ← Bool.and_assoc]; rfl
 rw [if_neg h7]
 exact im (by simpa using h7) rfl
theorem right_l (kind op : Int) (v : Vl) (a b : Rf) (l : List Nod) (hk : (Nod.mk kind op v a b l).ok) (IH : ∀ n ∈ l, D 43 [n.pv] = some (.sc (.bool n.rightN))) : ∀ (d i : Nat), i + d = l.length → (∀ n ∈ l.take i, n.rightN = true) →
  f43.l0a 0 (pvs l).length (fun i => (pvs l).getD i .top) (l.length : Int) (i : Int) kind op v.kind v.num v.text a.row a.col a.hr a.hc b.row b.col b.hr b.hc (pvs l).length (fun i => (pvs l).getD i .top) = some (.sc (.bool (rightsN (l.drop i) && one1 kind op v a b l))) := by
 have hk2 := hk
 rw [Nod.ok] at hk2
 obtain ⟨_, _, k3⟩ := hk2
 intro d
 induction d with
 | zero =>
  intro i h hr
  rw [List.take_of_length_le (by omega)] at hr
  rw [one_l kind op v a b l hk (fun n hn => by have := right_text (hr n hn); omega) i (by omega), List.drop_eq_nil_of_le (by omega)]
  rfl
 | succ d ih =>
  intro i h hr
  have hi : i < l.length := by omega
  rw [f43.l0a_eq]
  rw [Int.toNat_natCast, pvs_get hi, List.drop_eq_getElem_cons hi, rightsN]
  have hf := IH _ (List.getElem_mem hi)
  have hf2 := hf
  rw [← rb_pv] at hf2
  refine ip (by rw [decide_eq_true_eq]; omega) (ip (by omega) (ip (by rw [pvs_len]; omega) (ip (sh_pv _) (cb hf2 rfl ?_))))
  by_cases hp : l[i].rightN = true
  ·rw [hp, Bool.true_and]
   refine im (by decide) ?_
   rw [nx hi (by omega)]
   refine ih (i + 1) (by omega) fun n hn => ?_
   rw [List.take_succ_eq_append_getElem hi] at hn
   rcases List.mem_append.1 hn with h1 | h1
   ·exact hr n h1
   ·rw [List.mem_singleton.1 h1]; exact hp
  ·have : l[i].rightN = false := by simpa using hp
   rw [this, Bool.false_and, Bool.false_and]
   exact ip rfl rfl
theorem right_ev : ∀ (N : Nat) (n : Nod), n.count ≤ N → n.ok → D 43 [n.pv] = some (.sc (.bool n.rightN))
 | 0, .mk _ _ _ _ _ _, hN, _ => by rw [Nod.count] at hN; omega
 | N + 1, .mk kind op v a b l, hN, hk => by
  rw [Nod.count] at hN
  have hk2 := hk
  rw [Nod.ok] at hk2
  refine (f43_eq 0 _ _ _ _ _ _ _ _ _ _ _ _ _ _ _).trans ?_
  have := right_l kind op v a b l hk (fun n hn => right_ev N n (by have := count_mem hn; omega) (oks_mem hk2.2.1 hn)) l.length 0 (Nat.zero_add _) (fun n hn => by simp at hn)
  rw [List.drop_zero] at this
  rw [Nod.rightN, ← this, pvs_len]
  rfl
theorem deep_l (l : List Nod) (hl : l.length ≤ 2000000000000) (hd : deeps l ≤ 1000000000000) (IH : ∀ n ∈ l, D 44 [n.pv] = some (.sc (.int .i64 (n.deep : Int)))) : ∀ (d i m : Nat), i + d = l.length → m ≤ 1000000000000 → f44.l0a 0 (m : Int) (pvs l).length (fun i => (pvs l).getD i .top) (l.length : Int) (i : Int) = some (.sc (.int .i64 ((max m (deeps (l.drop i)) + 1 : Nat) : Int))) := by
 intro d
 induction d with
 | zero =>
  intro i m h hm
  rw [f44.l0a_eq]
  refine im (by rw [decide_eq_true_eq]; omega) ?_
  rw [List.drop_eq_nil_of_le (by omega), w64 (by omega) (by omega), deeps, Nat.max_zero]; rfl
 | succ d ih =>
  intro i m h hm
  have hi : i < l.length := by omega
  rw [f44.l0a_eq]
  have hdi : l[i].deep ≤ deeps l := by
   have : ∀ (l : List Nod) (n : Nod), n ∈ l → n.deep ≤ deeps l := by
    intro l
    induction l with
    | nil => intro n hn; cases hn
    | cons x l ih =>
     intro n hn
     rw [deeps]
     rcases List.mem_cons.1 hn with rfl | hn
     ·omega
     ·have := ih n hn; omega
   exact this l _ (List.getElem_mem hi)
  rw [Int.toNat_natCast, pvs_get hi, List.drop_eq_getElem_cons hi, deeps]
  have hf := IH _ (List.getElem_mem hi)
  rw [← rb_pv] at hf
  refine ip (by rw [decide_eq_true_eq]; omega) (ip (by omega) (ip (by rw [pvs_len]; omega) (ip (sh_pv _) (cb hf rfl ?_))))
  rw [nx hi (by omega)]
  have e : (if (PV.sc (Value.int .i64 (l[i].deep : Int))).toInt > (m : Int) then (PV.sc (Value.int .i64 (l[i].deep : Int))).toInt else (m : Int)) = ((max m l[i].deep : Nat) : Int) := by
   show (if ((l[i].deep : Nat) : Int) > (m : Int) then ((l[i].deep : Nat) : Int) else (m : Int)) = _
   split <;> omega
  rw [e, ih (i + 1) (max m l[i].deep) (by omega) (by omega), Nat.max_assoc]
theorem ndeep_ev : ∀ (N : Nat) (n : Nod), n.count ≤ N → n.ok → n.deep ≤ 1000000000000 → D 44 [n.pv] = some (.sc (.int .i64 (n.deep : Int)))
 | 0, .mk _ _ _ _ _ _, hN, _, _ => by rw [Nod.count] at hN; omega
 | N + 1, .mk kind op v a b l, hN, hk, hd => by
  rw [Nod.count] at hN
  rw [Nod.ok] at hk
  rw [Nod.deep] at hd
  refine (f44_eq 0 _ _ _ _ _ _ _ _ _ _ _ _ _ _ _).trans ?_
  have hdm : ∀ (l : List Nod) (n : Nod), n ∈ l → n.deep ≤ deeps l := by
   intro l
   induction l with
   | nil => intro n hn; cases hn
   | cons x l ih =>
    intro n hn
    rw [deeps]
    rcases List.mem_cons.1 hn with rfl | hn
    ·omega
    ·have := ih n hn; omega
  have := deep_l l (by omega) (by omega) (fun n hn => ndeep_ev N n (by have := count_mem hn; omega) (oks_mem hk.2.1 hn) (by have := hdm l n hn; omega)) l.length 0 0 (Nat.zero_add _) (by omega)
  rw [List.drop_zero, Nat.zero_max] at this
  rw [Nod.deep, ← this, pvs_len]
  rfl
end Go.Den.ET
/- A tree's tokens are parsed as it: the plain part. -/
set_option linter.unusedVariables false
set_option linter.unusedSimpArgs false
namespace Go.Den
open Go Go.Proofs
theorem op_tok {op : Nat} (h : 1 ≤ op ∧ op ≤ 12) : (1 ≤ (sgnO op).2 ∧ (sgnO op).2 ≤ 5) ∧ lvls (sgnO op).2 (sgnO op).1 = op ∧ (∀ j, (sgnO op).2 < j → j ≤ 5 → lvls j (sgnO op).1 = 0) ∧ (sgnO op).1 ≠ [40] ∧ (sgnO op).1 ≠ [58] := by
 have : op = 1 ∨ op = 2 ∨ op = 3 ∨ op = 4 ∨ op = 5 ∨ op = 6 ∨ op = 7 ∨ op = 8 ∨ op = 9 ∨ op = 10 ∨ op = 11 ∨ op = 12 := by omega
 have key : ∀ L : Nat, L ≤ 5 → ∀ x : List UInt8, (∀ j, L < j → j ≤ 5 → lvls j x = 0) ↔ ((List.range 6).all fun j => decide (j ≤ L) || lvls j x == 0) = true := by
  intro L hL x
  rw [List.all_eq_true]
  constructor
  ·intro hh j hj
   rw [List.mem_range] at hj
   by_cases h1 : j ≤ L
   ·rw [decide_eq_true h1]; rfl
   ·rw [hh j (by omega) (by omega)]; simp
  ·intro hh j h1 h2
   have := hh j (by rw [List.mem_range]; omega)
   rw [decide_eq_false (by omega), Bool.false_or, beq_iff_eq] at this
   exact this
 rcases this with rfl | rfl | rfl | rfl | rfl | rfl | rfl | rfl | rfl | rfl | rfl | rfl <;>
  exact ⟨by decide, by decide, (key _ (by decide) _).2 (by decide), by decide, by decide⟩
theorem binds_bin {op : Nat} {m n : Nod} : bindsN (binN op m n) = (sgnO op).2 := by
 unfold bindsN; exact if_pos rfl
theorem binds_no {n : Nod} (h : n.kind ≠ 6) : bindsN n = 9 := if_neg h
theorem wth_le {k : Nat} {n : Nod} (h : k ≤ bindsN n) : wth k n = tkN n := if_pos h
theorem wth_gt {k : Nat} {n : Nod} (h : bindsN n < k) : wth k n = sgt [40] :: (tkN n ++ [sgt [41]]) := if_neg (by omega)
theorem tk_bin (op : Nat) (m n : Nod) : tkN (binN op m n) = wth (sgnO op).2 m ++ sgt (sgnO op).1 :: wth ((sgnO op).2 + 1) n := rfl
theorem tk_neg (n : Nod) : tkN (negN n) = sgt [45] :: wth 6 n := rfl
theorem tk_call (f : Int) (l : List Nod) : tkN (callN f l) = wd (rowP f).1 :: sgt [40] :: (comC (tkNs l) ++ [sgt [41]]) := rfl
theorem kne {n m : Nat} (h : (n == m) = false) : ¬ n = m := fun e => by rw [e, beq_self_eq_true] at h; cases h
theorem head_wth {k : Nat} {n : Nod} {P : Tk → Prop} (ho : P (sgt [40])) (h : ∃ u us, tkN n = u :: us ∧ P u) : ∃ u us, wth k n = u :: us ∧ P u := by
 unfold wth wthC
 split
 ·exact h
 ·exact ⟨_, _, rfl, ho⟩
end Go.Den
/- Tokens: what stands behind one changes nothing, if it goes no further. -/
set_option linter.unusedVariables false
set_option linter.unusedSimpArgs false
namespace Go.Den
open Go Go.Proofs
def stopB (b : UInt8) : Bool := !isD b && b != 46 && b != 34 && !wrdB b
def sepW (q : List UInt8) : Prop := q = [] ∨ ∃ b r, q = b :: r ∧ stopB b = true
end Go.Den
/- Tokens of texts put together. -/
set_option linter.unusedVariables false
set_option linter.unusedSimpArgs false
namespace Go.Den
open Go Go.Proofs
end Go.Den
/- A tree's text is taken apart into its tokens: the plain part. -/
set_option linter.unusedVariables false
set_option linter.unusedSimpArgs false
namespace Go.Den
open Go Go.Proofs
def folT (t : Tk) (q : List UInt8) : Prop := if t.kind = 4 then ((t.text = [60] ∨ t.text = [62]) → q.head? ≠ some 61 ∧ q.head? ≠ some 62) else sepW q
def texT (us : List Tk) : List UInt8 := us.flatMap telT
theorem texT_cons (t : Tk) (us : List Tk) : texT (t :: us) = telT t ++ texT us := rfl
theorem texT_app (us vs : List Tk) : texT (us ++ vs) = texT us ++ texT vs := by unfold texT; rw [List.flatMap_append]
def okL : List Tk → List UInt8 → Prop
 | [], _ => True
 | t :: r, q => (goodT t ∧ folT t (texT r ++ q)) ∧ okL r q
theorem okL_app : ∀ (u v : List Tk) (q : List UInt8), okL u (texT v ++ q) → okL v q → okL (u ++ v) q
 | [], v, q, _, h => h
 | t :: u, v, q, h, h2 => by
  refine ⟨⟨h.1.1, ?_⟩, okL_app u v q h.2 h2⟩
  show folT t (texT (u ++ v) ++ q)
  rw [texT_app, List.append_assoc]
  exact h.1.2
theorem find_sg {t q : List UInt8} (h : t ∈ sigs) (hq : (t = [60] ∨ t = [62]) → q.head? ≠ some 61 ∧ q.head? ≠ some 62) : signL (t ++ q) = some t := by
 have e1 : (t = [60] ∨ t = [62]) → ∀ (l : List UInt8), ([61] : List UInt8).isPrefixOf q = false ∧ ([62] : List UInt8).isPrefixOf q = false := by
  intro ht l
  have := hq ht
  rcases q with _ | ⟨b, q⟩
  ·exact ⟨rfl, rfl⟩
  ·have h1 : b ≠ 61 := fun e => this.1 (by rw [e]; rfl)
   have h2 : b ≠ 62 := fun e => this.2 (by rw [e]; rfl)
   constructor
   ·show (61 == b && _) = false
    rw [Bool.and_eq_false_iff]; left; exact beq_eq_false_iff_ne.2 (Ne.symm h1)
   ·show (62 == b && _) = false
    rw [Bool.and_eq_false_iff]; left; exact beq_eq_false_iff_ne.2 (Ne.symm h2)
 unfold sigs at h
 simp only [List.mem_cons, List.not_mem_nil, or_false] at h
 rcases h with rfl | rfl | rfl | rfl | rfl | rfl | rfl | rfl | rfl | rfl | rfl | rfl | rfl | rfl | rfl | rfl | rfl
 all_goals first
  | rfl
  | (have e2 := e1 (by decide) []; unfold signL sigs; simp only [List.cons_append, List.nil_append, List.find?, List.isPrefixOf, e2.1, e2.2]; rfl)
theorem next_sg {t q : List UInt8} (h : t ∈ sigs) (hq : (t = [60] ∨ t = [62]) → q.head? ≠ some 61 ∧ q.head? ≠ some 62) : nextL (t ++ q) = some (⟨4, 0, t, 0⟩, t.length) := by
 have hf := find_sg h hq
 have : ∀ t ∈ sigs, ∃ b l, t = b :: l ∧ isD b = false ∧ b ≠ 34 ∧ uppB b = false := by
  intro t ht
  have : sigs.all (fun t => match t with | [] => false | b :: l => !isD b && b != 34 && !uppB b) = true := by decide
  have := List.all_eq_true.1 this t ht
  rcases t with _ | ⟨b, l⟩
  ·cases this
  ·simp only [Bool.and_eq_true, Bool.not_eq_true', bne_iff_ne] at this
   exact ⟨b, l, rfl, this.1.1, this.1.2, this.2⟩
 obtain ⟨b, l, e, h1, h2, h3⟩ := this t h
 subst e
 rw [List.cons_append] at hf ⊢
 rw [nextL, if_neg (by rw [h1]; decide), if_neg h2, if_neg (by rw [h3]; decide), hf]
 rfl
theorem good_sg {t : List UInt8} (h : t ∈ sigs) : goodT (sgt t) := by
 have hb : ∃ b l, t = b :: l ∧ b ≠ 32 := by
  rcases t with _ | ⟨b, l⟩
  ·exact absurd (sigs_len h).1 (by decide)
  ·exact ⟨b, l, rfl, fun e => sigs_blank h (by rw [e]; exact List.mem_cons_self ..)⟩
 refine ⟨⟨show 1 ≤ 4 by decide, show 4 ≤ 4 by decide⟩, hb, fun q hq => next_sg h fun _ => ?_⟩
 rcases hq with rfl | ⟨r, rfl⟩
 ·exact ⟨by simp, by simp⟩
 ·exact ⟨by simp, by simp⟩
theorem runW_all : ∀ (l q : List UInt8), l.all wrdB = true → (∀ b r, q = b :: r → wrdB b = false) → runW (l ++ q) = l.length
 | [], [], _, _ => rfl
 | [], b :: q, _, h => by rw [List.nil_append, runW, h b q rfl]; rfl
 | b :: l, q, h, h2 => by
  rw [List.all_cons, Bool.and_eq_true] at h
  rw [List.cons_append, runW, if_pos h.1, runW_all l q h.2 h2]; rfl
theorem upp_no {b : UInt8} (h : uppB b = true) : isD b = false ∧ b ≠ 34 ∧ b ≠ 32 ∧ b ≠ 61 ∧ b ≠ 62 := by
 unfold uppB at h
 simp only [Bool.or_eq_true, Bool.and_eq_true, decide_eq_true_eq, beq_iff_eq] at h
 refine ⟨?_, ?_, ?_, ?_, ?_⟩
 ·unfold isD
  rcases h with h | h
  ·rw [decide_eq_false (show ¬ b.toNat ≤ 57 by omega)]; simp
  ·rw [h]; rfl
 all_goals (rintro rfl; revert h; decide)
theorem good_wd {b : UInt8} {l : List UInt8} (hb : uppB b = true) (hl : l.all wrdB = true) : goodT (wd (b :: l)) := by
 obtain ⟨h1, h2, h3, _⟩ := upp_no hb
 refine ⟨⟨show 1 ≤ 3 by decide, show 3 ≤ 4 by decide⟩, ⟨b, l, rfl, h3⟩, fun q hq => ?_⟩
 show nextL ((b :: l) ++ q) = some (⟨3, 0, b :: l, 0⟩, l.length + 1)
 have hr : runW (l ++ q) = l.length := runW_all l q hl fun c r e => by
  rcases hq with rfl | ⟨r', rfl⟩
  ·cases e
  ·cases e; decide
 rw [List.cons_append, nextL, if_neg (by rw [h1]; decide), if_neg h2, if_pos hb, hr, List.take_left]
/-- A good token and what may follow. -/
theorem good_first {t : Tk} (h : goodT t) : (t.kind = 4 ∧ t = ⟨4, t.loc, t.text, 0⟩ ∧ t.text ∈ sigs) ∨ (t.kind ≠ 4 ∧ ∃ b l, telT t = b :: l ∧ (isD b = true ∨ b = 34 ∨ uppB b = true)) := by
 obtain ⟨_, ⟨b, l, e, hb⟩, hn⟩ := h
 have h0 := hn [] (.inl rfl)
 rw [List.append_nil, e, nextL] at h0
 by_cases h1 : isD b = true
 ·rw [if_pos h1] at h0
  refine .inr ⟨?_, b, l, e, .inl h1⟩
  split at h0
  ·injection h0 with h0; injection h0 with h0; intro hk
   have := congrArg Tk.kind h0
   have e4 : (t.put 0).kind = t.kind := rfl
   rw [e4, hk] at this; exact absurd this (kne rfl)
  ·cases h0
 rw [if_neg h1] at h0
 by_cases h2 : b = 34
 ·rw [if_pos h2] at h0
  refine .inr ⟨?_, b, l, e, .inr (.inl h2)⟩
  obtain ⟨r, _, h3⟩ := Option.map_eq_some_iff.1 h0
  injection h3 with h3; intro hk
  have := congrArg Tk.kind h3
  have e4 : (t.put 0).kind = t.kind := rfl
  rw [e4, hk] at this; exact absurd this (kne rfl)
 rw [if_neg h2] at h0
 by_cases h3 : uppB b = true
 ·rw [if_pos h3] at h0
  refine .inr ⟨?_, b, l, e, .inr (.inr h3)⟩
  injection h0 with h0; injection h0 with h0; intro hk
  have := congrArg Tk.kind h0
  have e4 : (t.put 0).kind = t.kind := rfl
  rw [e4, hk] at this; exact absurd this (kne rfl)
 rw [if_neg h3] at h0
 obtain ⟨r, hr, h4⟩ := Option.map_eq_some_iff.1 h0
 injection h4 with h4
 obtain ⟨k, loc, text, num⟩ := t
 have e1 : r = text := congrArg Tk.text h4
 have e2 : (4 : Nat) = k := congrArg Tk.kind h4
 have e3 : (0 : Int) = num := congrArg Tk.num h4
 subst e1 e2 e3
 exact .inl ⟨rfl, rfl, (sign_pre hr).2⟩
/-- The text of a tree. -/
def texN (n : Nod) : List UInt8 := texT (tkN n)
theorem sepW_b {b : UInt8} (h : stopB b = true) (r : List UInt8) : sepW (b :: r) := .inr ⟨b, r, rfl, h⟩
theorem op_sig {op : Nat} (h : 1 ≤ op ∧ op ≤ 12) : (sgnO op).1 ∈ sigs ∧ ∃ b l, (sgnO op).1 = b :: l ∧ stopB b = true := by
 have : op = 1 ∨ op = 2 ∨ op = 3 ∨ op = 4 ∨ op = 5 ∨ op = 6 ∨ op = 7 ∨ op = 8 ∨ op = 9 ∨ op = 10 ∨ op = 11 ∨ op = 12 := by omega
 rcases this with rfl | rfl | rfl | rfl | rfl | rfl | rfl | rfl | rfl | rfl | rfl | rfl <;> exact ⟨by decide, _, _, rfl, by decide⟩
theorem isU_wrd {l : List UInt8} (h : l.all isU = true) : l.all wrdB = true := by
 rw [List.all_eq_true] at h ⊢
 intro b hb
 have := h b hb
 unfold isU at this; unfold wrdB uppB
 rw [this]; rfl
theorem isD_wrd {l : List UInt8} (h : l.all isD = true) : l.all wrdB = true := by
 rw [List.all_eq_true] at h ⊢
 intro b hb
 unfold wrdB
 rw [h b hb, Bool.or_true]
theorem good_ref {r : Rf} (h : refM r = true) : goodT (wd (wrdR r)) := by
 unfold refM at h
 simp only [Bool.and_eq_true, decide_eq_true_eq] at h
 obtain ⟨⟨⟨h1, h2⟩, h3⟩, h4⟩ := h
 have hc : r.col.toNat < 702 := by omega
 obtain ⟨l1, _, _⟩ := let_all hc
 obtain ⟨b, l, l4, l5⟩ := let_head _ hc
 have hu : uppB b = true := by unfold isU at l5; unfold uppB; rw [l5]; rfl
 have hw : ∀ c : Bool, (if c = true then [36] else [] : List UInt8).all wrdB = true := by intro c; cases c <;> rfl
 unfold wrdR
 cases r.hc
 ·rw [if_neg (by decide), List.nil_append]
  rw [l4] at l1 ⊢
  rw [List.cons_append]
  rw [List.all_cons, Bool.and_eq_true] at l1
  refine good_wd hu ?_
  rw [List.all_append, List.all_append, isU_wrd l1.2, hw, isD_wrd (dd_all _)]; rfl
 ·show goodT (wd (36 :: (letL r.col.toNat ++ _)))
  refine good_wd (by decide) ?_
  rw [List.all_append, List.all_append, isU_wrd l1, hw, isD_wrd (dd_all _)]; rfl
theorem fn_words : (List.range 78).all (fun i => match (rowP ((i + 1 : Nat) : Int)).1 with | [] => false | b :: l => uppB b && l.all wrdB) = true := by decide
theorem good_fn {f : Int} (h : 1 ≤ f ∧ f ≤ 78) : goodT (wd (rowP f).1) := by
 have := List.all_eq_true.1 fn_words (f.toNat - 1) (by rw [List.mem_range]; omega)
 rw [show ((f.toNat - 1 + 1 : Nat) : Int) = f by omega] at this
 rcases hr : (rowP f).1 with _ | ⟨b, l⟩
 ·rw [hr] at this; cases this
 ·rw [hr] at this
  simp only [Bool.and_eq_true] at this
  exact good_wd this.1 this.2
/-- What a tree begins with. -/
theorem head_ok : ∀ (N : Nat) (n : Nod), n.count ≤ N → n.rightN = true → ∃ u us, tkN n = u :: us ∧ ∃ b l, telT u = b :: l ∧ b ≠ 61 ∧ b ≠ 62
 | 0, .mk _ _ _ _ _ _, hN, _ => by rw [Nod.count] at hN; omega
 | N + 1, n, hN, hr => by
  have of : ∀ t : Tk, goodT t → t.kind ≠ 4 → ∃ b l, telT t = b :: l ∧ b ≠ 61 ∧ b ≠ 62 := by
   intro t hg hk
   rcases good_first hg with ⟨h4, _⟩ | ⟨_, b, l, e, hc⟩
   ·exact absurd h4 hk
   ·refine ⟨b, l, e, ?_⟩
    rcases hc with hc | rfl | hc
    ·constructor <;> (rintro rfl; cases hc)
    ·exact ⟨by decide, by decide⟩
    ·exact ⟨(upp_no hc).2.2.2.1, (upp_no hc).2.2.2.2⟩
  have h := rgt hr
  cases h with
  | num x h => exact ⟨_, _, rfl, of _ (good_num (show -9223372036854775808 < x ∧ x ≤ 9223372036854775807 by omega) h.1) (show ¬ (1 = 4) by decide)⟩
  | str x h hp => exact ⟨_, _, rfl, of _ (good_str hp) (show ¬ (2 = 4) by decide)⟩
  | tru x h =>
   rcases h with rfl | rfl
   ·exact ⟨wd wordF, [], rfl, _, _, rfl, by decide, by decide⟩
   ·exact ⟨wd wordL, [], rfl, _, _, rfl, by decide, by decide⟩
  | lost => exact ⟨_, _, rfl, _, _, rfl, by decide, by decide⟩
  | one q h => exact ⟨_, _, rfl, of _ (good_ref h) (show ¬ (3 = 4) by decide)⟩
  | range q p h h2 => exact ⟨_, _, rfl, of _ (good_ref h) (show ¬ (3 = 4) by decide)⟩
  | neg m hm hmk => exact ⟨_, _, rfl, _, _, rfl, by decide, by decide⟩
  | bin op ho m m' hm hm' hmk =>
   have hc : (binN op m m').count = m.count + (m'.count + 0) + 1 := rfl
   obtain ⟨u, us, e, h2⟩ := head_wth (k := (sgnO op).2) (P := fun u => ∃ b l, telT u = b :: l ∧ b ≠ 61 ∧ b ≠ 62) ⟨_, _, rfl, by decide, by decide⟩ (head_ok N m (by omega) hm)
   exact ⟨u, _, by rw [tk_bin, e]; rfl, h2⟩
  | call f l hf hl hkl => exact ⟨_, _, rfl, of _ (good_fn (fits_rng hf)) (show ¬ (3 = 4) by decide)⟩
theorem head_q {u : Tk} {us r : List Tk} {q : List UInt8} (e : r = u :: us) (h : ∃ b l, telT u = b :: l ∧ b ≠ 61 ∧ b ≠ 62) : (texT r ++ q).head? ≠ some 61 ∧ (texT r ++ q).head? ≠ some 62 := by
 obtain ⟨b, l, e2, h1, h2⟩ := h
 rw [e, texT_cons, e2]
 exact ⟨fun hh => h1 (Option.some.inj hh), fun hh => h2 (Option.some.inj hh)⟩
theorem fol_sg {x q : List UInt8} (h : x ≠ [60] ∧ x ≠ [62]) : folT (sgt x) q := by
 unfold folT; rw [if_pos (show (sgt x).kind = 4 from rfl)]
 rintro (hh | hh)
 ·exact absurd hh h.1
 ·exact absurd hh h.2
theorem fol_sg2 {x q : List UInt8} (h : q.head? ≠ some 61 ∧ q.head? ≠ some 62) : folT (sgt x) q := by
 unfold folT; rw [if_pos (show (sgt x).kind = 4 from rfl)]
 exact fun _ => h
theorem fol_no {t : Tk} {q : List UInt8} (hk : t.kind ≠ 4) (h : sepW q) : folT t q := by
 unfold folT; rw [if_neg hk]; exact h
theorem ok_wth {k : Nat} {n : Nod} (h : ∀ q, sepW q → okL (tkN n) q) {q : List UInt8} (hq : sepW q) : okL (wth k n) q := by
 unfold wth wthC
 split
 ·exact h q hq
 ·refine ⟨⟨good_sg (by decide), fol_sg ⟨by decide, by decide⟩⟩, okL_app _ _ _ (h _ ?_) ⟨⟨good_sg (by decide), fol_sg ⟨by decide, by decide⟩⟩, trivial⟩⟩
  exact sepW_b (by decide) _
theorem ok_com {q : List UInt8} (hq : sepW q) : ∀ l : List Nod, (∀ n ∈ l, ∀ q, sepW q → okL (tkN n) q) → okL (comC (tkNs l)) q
 | [], _ => trivial
 | [n], h => h n (List.mem_cons_self ..) q hq
 | n :: m :: l, h => by
  show okL (tkN n ++ sgt [44] :: comC (tkNs (m :: l))) q
  refine okL_app _ _ _ (h n (List.mem_cons_self ..) _ (sepW_b (by decide) _)) ⟨⟨good_sg (by decide), fol_sg ⟨by decide, by decide⟩⟩, ?_⟩
  exact ok_com hq (m :: l) fun x hx => h x (List.mem_cons_of_mem _ hx)
theorem ok_tk : ∀ (N : Nat) (n : Nod), n.count ≤ N → n.rightN = true → ∀ q, sepW q → okL (tkN n) q
 | 0, .mk _ _ _ _ _ _, hN, _, _, _ => by rw [Nod.count] at hN; omega
 | N + 1, n, hN, hr, q, hq => by
  have one : ∀ t : Tk, goodT t → t.kind ≠ 4 → okL [t] q := fun t hg hk => ⟨⟨hg, fol_no hk hq⟩, trivial⟩
  have h := rgt hr
  cases h with
  | num x h => exact one _ (good_num (show -9223372036854775808 < x ∧ x ≤ 9223372036854775807 by omega) h.1) (show ¬ (1 = 4) by decide)
  | str x h hp => exact one _ (good_str hp) (show ¬ (2 = 4) by decide)
  | tru x h =>
   rcases h with rfl | rfl
   ·exact one (wd wordF) (good_wd (by decide) (by decide)) (show ¬ (3 = 4) by decide)
   ·exact one (wd wordL) (good_wd (by decide) (by decide)) (show ¬ (3 = 4) by decide)
  | lost => exact ⟨⟨good_sg (by decide), fol_sg ⟨by decide, by decide⟩⟩, trivial⟩
  | one r h => exact one _ (good_ref h) (show ¬ (3 = 4) by decide)
  | range a b h h2 =>
   refine ⟨⟨good_ref h, fol_no (show ¬ (3 = 4) by decide) (sepW_b (by decide) _)⟩, ⟨good_sg (by decide), fol_sg ⟨by decide, by decide⟩⟩, ⟨good_ref h2, fol_no (show ¬ (3 = 4) by decide) hq⟩, trivial⟩
  | neg m hm hmk =>
   have hc : (negN m).count = m.count + 0 + 1 := rfl
   exact ⟨⟨good_sg (by decide), fol_sg ⟨by decide, by decide⟩⟩, ok_wth (ok_tk N m (by omega) hm) hq⟩
  | bin op ho m m' hm hm' hmk =>
   have hc : (binN op m m').count = m.count + (m'.count + 0) + 1 := rfl
   obtain ⟨hs, b, l, eb, hb⟩ := op_sig ho
   rw [tk_bin]
   refine okL_app _ _ _ (ok_wth (ok_tk N m (by omega) hm) ?_) ⟨⟨good_sg hs, fol_sg2 ?_⟩, ok_wth (ok_tk N m' (by omega) hm') hq⟩
   ·show sepW (((sgnO op).1 ++ _) ++ q)
    rw [eb]
    exact sepW_b hb _
   ·obtain ⟨u, us, e, h2⟩ := head_wth (k := (sgnO op).2 + 1) (P := fun u => ∃ b l, telT u = b :: l ∧ b ≠ 61 ∧ b ≠ 62) ⟨_, _, rfl, by decide, by decide⟩ (head_ok _ m' (Nat.le_refl _) hm')
    exact head_q e h2
  | call f l hf hl hkl =>
   have hc : (callN f l).count = counts l + 1 := rfl
   rw [tk_call]
   refine ⟨⟨good_fn (fits_rng hf), fol_no (show ¬ (3 = 4) by decide) (sepW_b (by decide) _)⟩, ⟨good_sg (by decide), fol_sg ⟨by decide, by decide⟩⟩, ?_⟩
   refine okL_app _ _ _ (ok_com (sepW_b (by decide) _) l fun x hx q hq => ?_) ⟨⟨good_sg (by decide), fol_sg ⟨by decide, by decide⟩⟩, trivial⟩
   have := count_mem hx
   exact ok_tk N x (by omega) (rights_mem hl hx) q hq
end Go.Den
/- What is parsed is told in no more bytes: the plain part. -/
set_option linter.unusedVariables false
set_option linter.unusedSimpArgs false
namespace Go.Den
open Go Go.Proofs
theorem cut_total : ∀ l : List UInt8, l.length = (cutL l).1.length + ((cutL l).2.1.length + if (cutL l).2.2 = true then 1 else 0)
 | [] => rfl
 | b :: l => by
  have := cut_total l
  rw [cutL]
  by_cases h : b = 46
  ·rw [if_pos h]; simp
  ·rw [if_neg h]
   simp only [List.length_cons]
   omega
theorem frac_len2 : ∀ (k d r : Nat), k ≤ 4 → r < 10000 → r % 10 ^ (4 - k) = 0 → (fracL d r).length ≤ k
 | k, 0, r, _, _, _ => Nat.zero_le _
 | 0, d + 1, r, _, h, hz => by
  have : r = 0 := by simp at hz; omega
  rw [fracL, if_pos this]; exact Nat.le_refl _
 | k + 1, d + 1, r, hk, h, hz => by
  rw [fracL]
  split
  ·exact Nat.zero_le _
  ·have := frac_len2 k d (r % 1000 * 10) (by omega) (by omega) (by
    have hd' : k = 0 ∨ k = 1 ∨ k = 2 ∨ k = 3 := by omega
    rcases hd' with rfl | rfl | rfl | rfl <;> simp at hz ⊢ <;> omega)
   rw [List.length_cons]; omega
theorem num_len {w : List UInt8} (hm : minusL w = false) (h : (readL w).2 = true) : (texS (readL w).1).length ≤ w.length := by
 have hok := read_ok.2 h
 have hb : bodyL w = w := by
  unfold minusL at hm
  unfold bodyL Lib.trimPrefix
  rw [hm]; rfl
 unfold readL at h hok ⊢
 rw [hb] at h hok ⊢
 by_cases hc : w.length ≤ 40 ∧ rightL (cutL w)
 ·rw [if_pos hc] at hok ⊢
  rw [hm, if_neg (by decide)] at hok ⊢
  dsimp only at hok ⊢
  obtain ⟨_, h1, h2, h3, h4⟩ := hc
  have ht := cut_total w
  have hz := (cut_len w).2.2
  unfold texS
  rw [if_pos hok, tex_str, if_neg (by omega), List.nil_append]
  unfold totL
  generalize hC : cutL w = C at *
  obtain ⟨a, z, p⟩ := C
  dsimp only at *
  have ea : valL a 0 + 1 ≤ (0 + 1) * 10 ^ a.length := val_lt a 0 h2
  have hzl : z.length ≤ 4 ∧ z.all isD = true := by
   cases p with
   | true => exact ⟨(h3 rfl).2.2, (h3 rfl).2.1⟩
   | false => rw [hz rfl]; exact ⟨by simp, rfl⟩
  have ez : valL z 0 + 1 ≤ (0 + 1) * 10 ^ z.length := val_lt z 0 hzl.2
  have hlt : valL z 0 * 10 ^ (4 - z.length) < 10000 := by
   have h5 : valL z 0 * 10 ^ (4 - z.length) < 10 ^ z.length * 10 ^ (4 - z.length) := Nat.mul_lt_mul_of_pos_right (by omega) (Nat.pow_pos (by decide))
   rw [← Nat.pow_add, show z.length + (4 - z.length) = 4 by omega] at h5
   exact h5
  have hmod : valL z 0 * 10 ^ (4 - z.length) % 10 ^ (4 - z.length) = 0 := Nat.mul_mod_left _ _
  generalize valL z 0 * 10 ^ (4 - z.length) = y at *
  have e1 : ((valL a 0 * 10000 + y : Nat) : Int).natAbs / 10000 = valL a 0 := by omega
  have e2 : ((valL a 0 * 10000 + y : Nat) : Int).natAbs % 10000 = y := by omega
  rw [e1, e2]
  have ha : 1 ≤ a.length := by
   rcases a with _ | ⟨b, a⟩
   ·exact absurd rfl h1
   ·simp
  have l1 := dd_len (a.length - 1) (valL a 0) (by rw [show a.length - 1 + 1 = a.length by omega]; omega)
  have l2 := frac_len2 z.length 4 y hzl.1 hlt hmod
  unfold strD
  rw [List.length_append]
  by_cases hf : fracL 4 y = []
  ·rw [if_pos hf]; simp only [List.length_nil]; omega
  ·rw [if_neg hf]
   have : p = true := by
    cases p with
    | true => rfl
    | false =>
     have := hz rfl
     subst this
     exact absurd (List.eq_nil_of_length_eq_zero (by simpa using l2)) hf
   subst this
   rw [if_pos rfl] at ht
   simp only [List.length_cons]
   omega
 ·rw [if_neg hc] at h; cases h
theorem dbl_str : ∀ (l : List UInt8) (r : List UInt8 × Nat), strL l = some r → (dblL r.1).length + 1 = r.2
 | [], r, h => by rw [strL] at h; cases h
 | [b], r, h => by
  rw [strL] at h
  split at h
  ·cases h
  ·split at h
   ·cases h; rfl
   ·cases h
 | b :: c :: l, r, h => by
  rw [strL] at h
  split at h
  ·cases h
  ·split at h
   ·split at h
    ·obtain ⟨r', h1, rfl⟩ := Option.map_eq_some_iff.1 h
     have := dbl_str l r' h1
     show (dblL (34 :: r'.1)).length + 1 = r'.2 + 2
     rw [dblL, if_pos rfl]
     simp only [List.length_cons]; omega
    ·cases h; rfl
   ·rename_i hb
    obtain ⟨r', h1, rfl⟩ := Option.map_eq_some_iff.1 h
    have := dbl_str (c :: l) r' h1
    show (dblL (b :: r'.1)).length + 1 = r'.2 + 1
    rw [dblL, if_neg hb]
    simp only [List.length_cons]; omega
theorem tel_le {s : List UInt8} {t : Tk} {n : Nat} (h : nextL s = some (t, n)) : (telT t).length ≤ n := by
 rcases s with _ | ⟨b, l⟩
 ·cases h
 have hle := next_le h
 rw [nextL] at h
 by_cases h1 : isD b = true
 ·rw [if_pos h1] at h
  by_cases h2 : (leadL (b :: l)).2.2 = true
  ·rw [if_pos h2] at h
   have e : t = ⟨1, 0, [], (leadL (b :: l)).1⟩ := by injection h with h; injection h with h; exact h.symm
   have e2 : n = leadn (b :: l) := by injection h with h; injection h with h h3; exact h3.symm
   subst e e2
   have hln := leadn_le (b :: l)
   have hlp := leadn_pos (l := l) h1
   unfold leadL at h2 ⊢
   by_cases h3 : (readL ((b :: l).take (leadn (b :: l)))).2 = true
   ·rw [if_pos h3]
    show (texS (readL ((b :: l).take (leadn (b :: l)))).1).length ≤ _
    refine Nat.le_trans (num_len ?_ h3) (by rw [List.length_take]; omega)
    obtain ⟨m, hm⟩ : ∃ m, leadn (b :: l) = m + 1 := ⟨leadn (b :: l) - 1, by omega⟩
    rw [hm, List.take_succ_cons]
    rw [(minus_eq b _).1]
    have := isD_rng h1
    rw [beq_eq_false_iff_ne]
    omega
   ·rw [if_neg h3] at h2; cases h2
  ·rw [if_neg h2] at h; cases h
 ·rw [if_neg h1] at h
  by_cases h2 : b = 34
  ·rw [if_pos h2] at h
   obtain ⟨r, h3, h4⟩ := Option.map_eq_some_iff.1 h
   cases h4
   have := dbl_str l r h3
   show (quoL r.1).length ≤ _
   unfold quoL
   simp only [List.length_cons, List.length_append, List.length_nil]; omega
  ·rw [if_neg h2] at h
   by_cases h3 : uppB b = true
   ·rw [if_pos h3] at h
    cases h
    show (b :: l.take (runW l)).length ≤ _
    rw [List.length_cons, List.length_take]; omega
   ·rw [if_neg h3] at h
    obtain ⟨r, h4, h5⟩ := Option.map_eq_some_iff.1 h
    cases h5
    exact Nat.le_refl _
/-- The tokens' texts are no longer than the text. -/
theorem lex_src : ∀ (N a : Nat) (s : List UInt8) (l : List Tk), s.length ≤ N → lexL a s = .inr l → (texT l).length ≤ s.length
 | _, a, [], l, _, h => by
  rw [lexL_nil] at h
  cases h
  exact Nat.le_refl _
 | 0, a, b :: s, l, hl, _ => by simp at hl
 | N + 1, a, b :: s, l, hl, h => by
  by_cases hb : b = 32
  ·subst hb
   rw [lexL_blank] at h
   have := lex_src N (a + 1) s l (by simp at hl; omega) h
   rw [List.length_cons]; omega
  ·cases hn : nextL (b :: s) with
   | none => rw [lexL_bad hb hn] at h; cases h
   | some r =>
    obtain ⟨t, n⟩ := r
    obtain ⟨n0, n1⟩ := next_le hn
    rw [lexL_tok hb hn] at h
    have hlen : ((b :: s).drop n).length = (b :: s).length - n := List.length_drop
    cases hr : lexL (a + n) ((b :: s).drop n) with
    | inl e => rw [hr] at h; cases h
    | inr l' =>
     rw [hr] at h
     cases h
     have := lex_src N (a + n) _ l' (by rw [hlen]; omega) hr
     have h2 := tel_le hn
     rw [texT_cons, List.length_append]
     show (telT t).length + _ ≤ _
     omega
/-- References and names are no longer. -/
theorem colN_one (b : UInt8) (h : isU b = true) : colN [b] = b.toNat - 65 + 1 := by show 0 * 26 + (b.toNat - 65) + 1 = _; omega
theorem cutD_len (t : List UInt8) : t.length = (cutD t).1.length + (if (cutD t).2 = true then 1 else 0) := by
 rcases t with _ | ⟨b, l⟩
 ·rfl
 ·unfold cutD
  dsimp only
  split <;> simp
theorem ref_len {w : List UInt8} {r : Rf} (h : refP w = some r) : (wrdR r).length ≤ w.length := by
 unfold refP at h
 dsimp only at h
 have e1 := cutD_len w
 generalize hu : (cutD w).1 = u at *
 have e2 := cutD_len (u.drop (runU u))
 have e3 : u.length = (u.take (runU u)).length + (u.drop (runU u)).length := by rw [← List.length_append, List.take_append_drop]
 generalize u.take (runU u) = c at *
 generalize u.drop (runU u) = d at *
 split at h
 ·rename_i cc rr hc hr
  cases h
  unfold colL at hc
  split at hc
  ·rename_i h1
   cases hc
   unfold rowL at hr
   split at hr
   ·rename_i h2
    cases hr
    have l1 : (letL ((colN c : Int) - 1).toNat).length ≤ c.length := by
     unfold letL
     by_cases h26 : ((colN c : Int) - 1).toNat < 26
     ·rw [if_pos h26]; simpa using h1.1.1
     ·rw [if_neg h26]
      rcases c with _ | ⟨x, _ | ⟨y, c⟩⟩
      ·simp at h1
      ·exfalso
       have hx : isU x = true := by have := h1.2; rw [List.all_cons, Bool.and_eq_true] at this; exact this.1
       rw [colN_one x hx] at h26
       unfold isU at hx
       simp only [Bool.and_eq_true, decide_eq_true_eq] at hx
       omega
      ·simp
    have l2 : (Lib.decDigits (((rowN (cutD d).1 : Int) - 1).toNat + 1)).length ≤ (cutD d).1.length := by
     have h3 : valL (cutD d).1 0 + 1 ≤ (0 + 1) * 10 ^ (cutD d).1.length := val_lt _ 0 h2.2.2
     have h4 : rowN (cutD d).1 = valL (cutD d).1 0 := rowN_val _ 0
     have h5 : 10 ^ 1 ≤ 10 ^ (cutD d).1.length := Nat.pow_le_pow_right (by decide) h2.1.1
     have := dd_len ((cutD d).1.length - 1) (((rowN (cutD d).1 : Int) - 1).toNat + 1) (by rw [show (cutD d).1.length - 1 + 1 = (cutD d).1.length by omega]; omega)
     omega
    unfold wrdR
    dsimp only
    rw [List.length_append, List.length_append, List.length_append]
    have i1 : ∀ b : Bool, (if b = true then [36] else [] : List UInt8).length = if b = true then 1 else 0 := by intro b; cases b <;> rfl
    rw [i1, i1]
    omega
   ·cases hr
  ·cases hc
 ·cases h
theorem find_cases : ∀ (l : List (List UInt8 × List UInt8)) (k : Nat) (w : List UInt8), findF l k w = 0 ∨ ∃ i, ∃ h : i < l.length, findF l k w = k + i ∧ (l[i]).1 = w
 | [], k, w => .inl rfl
 | r :: l, k, w => by
  rw [findF]
  by_cases h : r.1 = w
  ·rw [if_pos h]; exact .inr ⟨0, by simp, rfl, h⟩
  ·rw [if_neg h]
   rcases find_cases l (k + 1) w with h2 | ⟨i, h2, h3, h4⟩
   ·exact .inl h2
   ·exact .inr ⟨i + 1, by simp; omega, by omega, by simpa using h4⟩
theorem fnRows_len : fnRows.length = 78 := by decide
theorem fn_name (w : List UInt8) : fnumP w = 0 ∨ (1 ≤ fnumP w ∧ fnumP w ≤ 78 ∧ (rowP (fnumP w)).1 = w) := by
 unfold fnumP
 rcases find_cases fnRows 1 w with h | ⟨i, h1, h2, h3⟩
 ·rw [h]; exact .inl rfl
 ·rw [h2]
  have hl := fnRows_len
  refine .inr ⟨by omega, by omega, ?_⟩
  unfold rowP
  rw [if_pos (by omega), show ((1 + i : Nat) : Int).toNat - 1 = i by omega]
  rw [List.getD_eq_getElem?_getD, List.getElem?_eq_getElem h1]
  exact h3
theorem name_len (w : List UInt8) : (rowP (fnumP w)).1.length ≤ w.length := by
 rcases fn_name w with h | ⟨_, _, h⟩
 ·rw [h]; exact Nat.zero_le _
 ·rw [h]; exact Nat.le_refl _
/-- Lengths. -/
def lenK (k : Nat) (n : Nod) : Nat := (texT (wth k n)).length
def sl (us : List Tk) : Nat := (texT us).length
theorem sl_cons (t : Tk) (us : List Tk) : sl (t :: us) = (telT t).length + sl us := by unfold sl; rw [texT_cons, List.length_append]
theorem sl_app (us vs : List Tk) : sl (us ++ vs) = sl us + sl vs := by unfold sl; rw [texT_app, List.length_append]
theorem lenK_mono {k k' : Nat} (h : k ≤ k') (n : Nod) : lenK k n ≤ lenK k' n := by
 unfold lenK wth wthC
 by_cases h1 : k' ≤ bindsN n
 ·rw [if_pos h1, if_pos (by omega)]; exact Nat.le_refl _
 ·rw [if_neg h1]
  split
  ·rw [texT_cons, texT_app, List.length_append, List.length_append]; omega
  ·exact Nat.le_refl _
theorem sgnO_pos (op : Int) : 1 ≤ (sgnO op).2 ∧ (sgnO op).2 ≤ 5 := by
 unfold sgnO
 repeat' split
 all_goals exact ⟨by decide, by decide⟩
theorem binds_pos (n : Nod) : 1 ≤ bindsN n := by
 unfold bindsN
 split
 ·exact (sgnO_pos _).1
 ·decide
theorem len_1 (n : Nod) : lenK 1 n = (texN n).length := by unfold lenK; rw [wth_le (binds_pos n)]; rfl
theorem len_le {k : Nat} {n : Nod} (h : k ≤ bindsN n) : lenK k n = (texN n).length := by unfold lenK; rw [wth_le h]; rfl
theorem len_brk (n : Nod) (k : Nat) : lenK k n ≤ (texN n).length + 2 := by
 unfold lenK wth wthC
 split
 ·show (texT (tkN n)).length ≤ (texT (tkN n)).length + 2; omega
 ·rw [texT_cons, texT_app, List.length_append, List.length_append]
  show 1 + ((texT (tkN n)).length + 1) ≤ (texT (tkN n)).length + 2
  omega
theorem lvls_op {k : Nat} {x : List UInt8} (h : lvls k x ≠ 0) : sgnO (lvls k x : Nat) = (x, k) := by
 unfold lvls at h ⊢
 split
 ·repeat' (split; · rename_i e; rw [e]; rfl)
  exfalso; revert h; simp only []; repeat' (split; · contradiction)
  simp
 ·split
  ·rename_i e; rw [e]; rfl
  ·exfalso; revert h; simp only []; split <;> simp_all
 ·split
  ·rename_i e; rw [e]; rfl
  ·split
   ·rename_i e; rw [e]; rfl
   ·exfalso; revert h; simp only []; simp_all
 ·split
  ·rename_i e; rw [e]; rfl
  ·split
   ·rename_i e; rw [e]; rfl
   ·exfalso; revert h; simp only []; simp_all
 ·split
  ·rename_i e; rw [e]; rfl
  ·exfalso; revert h; simp only []; simp_all
 ·exfalso; simp_all
theorem tel_4 {t : Tk} (h : t.kind = 4) : telT t = t.text := by unfold telT; rw [h]; rfl
theorem tel_3 {t : Tk} (h : t.kind = 3) : telT t = t.text := by unfold telT; rw [h]; rfl
theorem sl_sg {x : List UInt8} {ts : List Tk} (h : sgT x ts = true) : sl ts = x.length + sl ts.tail := by
 obtain ⟨t, r, rfl, h1, h2⟩ := sgT_cons h
 rw [sl_cons, tel_4 h1, h2]; rfl
def argL : List Nod → Nat
 | [] => 0
 | n :: l => (texN n).length + 1 + argL l
theorem argL_app (l : List Nod) (n : Nod) : argL (l ++ [n]) = argL l + (texN n).length + 1 := by
 induction l with
 | nil => show _ + 1 + 0 = 0 + _ + 1; omega
 | cons m l ih => show _ + 1 + argL (l ++ [n]) = _ + 1 + argL l + _ + 1; omega
theorem com_len : ∀ l : List Nod, l ≠ [] → sl (comC (tkNs l)) + 1 = argL l
 | [], h => absurd rfl h
 | [n], _ => rfl
 | n :: m :: l, _ => by
  have := com_len (m :: l) (by simp)
  show sl (tkN n ++ sgt [44] :: comC (tkNs (m :: l))) + 1 = (texN n).length + 1 + argL (m :: l)
  rw [sl_app, sl_cons]
  show (texN n).length + (1 + sl (comC (tkNs (m :: l)))) + 1 = _
  omega
def bnd (g : Go1) (ts : List Tk) (n : Nod) (r : List Tk) : Prop := match g with
 | .B k => k ≤ 6 → lenK k n + sl r ≤ sl ts
 | .L k m => lenK k n + sl r ≤ lenK k m + sl ts
 | .S => lenK 6 n + sl r ≤ sl ts
 | .A => lenK 6 n + sl r ≤ sl ts
 | .W w => lenK 6 n + sl r ≤ w.length + sl ts
 | .R f l => lenK 6 n + sl r ≤ (rowP f).1.length + 1 + argL l + sl ts
 | .G => (texN n).length + sl r ≤ sl ts
theorem len6_no {n : Nod} (h : n.kind ≠ 6) : lenK 6 n = (texN n).length := len_le (by rw [binds_no h]; omega)
theorem rng_len {ts : List Tk} {n : Nod} {r : List Tk} (h : rngP ts = some (some (n, r))) : (texN n).length + sl r ≤ sl ts := by
 unfold rngP at h
 split at h
 ·cases h
 ·rename_i t r0
  split at h
  ·cases h
  ·rename_i a ha
   split at h
   ·rename_i hs
    have h := Option.some.inj h
    split at h
    ·cases h
    ·rename_i u r1 hu
     split at h
     ·rename_i hk
      obtain ⟨b, hb, e⟩ := Option.map_eq_some_iff.1 h
      cases e
      have hk3 : t.kind = 3 := by
       apply Classical.byContradiction; intro h3; rw [if_neg h3] at ha; cases ha
      rw [if_pos hk3] at ha
      rw [sl_cons, tel_3 hk3, sl_sg hs, hu, sl_cons, tel_3 hk]
      have := ref_len ha
      have := ref_len hb
      show (texT [wd (wrdR a), sgt [58], wd (wrdR b)]).length + sl r ≤ t.text.length + (1 + (u.text.length + sl r))
      have e2 : (texT [wd (wrdR a), sgt [58], wd (wrdR b)]).length = (wrdR a).length + (1 + (wrdR b).length) := by
       show ((wrdR a) ++ ([58] ++ ((wrdR b) ++ []))).length = _
       simp only [List.length_append, List.length_cons, List.length_nil]; omega
      omega
     ·cases h
   ·cases h
theorem pX_len : ∀ (F : Nat) (g : Go1) (ts : List Tk) (n : Nod) (r : List Tk), pX fnumP F g ts = some (n, r) → bnd g ts n r
 | 0, g, ts, n, r, h => by unfold pX at h; cases h
 | F + 1, .B level, ts, n, r, h => by
  have IH := pX_len F
  rw [pX] at h
  intro hl
  split at h
  ·rw [show level = 6 by omega]; exact IH _ _ _ _ h
  ·split at h
   ·cases h
   ·rename_i m r' h'
    have h1 := IH _ _ _ _ h' (by omega)
    have h2 : lenK level n + sl r ≤ lenK level m + sl r' := IH _ _ _ _ h
    have h3 := lenK_mono (show level ≤ level + 1 by omega) m
    omega
 | F + 1, .L level m, ts, n, r, h => by
  have IH := pX_len F
  rw [pX.eq_def] at h
  dsimp only at h
  split at h
  ·cases h
  ·rename_i t r0
   split at h
   ·rename_i ht
    split at h
    ·cases h
    ·rename_i m' r' h'
     have hop := lvls_op ht.2
     have hl5 : level ≤ 5 := by have := (sgnO_pos (lvls level t.text : Nat)).2; rw [hop] at this; exact this
     have h1 := IH _ _ _ _ h' (by omega)
     have h2 : lenK level n + sl r ≤ lenK level (binN (lvls level t.text) m m') + sl r' := IH _ _ _ _ h
     have h3 : lenK level (binN (lvls level t.text) m m') = lenK level m + (t.text.length + lenK (level + 1) m') := by
      rw [len_le (by rw [binds_bin, hop]; exact Nat.le_refl _)]
      unfold texN
      rw [tk_bin, hop]
      unfold lenK
      rw [texT_app, texT_cons, List.length_append, List.length_append]; rfl
     show lenK level n + sl r ≤ lenK level m + sl (t :: r0)
     rw [sl_cons, tel_4 ht.1]
     omega
   ·cases h; exact Nat.le_refl _
 | F + 1, .S, ts, n, r, h => by
  have IH := pX_len F
  rw [pX] at h
  split at h
  ·rename_i hs
   obtain ⟨x, h', e⟩ := Option.map_eq_some_iff.1 h
   obtain ⟨x1, x2⟩ := x
   cases e
   have h1 : lenK 6 x1 + sl x2 ≤ sl ts.tail := IH _ _ _ _ h'
   show lenK 6 (negN x1) + sl x2 ≤ sl ts
   rw [sl_sg hs, len6_no (n := negN x1) (show (5 : Int) ≠ 6 by decide)]
   show (texT (sgt [45] :: wth 6 x1)).length + sl x2 ≤ 1 + sl ts.tail
   rw [texT_cons, List.length_append]
   show 1 + lenK 6 x1 + sl x2 ≤ _
   omega
  ·have h1 : lenK 6 n + sl r ≤ sl ts := IH .A _ _ _ h
   exact h1
 | F + 1, .A, ts, n, r, h => by
  have IH := pX_len F
  rw [pX.eq_def] at h
  dsimp only at h
  split at h
  ·cases h
  ·rename_i t r0
   split at h
   ·rename_i hk
    cases h
    show lenK 6 (litN ⟨1, t.num, ⟨#[]⟩⟩) + sl r ≤ _
    rw [len6_no (n := litN ⟨1, t.num, ⟨#[]⟩⟩) (show (1 : Int) ≠ 6 by decide), sl_cons]
    have e : telT t = texS t.num := by unfold telT; rw [if_pos hk]
    rw [e]
    have : texN (litN ⟨1, t.num, ⟨#[]⟩⟩) = texS t.num ++ [] := rfl
    rw [this, List.append_nil]; exact Nat.le_refl _
   split at h
   ·rename_i hk1 hk
    cases h
    show lenK 6 (litN ⟨2, 0, ⟨t.text.toArray⟩⟩) + sl r ≤ _
    rw [len6_no (n := litN ⟨2, 0, ⟨t.text.toArray⟩⟩) (show (1 : Int) ≠ 6 by decide), sl_cons]
    have e : telT t = quoL t.text := by unfold telT; rw [if_neg hk1, if_pos hk]
    rw [e]
    have : texN (litN ⟨2, 0, ⟨t.text.toArray⟩⟩) = quoL t.text ++ [] := rfl
    rw [this, List.append_nil]; exact Nat.le_refl _
   split at h
   ·rename_i hk
    have h1 : lenK 6 n + sl r ≤ t.text.length + sl r0 := IH _ _ _ _ h
    show _ ≤ sl (t :: r0)
    rw [sl_cons, tel_3 hk]; exact h1
   split at h
   ·rename_i hs
    cases h
    show lenK 6 lostN + sl r ≤ _
    rw [sl_sg hs, List.tail_cons]; exact Nat.le_refl _
   split at h
   ·rename_i hs
    split at h
    ·cases h
    ·rename_i m u h'
     split at h
     ·rename_i hs2
      cases h
      have h1 : lenK 1 n + sl u ≤ sl r0 := IH _ _ _ _ h' (by decide)
      show lenK 6 n + sl u.tail ≤ _
      rw [sl_sg hs, List.tail_cons]
      have h2 := sl_sg hs2
      have h3 := len_brk n 6
      rw [len_1] at h1
      simp only [List.length_cons, List.length_nil] at h2 ⊢
      omega
     ·cases h
   ·cases h
 | F + 1, .W w, ts, n, r, h => by
  have IH := pX_len F
  rw [pX] at h
  split at h
  ·rename_i hs
   split at h
   ·rename_i hs2
    cases h
    show lenK 6 (callN (fnumP w) []) + sl ts.tail.tail ≤ w.length + sl ts
    rw [sl_sg hs, sl_sg hs2, len6_no (n := callN (fnumP w) []) (show (7 : Int) ≠ 6 by decide)]
    have := name_len w
    have e : texN (callN (fnumP w) []) = (rowP (fnumP w)).1 ++ ([40] ++ ([41] ++ [])) := rfl
    rw [e]
    simp only [List.length_append, List.length_cons, List.length_nil]
    omega
   ·have h1 : lenK 6 n + sl r ≤ (rowP (fnumP w)).1.length + 1 + argL [] + sl ts.tail := IH _ _ _ _ h
    have := name_len w
    show _ ≤ w.length + sl ts
    rw [sl_sg hs]
    have e0 : argL [] = 0 := rfl
    simp only [List.length_cons, List.length_nil]
    omega
  split at h
  ·rename_i hw
   cases h
   show lenK 6 (litN ⟨3, 1, ⟨#[]⟩⟩) + sl ts ≤ w.length + sl ts
   rw [len6_no (n := litN ⟨3, 1, ⟨#[]⟩⟩) (show (1 : Int) ≠ 6 by decide), hw]; exact Nat.le_refl _
  split at h
  ·rename_i _ hw
   cases h
   show lenK 6 (litN ⟨3, 0, ⟨#[]⟩⟩) + sl ts ≤ w.length + sl ts
   rw [len6_no (n := litN ⟨3, 0, ⟨#[]⟩⟩) (show (1 : Int) ≠ 6 by decide), hw]; exact Nat.le_refl _
  obtain ⟨x, hx, e⟩ := Option.map_eq_some_iff.1 h
  cases e
  show lenK 6 (oneN x) + sl ts ≤ w.length + sl ts
  rw [len6_no (n := oneN x) (show (3 : Int) ≠ 6 by decide)]
  have e : texN (oneN x) = wrdR x ++ [] := rfl
  rw [e, List.append_nil]
  have := ref_len hx
  omega
 | F + 1, .R f l, ts, n, r, h => by
  have IH := pX_len F
  rw [pX] at h
  split at h
  ·cases h
  ·rename_i m u h'
   have h1 : (texN m).length + sl u ≤ sl ts := IH _ _ _ _ h'
   split at h
   ·rename_i hs
    cases h
    show lenK 6 (callN f (l ++ [m])) + sl u.tail ≤ (rowP f).1.length + 1 + argL l + sl ts
    rw [len6_no (n := callN f (l ++ [m])) (show (7 : Int) ≠ 6 by decide)]
    have h2 := sl_sg hs
    have h3 := com_len (l ++ [m]) (by simp)
    rw [argL_app] at h3
    unfold texN
    rw [tk_call, texT_cons, texT_cons, texT_app]
    show ((rowP f).1 ++ ([40] ++ (_ ++ ([41] ++ [])))).length + _ ≤ _
    have e : (texT (comC (tkNs (l ++ [m])))).length = sl (comC (tkNs (l ++ [m]))) := rfl
    simp only [List.length_append, List.length_cons, List.length_nil] at h2 ⊢
    rw [e]
    omega
   split at h
   ·rename_i _ hs
    have h2 : lenK 6 n + sl r ≤ (rowP f).1.length + 1 + argL (l ++ [m]) + sl u.tail := IH _ _ _ _ h
    rw [argL_app] at h2
    have h3 := sl_sg hs
    show lenK 6 n + sl r ≤ (rowP f).1.length + 1 + argL l + sl ts
    simp only [List.length_cons, List.length_nil] at h3
    omega
   ·cases h
 | F + 1, .G, ts, n, r, h => by
  have IH := pX_len F
  rw [pX] at h
  split at h
  ·rename_i x hx
   subst h
   exact rng_len hx
  ·have h1 : lenK 1 n + sl r ≤ sl ts := IH _ _ _ _ h (by decide)
   rw [len_1] at h1
   exact h1
end Go.Den
/- What is parsed is no monster: the plain part. -/
set_option linter.unusedVariables false
set_option linter.unusedSimpArgs false
namespace Go.Den
open Go Go.Proofs
def tkOk (t : Tk) : Prop := t.text.length ≤ 1000000 ∧ I64 t.num
theorem ok_lit (k x : Int) (t : ByteArray) (h : t.size ≤ 1000000) (hx : I64 x) : (litN ⟨k, x, t⟩).ok := by
 rw [litN, Nod.ok]
 exact ⟨⟨by dsimp only; omega, hx⟩, trivial, by simp⟩
theorem zV_ok : zV.text.size ≤ 9223372036854775807 ∧ I64 zV.num := ⟨by decide, ⟨by decide, by decide⟩⟩
theorem ok_0 (k op : Int) (a b : Rf) : (Nod.mk k op zV a b []).ok := by
 rw [Nod.ok]; exact ⟨zV_ok, trivial, by simp⟩
theorem ok_neg {n : Nod} (h : n.ok) : (negN n).ok := by
 rw [negN, Nod.ok]; exact ⟨zV_ok, ⟨h, trivial⟩, by simp⟩
theorem ok_bin {op : Nat} {m n : Nod} (hm : m.ok) (h : n.ok) : (binN op m n).ok := by
 rw [binN, Nod.ok]; exact ⟨zV_ok, ⟨hm, h, trivial⟩, by simp⟩
theorem ok_call {f : Int} {l : List Nod} (h : oks l) (hl : l.length ≤ 1000000) : (callN f l).ok := by
 rw [callN, Nod.ok]; exact ⟨zV_ok, h, by omega⟩
theorem oks_app {n : Nod} (h : n.ok) : ∀ {l : List Nod}, oks l → oks (l ++ [n])
 | [], _ => ⟨h, trivial⟩
 | m :: l, ho => ⟨ho.1, oks_app h ho.2⟩
theorem rng_ok {ts : List Tk} {n : Nod} {r : List Tk} (h : rngP ts = some (some (n, r))) : n.ok := by
 unfold rngP at h
 split at h
 ·cases h
 ·split at h
  ·cases h
  ·split at h
   ·have h := Option.some.inj h
    split at h
    ·cases h
    ·split at h
     ·obtain ⟨b, hb, e⟩ := Option.map_eq_some_iff.1 h
      cases e
      exact ok_0 _ _ _ _
     ·cases h
   ·cases h
def pre (g : Go1) (ts : List Tk) : Prop := match g with
 | .L _ m => m.ok
 | .R _ l => oks l ∧ l.length + ts.length ≤ 1000000
 | _ => ts.length ≤ 1000000
theorem pX_ok (fnum : List UInt8 → Int) : ∀ (F : Nat) (g : Go1) (ts : List Tk) (n : Nod) (r : List Tk), (∀ t ∈ ts, tkOk t) → ts.length ≤ 1000000 → pX fnum F g ts = some (n, r) → pre g ts → n.ok
 | 0, g, ts, n, r, _, _, h, _ => by unfold pX at h; cases h
 | F + 1, .B level, ts, n, r, ht, hl, h, hp => by
  have IH := pX_ok fnum F
  rw [pX] at h
  split at h
  ·exact IH _ _ _ _ ht hl h hl
  ·split at h
   ·cases h
   ·rename_i m r' h'
    have hs := pX_suf fnum F _ _ _ _ h'
    have hm := IH _ _ _ _ ht hl h' hl
    exact IH _ _ _ _ (fun t h => ht t (hs.subset h)) (by have := hs.length_le; omega) h hm
 | F + 1, .L level m, ts, n, r, ht, hl, h, hp => by
  have IH := pX_ok fnum F
  rw [pX.eq_def] at h
  dsimp only at h
  split at h
  ·cases h
  ·rename_i t r0
   have ht0 : ∀ x ∈ r0, tkOk x := fun x hx => ht x (List.mem_cons_of_mem _ hx)
   have hl0 : r0.length ≤ 1000000 := by simp at hl; omega
   split at h
   ·split at h
    ·cases h
    ·rename_i m' r' h'
     have hs := pX_suf fnum F _ _ _ _ h'
     have hm := IH _ _ _ _ ht0 hl0 h' hl0
     exact IH _ _ _ _ (fun t h => ht0 t (hs.subset h)) (by have := hs.length_le; omega) h (ok_bin (op := lvls level t.text) hp hm)
   ·cases h; exact hp
 | F + 1, .S, ts, n, r, ht, hl, h, hp => by
  have IH := pX_ok fnum F
  rw [pX] at h
  split at h
  ·obtain ⟨x, h', e⟩ := Option.map_eq_some_iff.1 h
   obtain ⟨x1, x2⟩ := x
   cases e
   have hl1 : ts.tail.length ≤ 1000000 := by rw [List.length_tail]; omega
   exact ok_neg (IH _ _ _ _ (fun t h => ht t (List.mem_of_mem_tail h)) hl1 h' hl1)
  ·exact IH _ _ _ _ ht hl h hl
 | F + 1, .A, ts, n, r, ht, hl, h, hp => by
  have IH := pX_ok fnum F
  rw [pX.eq_def] at h
  dsimp only at h
  split at h
  ·cases h
  ·rename_i t r0
   have ht0 : ∀ x ∈ r0, tkOk x := fun x hx => ht x (List.mem_cons_of_mem _ hx)
   have hl0 : r0.length ≤ 1000000 := by simp at hl; omega
   have htt := ht t (List.mem_cons_self ..)
   split at h
   ·cases h; exact ok_lit _ _ _ (by decide) htt.2
   split at h
   ·cases h; exact ok_lit _ _ _ htt.1 ⟨by decide, by decide⟩
   split at h
   ·exact IH _ _ _ _ ht0 hl0 h hl0
   split at h
   ·cases h; exact ok_0 _ _ _ _
   split at h
   ·split at h
    ·cases h
    ·rename_i m u h'
     split at h
     ·cases h
      exact IH _ _ _ _ ht0 hl0 h' hl0
     ·cases h
   ·cases h
 | F + 1, .W w, ts, n, r, ht, hl, h, hp => by
  have IH := pX_ok fnum F
  rw [pX] at h
  have hl1 : ts.tail.length ≤ 1000000 := by rw [List.length_tail]; omega
  split at h
  ·split at h
   ·cases h
    exact ok_0 _ _ _ _
   ·exact IH _ _ _ _ (fun t h => ht t (List.mem_of_mem_tail h)) hl1 h ⟨trivial, by simp; omega⟩
  split at h
  ·cases h; exact ok_lit _ _ _ (by decide) ⟨by decide, by decide⟩
  split at h
  ·cases h; exact ok_lit _ _ _ (by decide) ⟨by decide, by decide⟩
  obtain ⟨x, _, e⟩ := Option.map_eq_some_iff.1 h
  cases e
  exact ok_0 _ _ _ _
 | F + 1, .R f l, ts, n, r, ht, hl, h, hp => by
  have IH := pX_ok fnum F
  rw [pX] at h
  split at h
  ·cases h
  ·rename_i m u h'
   have hm := IH _ _ _ _ ht hl h' hl
   have hs := pX_suf fnum F _ _ _ _ h'
   have hsl := hs.length_le
   have hp2 : oks l ∧ l.length + ts.length ≤ 1000000 := hp
   split at h
   ·rename_i hsg
    cases h
    obtain ⟨t, u', e, _, _⟩ := sgT_cons hsg
    rw [e] at hsl
    simp at hsl
    exact ok_call (oks_app hm hp2.1) (by simp; omega)
   split at h
   ·rename_i _ hsg
    obtain ⟨t, u', e, _, _⟩ := sgT_cons hsg
    rw [e] at h hsl hs
    simp at hsl
    exact IH _ _ _ _ (fun t h => ht t (hs.subset (List.mem_cons_of_mem _ h))) (by omega) h ⟨oks_app hm hp2.1, by simp; omega⟩
   ·cases h
 | F + 1, .G, ts, n, r, ht, hl, h, hp => by
  have IH := pX_ok fnum F
  rw [pX] at h
  split at h
  ·rename_i x hx
   subst h
   exact rng_ok hx
  ·exact IH _ _ _ _ ht hl h hl
theorem next_tk {s : List UInt8} {t : Tk} {n : Nat} (hs : s.length ≤ 100000) (h : nextL s = some (t, n)) : t.text.length ≤ s.length ∧ I64 t.num := by
 have h0 : I64 0 := by unfold I64; omega
 rcases s with _ | ⟨b, l⟩
 ·cases h
 have hle := next_le h
 have htl := tel_le h
 rw [nextL] at h
 by_cases h1 : isD b = true
 ·rw [if_pos h1] at h
  by_cases h2 : (leadL (b :: l)).2.2 = true
  ·rw [if_pos h2] at h
   cases h
   refine ⟨Nat.zero_le _, ?_⟩
   unfold leadL
   split
   ·exact read_ok.1
   ·exact h0
  ·rw [if_neg h2] at h; cases h
 ·rw [if_neg h1] at h
  by_cases h2 : b = 34
  ·rw [if_pos h2] at h
   obtain ⟨r, h3, h4⟩ := Option.map_eq_some_iff.1 h
   cases h4
   refine ⟨?_, h0⟩
   have := dbl_str l r h3
   have h5 := strL_le l r h3
   have h6 : ∀ l : List UInt8, l.length ≤ (dblL l).length := by
    intro l
    induction l with
    | nil => exact Nat.le_refl _
    | cons b l ih => rw [dblL]; split <;> simp <;> omega
   have := h6 r.1
   show r.1.length ≤ (b :: l).length
   rw [List.length_cons]; omega
  ·rw [if_neg h2] at h
   by_cases h3 : uppB b = true
   ·rw [if_pos h3] at h
    cases h
    refine ⟨?_, h0⟩
    show (b :: l.take (runW l)).length ≤ _
    rw [List.length_cons, List.length_take, List.length_cons]; omega
   ·rw [if_neg h3] at h
    obtain ⟨r, h4, h5⟩ := Option.map_eq_some_iff.1 h
    cases h5
    exact ⟨hle.2, h0⟩
/-- The tokens of a text. -/
theorem lex_okk : ∀ (N a : Nat) (s : List UInt8) (l : List Tk), s.length ≤ N → s.length ≤ 100000 → lexL a s = .inr l → (∀ t ∈ l, tkOk t) ∧ l.length ≤ s.length + 1 ∧ l ≠ [] ∧ (∀ (i : Nat) (h : i < l.length), l[i].kind ≠ 5 → i + 1 < l.length) ∧ (∃ us e, l = us ++ [e] ∧ e.kind = 5)
 | _, a, [], l, _, _, h => by
  rw [lexL_nil] at h
  cases h
  refine ⟨?_, Nat.le_refl _, by simp, ?_, [], _, rfl, rfl⟩
  ·intro t ht
   rw [List.mem_singleton.1 ht]
   exact ⟨Nat.zero_le _, (by unfold I64; decide : I64 0)⟩
  ·intro i hi hk
   have : i = 0 := by simp at hi; omega
   subst this
   exact absurd rfl hk
 | 0, a, b :: s, l, hl, _, _ => by simp at hl
 | N + 1, a, b :: s, l, hl, h5, h => by
  by_cases hb : b = 32
  ·subst hb
   rw [lexL_blank] at h
   obtain ⟨h1, h2, h3⟩ := lex_okk N (a + 1) s l (by simp at hl; omega) (by simp at h5; omega) h
   exact ⟨h1, by rw [List.length_cons]; omega, h3⟩
  ·cases hn : nextL (b :: s) with
   | none => rw [lexL_bad hb hn] at h; cases h
   | some r =>
    obtain ⟨t, n⟩ := r
    obtain ⟨n0, n1⟩ := next_le hn
    rw [lexL_tok hb hn] at h
    have hlen : ((b :: s).drop n).length = (b :: s).length - n := List.length_drop
    cases hr : lexL (a + n) ((b :: s).drop n) with
    | inl e => rw [hr] at h; cases h
    | inr l' =>
     rw [hr] at h
     cases h
     obtain ⟨h1, h2, h3, h4, us, e, h6, h7⟩ := lex_okk N (a + n) _ l' (by rw [hlen]; omega) (by rw [hlen]; omega) hr
     have ht := next_tk h5 hn
     refine ⟨?_, ?_, by simp, ?_, t.put a :: us, e, by rw [h6]; rfl, h7⟩
     ·intro x hx
      rcases List.mem_cons.1 hx with rfl | hx
      ·exact ⟨by have : t.text.length ≤ (b :: s).length := ht.1; show t.text.length ≤ 1000000; omega, ht.2⟩
      ·exact h1 x hx
     ·rw [List.length_cons]; omega
     ·intro i hi hk
      rcases i with _ | i
      ·have : 0 < l'.length := List.length_pos_iff.2 h3
       rw [List.length_cons]; omega
      ·have := h4 i (by simp at hi; omega) hk
       rw [List.length_cons]; omega
theorem wth_length {k : Nat} {n : Nod} {m : Nat} (h : m ≤ (tkN n).length) : m ≤ (wth k n).length := by
 unfold wth wthC
 split
 ·exact h
 ·simp only [List.length_cons, List.length_append]; omega
theorem com_count : ∀ l : List Nod, (∀ n ∈ l, n.count ≤ (tkN n).length) → counts l ≤ (comC (tkNs l)).length
 | [], _ => Nat.zero_le _
 | [n], h => by
  have := h n (List.mem_cons_self ..)
  show n.count + 0 ≤ (tkN n).length
  omega
 | n :: m :: l, h => by
  have h1 := h n (List.mem_cons_self ..)
  have h2 := com_count (m :: l) fun x hx => h x (List.mem_cons_of_mem _ hx)
  show n.count + counts (m :: l) ≤ (tkN n ++ sgt [44] :: comC (tkNs (m :: l))).length
  rw [List.length_append, List.length_cons]; omega
theorem tk_count : ∀ (N : Nat) (n : Nod), n.count ≤ N → n.rightN = true → n.count ≤ (tkN n).length
 | 0, .mk _ _ _ _ _ _, hN, _ => by rw [Nod.count] at hN; omega
 | N + 1, n, hN, hr => by
  have h := rgt hr
  cases h with
  | num x h => exact Nat.le_refl _
  | str x h hp => exact Nat.le_refl _
  | tru x h => exact Nat.le_refl _
  | lost => exact Nat.le_refl _
  | one q h => exact Nat.le_refl _
  | range q p h h2 => show 0 + 1 ≤ 3; omega
  | neg m hm hmk =>
   have hc : (negN m).count = m.count + 0 + 1 := rfl
   have := wth_length (k := 6) (tk_count N m (by omega) hm)
   rw [tk_neg, List.length_cons]; omega
  | bin op ho m m' hm hm' hmk =>
   have hc : (binN op m m').count = m.count + (m'.count + 0) + 1 := rfl
   have h1 := wth_length (k := (sgnO op).2) (tk_count N m (by omega) hm)
   have h2 := wth_length (k := (sgnO op).2 + 1) (tk_count N m' (by omega) hm')
   rw [tk_bin, List.length_append, List.length_cons]; omega
  | call f l hf hl hkl =>
   have hc : (callN f l).count = counts l + 1 := rfl
   have := com_count l fun x hx => tk_count N x (by have := count_mem hx; omega) (rights_mem hl hx)
   rw [tk_call, List.length_cons, List.length_cons, List.length_append]; omega
theorem okL_len : ∀ (us : List Tk) (q : List UInt8), okL us q → us.length ≤ (texT us).length
 | [], _, _ => Nat.le_refl _
 | t :: us, q, h => by
  obtain ⟨⟨⟨_, ⟨b, l, e, _⟩, _⟩, _⟩, h2⟩ := h
  have := okL_len us q h2
  rw [texT_cons, List.length_append, e, List.length_cons, List.length_cons]; omega
theorem count_tex {n : Nod} (h : n.rightN = true) : n.count ≤ (texN n).length :=
 Nat.le_trans (tk_count _ n (Nat.le_refl _) h) (okL_len _ _ (ok_tk _ n (Nat.le_refl _) h [] (.inl rfl)))
/-- Parse: the tree, or why there is none (1, 3, 4, 6). -/
def parE (s : List UInt8) : Option Nod × Int := if s.length ≤ 200 then (match lexL 0 s with
  | .inl _ => (none, 1)
  | .inr l => match pX fnumP (need (.B 1) l) (.B 1) l with
   | some (n, e :: _) => if e.kind = 5 then (if n.rightN = true then (if n.deep ≤ 12 then (some n, 0) else (none, 4)) else (none, 6)) else (none, 1)
   | _ => (none, 1)) else (none, 3)
end Go.Den
/- A tree's text, by the program. -/
set_option linter.unusedVariables false
set_option linter.unusedSimpArgs false
set_option maxRecDepth 100000
namespace Go.Den.ET
open Go Go.Proofs
theorem letters_ev {c : Nat} (h : c < 702) : D 56 [.sc (.int .i64 (c : Int))] = some (.sc (.string (B (letL c)))) := by
 rw [f56_eq 0, bO]
 have hc : (decide ((c : Int) < 0) || decide ((c : Int) ≥ 702)) = false := by
  rw [Bool.or_eq_false_iff, decide_eq_false_iff_not, decide_eq_false_iff_not]; omega
 rw [hc]
 refine im (Bool.false_ne_true) ?_
 unfold letL
 by_cases h26 : c < 26
 ·rw [if_pos h26]
  refine ip (by rw [decide_eq_true_eq]; omega) ?_
  have e : IntKind.u8.wrap (IntKind.i64.wrap ((65 : Int) + (c : Int))) = ((65 + c : Nat) : Int) := by
   rw [w64 (by omega) (by omega), u8w (by omega) (by omega)]; omega
  rw [e]
  exact ip rfl rfl
 ·rw [if_neg h26]
  refine im (by rw [decide_eq_true_eq]; omega) ?_
  have e1 : (c : Int).tdiv 26 = ((c / 26 : Nat) : Int) := by rw [Int.tdiv_eq_ediv_of_nonneg (by omega)]; omega
  have e2 : (c : Int).tmod 26 = ((c % 26 : Nat) : Int) := by rw [Int.tmod_eq_emod_of_nonneg (by omega)]; omega
  have e3 : IntKind.u8.wrap (IntKind.i64.wrap ((IntKind.i64.wrap ((65 : Int) + (IntKind.i64.wrap ((c : Int).tdiv 26)))) - 1)) = ((64 + c / 26 : Nat) : Int) := by
   rw [e1, w64 (x := ((c / 26 : Nat) : Int)) (by omega) (by omega), w64 (x := (65 : Int) + ((c / 26 : Nat) : Int)) (by omega) (by omega), w64 (by omega) (by omega), u8w (by omega) (by omega)]; omega
  have e4 : IntKind.u8.wrap (IntKind.i64.wrap ((65 : Int) + ((c : Int).tmod 26))) = ((65 + c % 26 : Nat) : Int) := by
   rw [e2, w64 (by omega) (by omega), u8w (by omega) (by omega)]; omega
  rw [e3, e4]
  exact ip rfl rfl
def refD (r : Rf) : List UInt8 := if refM r = true then wrdR r else []
theorem letL_le (c : Nat) : (letL c).length ≤ 2 := by unfold letL; split <;> simp
theorem cname_ev {r c : Nat} (hr : r < 999) (hc : c < 702) : D 55 [.agg [.sc (.int .i64 (r : Int)), .sc (.int .i64 (c : Int))]] = some (.sc (.string (B (letL c ++ Lib.decDigits (r + 1))))) := by
 have hm := amay_ev (r : Int) (c : Int)
 have e : (decide ((0 : Int) ≤ (r : Int)) && decide ((r : Int) < 999) && decide ((0 : Int) ≤ (c : Int)) && decide ((c : Int) < 702)) = true := by
  simp only [Bool.and_eq_true, decide_eq_true_eq]; omega
 rw [e] at hm
 refine (f55_eq 0 _ _).trans (cb hm rfl (im (show ¬ (!true) = true by decide) (cb (letters_ev hc) rfl ?_)))
 have ei := itoac_ev (n := ((r + 1 : Nat) : Int)) (by unfold I64; omega)
 rw [itoa_nat] at ei
 have ew : IntKind.i64.wrap ((r : Int) + 1) = ((r + 1 : Nat) : Int) := by rw [w64 (by omega) (by omega)]; omega
 rw [← ew] at ei
 refine cb ei rfl ?_
 have h1 := letL_le c
 have h2 := dd_len 2 (r + 1) (by omega)
 refine ip (by show (B (letL c)).size + (B (Lib.decDigits (r + 1))).size ≤ _; rw [B_size, B_size]; omega) ?_
 show some (PV.sc (.string (B (letL c) ++ B (Lib.decDigits (r + 1))))) = _
 rw [B_append]
theorem cref_ev (r : Rf) : D 24 [r.pv] = some (.sc (.string (B (refD r)))) := by
 obtain ⟨row, col, hr, hc⟩ := r
 refine (f24_eq 0 _ _ _ _).trans ?_
 unfold refD
 have he : ((B []).toList == (⟨#[]⟩ : ByteArray).toList) = true := by rw [show (⟨#[]⟩ : ByteArray) = B [] from rfl, beq_self_eq_true]
 by_cases hM : refM ⟨row, col, hr, hc⟩ = true
 ·rw [if_pos hM]
  have hM2 := hM
  unfold refM at hM2
  simp only [Bool.and_eq_true, decide_eq_true_eq] at hM2
  obtain ⟨⟨⟨h1, h2⟩, h3⟩, h4⟩ := hM2
  obtain ⟨rn, rfl⟩ : ∃ k : Nat, row = k := ⟨row.toNat, by omega⟩
  obtain ⟨cn, rfl⟩ : ∃ k : Nat, col = k := ⟨col.toNat, by omega⟩
  have hcn : cn < 702 := by omega
  refine cb (cname_ev (by omega) hcn) rfl (im ?_ (cb (letters_ev hcn) rfl ?_))
  ·show ¬ ((B (letL cn ++ Lib.decDigits (rn + 1))).toList == (⟨#[]⟩ : ByteArray).toList) = true
   rw [em_eq, B_size, beq_iff_eq, List.length_append]
   have := (let_all hcn).2.1.1
   omega
  have l1 := letL_le cn
  have l2 := dd_len 2 (rn + 1) (by omega)
  have ex : (B (letL cn ++ Lib.decDigits (rn + 1))).extract ((B (letL cn)).size : Int).toNat ((B (letL cn ++ Lib.decDigits (rn + 1))).size : Int).toNat = B (Lib.decDigits (rn + 1)) := by
   rw [ext_drop, B_size, List.drop_left]
  have p36 : (⟨#[36]⟩ : ByteArray) = B [36] := rfl
  refine ip (by omega) (ip (Int.le_refl _) (ip (by omega) (ip (by show ((B (letL cn)).size : Int) ≤ ((B (letL cn ++ Lib.decDigits (rn + 1))).size : Int); rw [B_size, B_size, List.length_append]; omega) ?_)))
  show (if hc = true then _ else _) = _
  simp only [ts, ex, p36, B_append]
  simp only [B_size, List.length_append, List.length_cons, List.length_nil]
  unfold wrdR
  dsimp only
  rw [Int.toNat_natCast, Int.toNat_natCast]
  cases hc
  ·refine im (Bool.false_ne_true) ?_
   cases hr
   ·exact im (Bool.false_ne_true) (ip (by omega) (by simp))
   ·exact ip rfl (ip (by omega) (ip (by omega) (by simp)))
  ·refine ip rfl (ip (by omega) ?_)
   cases hr
   ·exact im (Bool.false_ne_true) (ip (by omega) (by simp))
   ·exact ip rfl (ip (by omega) (ip (by omega) (by simp)))
 ·rw [if_neg hM]
  have hn : D 55 [.agg [.sc (.int .i64 row), .sc (.int .i64 col)]] = some (.sc (.string (B []))) := by
   have hm := amay_ev row col
   have e : (decide (0 ≤ row) && decide (row < 999) && decide (0 ≤ col) && decide (col < 702)) = false := by
    unfold refM at hM; simpa using hM
   rw [e] at hm
   exact (f55_eq 0 _ _).trans (cb hm rfl (ip rfl rfl))
  refine cb hn rfl (ip he rfl)
theorem csign_ev (op : Int) : D 104 [.sc (.int .i64 op)] = some (.tup [.sc (.string (B (sgnO op).1)), .sc (.int .i64 (((sgnO op).2 : Nat) : Int))]) := by
 rw [f104_eq 0]
 unfold sgnO
 simp only [beq_iff_eq]
 by_cases h1 : op = 1
 ·subst h1; rfl
 by_cases h2 : op = 2
 ·subst h2; rfl
 by_cases h3 : op = 3
 ·subst h3; rfl
 by_cases h4 : op = 4
 ·subst h4; rfl
 by_cases h5 : op = 5
 ·subst h5; rfl
 by_cases h6 : op = 6
 ·subst h6; rfl
 by_cases h7 : op = 7
 ·subst h7; rfl
 by_cases h8 : op = 8
 ·subst h8; rfl
 by_cases h9 : op = 9
 ·subst h9; rfl
 by_cases h10 : op = 10
 ·subst h10; rfl
 by_cases h11 : op = 11
 ·subst h11; rfl
 simp only [if_neg h1, if_neg h2, if_neg h3, if_neg h4, if_neg h5, if_neg h6, if_neg h7, if_neg h8, if_neg h9, if_neg h10, if_neg h11]
 rfl
theorem cbinds_ev (n : Nod) : D 154 [n.pv] = some (.sc (.int .i64 ((bindsN n : Nat) : Int))) := by
 obtain ⟨kind, op, v, a, b, l⟩ := n
 refine (f154_eq 0 _ _ _ _ _ _ _ _ _ _ _ _ _ _ _).trans ?_
 unfold bindsN
 by_cases h : kind = 6
 ·rw [if_pos (show (Nod.mk kind op v a b l).kind = 6 from h)]
  exact im (by rw [bne_iff_ne]; exact fun hh => hh h) (cb (csign_ev op) rfl rfl)
 ·rw [if_neg (show ¬ (Nod.mk kind op v a b l).kind = 6 from h)]
  exact ip (by rw [bne_iff_ne]; exact h) rfl
theorem shw_str (t : ByteArray) (h : t.size ≤ 256) : D 100 [Vl.pv ⟨2, 0, t⟩] = some (.sc (.string (B (quoL (tb8 t))))) := by
 have hq := quote_ev (tb8 t) (by rw [tb8_len]; omega)
 rw [tb8_B] at hq
 exact (f100_eq 0 _ _ _).trans (im (show ¬ ((2 : Int) == 0) = true by decide) (ip rfl (cb hq rfl rfl)))
theorem vstr_ev (t : ByteArray) (h : t.size ≤ 256) : D 194 [.sc (.string t)] = some (Vl.pv ⟨2, 0, t⟩) := by
 have hm : D 221 [Vl.pv ⟨2, 0, t⟩, .sc (.int .i64 2)] = some (Vl.pv ⟨2, 0, t⟩) := by
  refine (f221_eq 0 _ _ _ _).trans (cb (vmay_ev ⟨2, 0, t⟩ (by unfold I64; decide : I64 0)) rfl (im ?_ rfl))
  have : mayV ⟨2, 0, t⟩ = true := by
   unfold mayV
   dsimp only
   rw [if_neg (by decide), if_neg (by decide), if_pos rfl, decide_eq_true h]; rfl
  rw [this]; decide
 exact (f194_eq 0 _).trans (cb hm rfl rfl)
theorem shw_tru (x : Int) (h : x = 0 ∨ x = 1) : D 100 [Vl.pv ⟨3, x, EM⟩] = some (.sc (.string (B (if x = 1 then wordL else wordF)))) := by
 have ht : D 195 [Vl.pv ⟨3, x, EM⟩] = some (.sc (.string (B (if x = 1 then wordL else wordF)))) := by
  refine (f195_eq 0 _ _ _).trans ?_
  rcases h with rfl | rfl
  ·rfl
  ·rfl
 have hs : (B (if x = 1 then wordL else wordF)).size ≤ 256 := by rcases h with rfl | rfl <;> decide
 have ha : D 153 [Vl.pv ⟨3, x, EM⟩] = some (Vl.pv ⟨2, 0, B (if x = 1 then wordL else wordF)⟩) :=
  (f153_eq 0 _ _ _).trans (im (show ¬ ((3 : Int) == 0) = true by decide) (ip rfl (cb ht rfl (cb (vstr_ev _ hs) rfl rfl))))
 exact (f100_eq 0 _ _ _).trans (im (show ¬ ((3 : Int) == 0) = true by decide) (im (show ¬ ((3 : Int) == 2) = true by decide) (im (show ¬ ((3 : Int) == 4) = true by decide) (cb ha rfl rfl))))
/-- What is put. -/
def Puts (s : List UInt8) (u : Option PV) (t : List UInt8) : Prop := u = some (.tup [.hp (bld (strB (B (s ++ t)))), .tup []])
def argsT : Bool → List Nod → List UInt8
 | _, [] => []
 | true, n :: l => texN n ++ argsT false l
 | false, n :: l => 44 :: (texN n ++ argsT false l)
theorem argsT_eq : ∀ l : List Nod, texT (comC (tkNs l)) = argsT true l ∧ (l ≠ [] → 44 :: texT (comC (tkNs l)) = argsT false l)
 | [] => ⟨rfl, fun h => absurd rfl h⟩
 | [n] => by
  have : texT (comC (tkNs [n])) = texN n := rfl
  refine ⟨?_, fun _ => ?_⟩
  ·rw [this]; show _ = texN n ++ []; rw [List.append_nil]
  ·rw [this]; show _ = 44 :: (texN n ++ []); rw [List.append_nil]
 | n :: m :: l => by
  have ih := (argsT_eq (m :: l)).2 (by simp)
  have : texT (comC (tkNs (n :: m :: l))) = texN n ++ 44 :: texT (comC (tkNs (m :: l))) := by
   show texT (tkN n ++ sgt [44] :: comC (tkNs (m :: l))) = _
   rw [texT_app, texT_cons]; rfl
  refine ⟨?_, fun _ => ?_⟩
  ·rw [this, ih]; rfl
  ·rw [this, ih]; rfl
theorem within_ev {n : Nod} (hput : ∀ s, s.length + (texN n).length ≤ 1000000 → Puts s (D 52 [.hp (bld (strB (B s))), .ptr 0 0, n.pv]) (texN n)) {k : Nat} (s : List UInt8) (h : s.length + (texT (wth k n)).length ≤ 1000000) : Puts s (D 103 [.hp (bld (strB (B s))), .ptr 0 0, n.pv, .sc (.int .i64 (k : Int))]) (texT (wth k n)) := by
 have hb0 := cbinds_ev n
 obtain ⟨kind, op, v, a, b, l⟩ := n
 refine (f103h_eq 0 _ _ _ _ _ _ _ _ _ _ _ _ _ _ _ _ _).trans (cb hb0 rfl ?_)
 by_cases hk : k ≤ bindsN (.mk kind op v a b l)
 ·rw [wth_le hk] at h ⊢
  refine ip (by show decide (((bindsN (.mk kind op v a b l) : Nat) : Int) ≥ (k : Int)) = true; rw [decide_eq_true_eq]; omega) (hb (hput s h) rfl rfl ?_)
  rfl
 ·rw [wth_gt (by omega)] at h ⊢
  have ht : texT (sgt [40] :: (tkN (.mk kind op v a b l) ++ [sgt [41]])) = 40 :: (texN (.mk kind op v a b l) ++ [41]) := by
   rw [texT_cons, texT_app]; rfl
  rw [ht] at h ⊢
  simp only [List.length_cons, List.length_append, List.length_nil] at h
  have p1 := bwb_ev s 40 (by omega)
  have p2 := hput (s ++ [40]) (by simp; omega)
  have p3 := bwb_ev ((s ++ [40]) ++ texN (.mk kind op v a b l)) 41 (by simp; omega)
  refine im (by show ¬ decide (((bindsN (.mk kind op v a b l) : Nat) : Int) ≥ (k : Int)) = true; rw [decide_eq_true_eq]; omega) (hb p1 rfl rfl (hb p2 rfl rfl (hb p3 rfl rfl ?_)))
  show some (PV.tup [.hp (bld (strB (B (((s ++ [40]) ++ texN (.mk kind op v a b l)) ++ [41])))), .tup []]) = _
  rw [show ((s ++ [40]) ++ texN (.mk kind op v a b l)) ++ [41] = s ++ 40 :: (texN (.mk kind op v a b l) ++ [41]) by simp]
theorem put_l (l : List Nod) (hl : l.length ≤ 1000000) (IH : ∀ n ∈ l, ∀ s, s.length + (texN n).length ≤ 1000000 → Puts s (D 52 [.hp (bld (strB (B s))), .ptr 0 0, n.pv]) (texN n)) : ∀ (d i : Nat) (s : List UInt8), i + d = l.length → s.length + (argsT (i == 0) (l.drop i)).length + 1 ≤ 1000000 → Puts s (f52h.l0a 0 (pvs l).length (fun i => (pvs l).getD i .top) (l.length : Int) (i : Int) (strB (B s))) (argsT (i == 0) (l.drop i) ++ [41]) := by
 intro d
 induction d with
 | zero =>
  intro i s h hs
  unfold Puts
  rw [f52h.l0a_eq]
  refine im (by rw [decide_eq_true_eq]; omega) ?_
  rw [List.drop_eq_nil_of_le (by omega)] at hs ⊢
  have e : argsT (i == 0) [] = [] := by cases (i == 0) <;> rfl
  rw [e, List.nil_append]
  exact hb (bwb_ev s 41 (by omega)) rfl rfl rfl
 | succ d ih =>
  intro i s h hs
  have hi : i < l.length := by omega
  unfold Puts
  rw [f52h.l0a_eq]
  rw [Int.toNat_natCast, pvs_get hi]
  rw [List.drop_eq_getElem_cons hi] at hs ⊢
  refine ip (by rw [decide_eq_true_eq]; omega) (ip (by omega) (ip (by rw [pvs_len]; omega) (ip (sh_pv _) ?_)))
  have nxi : IntKind.i64.wrap ((i : Int) + 1) = ((i + 1 : Nat) : Int) := nx hi (by omega)
  have join : ∀ s' : List UInt8, s'.length + (texN l[i]).length + (argsT false (l.drop (i + 1))).length + 1 ≤ 1000000 → f52h.j1a 0 (pvs l).length (fun i => (pvs l).getD i .top) (l.length : Int) (i : Int) (strB (B s')) ((cel 0 (l[i].pv).cells).toInt) ((cel 1 (l[i].pv).cells).toInt) ((cel 2 (l[i].pv).cells).toInt) ((cel 3 (l[i].pv).cells).toInt) ((cel 4 (l[i].pv).cells).toStr) ((cel 5 (l[i].pv).cells).toInt) ((cel 6 (l[i].pv).cells).toInt) ((cel 7 (l[i].pv).cells).toBool) ((cel 8 (l[i].pv).cells).toBool) ((cel 9 (l[i].pv).cells).toInt) ((cel 10 (l[i].pv).cells).toInt) ((cel 11 (l[i].pv).cells).toBool) ((cel 12 (l[i].pv).cells).toBool) ((cel 13 (l[i].pv).cells).len) ((cel 13 (l[i].pv).cells).at) =
    some (.tup [.hp (bld (strB (B (s' ++ (texN l[i] ++ (argsT false (l.drop (i + 1)) ++ [41])))))), .tup []]) := by
   intro s' hs'
   have p := IH _ (List.getElem_mem hi) s' (by omega)
   rw [← rb_pv] at p
   refine (f52h.j1a_eq 0 _ _ _ _ _ _ _ _ _ _ _ _ _ _ _ _ _ _ _ _).trans (hb p rfl rfl ?_)
   rw [nxi]
   have q := ih (i + 1) (s' ++ texN l[i]) (by omega) (by rw [List.length_append]; show _ + (argsT false (l.drop (i + 1))).length + 1 ≤ _; omega)
   unfold Puts at q
   refine Eq.trans q ?_
   rw [List.append_assoc]; rfl
  by_cases h0 : i = 0
  ·subst h0
   refine im (by decide) ((join s (by
    have : (argsT true (l[0] :: l.drop (0 + 1))).length = (texN l[0]).length + (argsT false (l.drop (0 + 1))).length := List.length_append
    have e : ((0 : Nat) == 0) = true := rfl
    rw [e, this] at hs
    omega)).trans ?_)
   show _ = some (PV.tup [.hp (bld (strB (B (s ++ ((texN l[0] ++ argsT false (l.drop (0 + 1))) ++ [41]))))), .tup []])
   rw [List.append_assoc (texN l[0])]
  ·have e : (i == 0) = false := by rw [beq_eq_false_iff_ne]; exact h0
   rw [e] at hs ⊢
   have hlen : (argsT false (l[i] :: l.drop (i + 1))).length = (texN l[i]).length + (argsT false (l.drop (i + 1))).length + 1 := by
    show (44 :: (texN l[i] ++ argsT false (l.drop (i + 1)))).length = _
    rw [List.length_cons, List.length_append]
   rw [hlen] at hs
   refine ip (by rw [decide_eq_true_eq]; omega) (hb (bwb_ev s 44 (by omega)) rfl rfl ((join (s ++ [44]) (by rw [List.length_append]; simp only [List.length_cons, List.length_nil]; omega)).trans ?_))
   show _ = some (PV.tup [.hp (bld (strB (B (s ++ ((44 :: (texN l[i] ++ argsT false (l.drop (i + 1)))) ++ [41]))))), .tup []])
   simp
theorem cput_ev : ∀ (N : Nat) (n : Nod), n.count ≤ N → n.rightN = true → ∀ s, s.length + (texN n).length ≤ 1000000 → Puts s (D 52 [.hp (bld (strB (B s))), .ptr 0 0, n.pv]) (texN n)
 | 0, .mk _ _ _ _ _ _, hN, _, _, _ => by rw [Nod.count] at hN; omega
 | N + 1, n, hN, hr, s, hs => by
  have wr : ∀ w : List UInt8, s.length + w.length ≤ 1000000 → D 98 [.hp (bld (strB (B s))), .ptr 0 0, .sc (.string (B w))] = some (.tup [.hp (bld (strB (B (s ++ w)))), .tup [.sc (.int .i64 (w.length : Int)), .top]]) := fun w h => bws_ev s w h
  have h := rgt hr
  unfold Puts
  cases h with
  | num x h =>
   have e : texN (litN ⟨1, x, ⟨#[]⟩⟩) = texS x := List.append_nil _
   rw [e] at hs ⊢
   exact (f52h_eq 0 _ _ _ _ _ _ _ _ _ _ _ _ _ _ _ _).trans (ip rfl (ip rfl (cb (text_ev (x := x) (by unfold I64; omega)) rfl (hb (wr _ hs) rfl rfl rfl))))
  | str t h hp =>
   have e : texN (litN ⟨2, 0, t⟩) = quoL (tb8 t) := List.append_nil _
   rw [e] at hs ⊢
   exact (f52h_eq 0 _ _ _ _ _ _ _ _ _ _ _ _ _ _ _ _).trans (ip rfl (im (show ¬ ((2 : Int) == 1) = true by decide) (cb (shw_str t h) rfl (hb (wr _ hs) rfl rfl rfl))))
  | tru x h =>
   have e : texN (litN ⟨3, x, ⟨#[]⟩⟩) = (if x = 1 then wordL else wordF) := List.append_nil _
   rw [e] at hs ⊢
   exact (f52h_eq 0 _ _ _ _ _ _ _ _ _ _ _ _ _ _ _ _).trans (ip rfl (im (show ¬ ((3 : Int) == 1) = true by decide) (cb (shw_tru x h) rfl (hb (wr _ hs) rfl rfl rfl))))
  | lost =>
   have e : texN lostN = [35, 82, 69, 70] := rfl
   rw [e] at hs ⊢
   have hf : D 101 [.sc (.int .i64 3)] = some (.sc (.string (B [35, 82, 69, 70]))) := f101_eq 0 3
   exact (f52h_eq 0 _ _ _ _ _ _ _ _ _ _ _ _ _ _ _ _).trans (im (show ¬ ((2 : Int) == 1) = true by decide) (ip rfl (cb hf rfl (hb (wr _ hs) rfl rfl rfl))))
  | one r h =>
   have e : texN (oneN r) = wrdR r := List.append_nil _
   rw [e] at hs ⊢
   have hf := cref_ev r
   have er : refD r = wrdR r := if_pos h
   rw [er] at hf
   exact (f52h_eq 0 _ _ _ _ _ _ _ _ _ _ _ _ _ _ _ _).trans (im (show ¬ ((3 : Int) == 1) = true by decide) (im (show ¬ ((3 : Int) == 2) = true by decide) (ip rfl (cb hf rfl (hb (wr _ hs) rfl rfl rfl)))))
  | range r q h h2 =>
   have e : texN (rangeN r q) = wrdR r ++ 58 :: wrdR q := by
    show wrdR r ++ ([58] ++ (wrdR q ++ [])) = _
    simp
   rw [e] at hs ⊢
   have hf := cref_ev r
   have hf2 := cref_ev q
   rw [show refD r = wrdR r from if_pos h] at hf
   rw [show refD q = wrdR q from if_pos h2] at hf2
   have hw := wr _ hs
   rw [show B (wrdR r ++ 58 :: wrdR q) = (B (wrdR r) ++ (⟨#[58]⟩ : ByteArray)) ++ B (wrdR q) by rw [show (⟨#[58]⟩ : ByteArray) = B [58] from rfl, B_append, B_append]; simp] at hw
   rw [List.length_append, List.length_cons] at hs
   refine (f52h_eq 0 _ _ _ _ _ _ _ _ _ _ _ _ _ _ _ _).trans (im (show ¬ ((4 : Int) == 1) = true by decide) (im (show ¬ ((4 : Int) == 2) = true by decide) (im (show ¬ ((4 : Int) == 3) = true by decide) (ip rfl (cb hf rfl (ip ?_ (cb hf2 rfl (ip ?_ (hb hw rfl rfl ?_)))))))))
   ·show (B (wrdR r)).size + 1 ≤ _; rw [B_size]; omega
   ·show ((B (wrdR r)) ++ (⟨#[58]⟩ : ByteArray)).size + (B (wrdR q)).size ≤ _
    rw [show (⟨#[58]⟩ : ByteArray) = B [58] from rfl, B_append, B_size, B_size, List.length_append]; simp only [List.length_cons, List.length_nil]; omega
   ·rfl
  | neg m hm hmk =>
   have hc : (negN m).count = m.count + 0 + 1 := rfl
   have e : texN (negN m) = 45 :: texT (wth 6 m) := rfl
   rw [e] at hs ⊢
   rw [List.length_cons] at hs
   have p := within_ev (k := 6) (cput_ev N m (by omega) hm) (s ++ [45]) (by rw [List.length_append]; simp only [List.length_cons, List.length_nil]; omega)
   have p9 : D 103 [.hp (bld (strB (B (s ++ [45])))), .ptr 0 0, rbN m.pv, .sc (.int .i64 9)] = some (.tup [.hp (bld (strB (B ((s ++ [45]) ++ texT (wth 6 m))))), .tup []]) := by
    have q := within_ev (k := 9) (cput_ev N m (by omega) hm) (s ++ [45]) (by
     have : texT (wth 9 m) = texT (wth 6 m) := by
      by_cases h6 : 9 ≤ bindsN m
      ·rw [wth_le h6, wth_le (by omega)]
      ·have : bindsN m ≤ 5 := by
        unfold bindsN at h6 ⊢
        by_cases hk6 : m.kind = 6
        ·rw [if_pos hk6]; exact (sgnO_pos _).2
        ·rw [if_neg hk6] at h6; exact absurd (Nat.le_refl _) h6
       rw [wth_gt (by omega), wth_gt (by omega)]
     rw [this, List.length_append]; simp only [List.length_cons, List.length_nil]; omega)
    have : texT (wth 9 m) = texT (wth 6 m) := by
     by_cases h6 : 9 ≤ bindsN m
     ·rw [wth_le h6, wth_le (by omega)]
     ·have : bindsN m ≤ 5 := by
       unfold bindsN at h6 ⊢
       by_cases hk6 : m.kind = 6
       ·rw [if_pos hk6]; exact (sgnO_pos _).2
       ·rw [if_neg hk6] at h6; exact absurd (Nat.le_refl _) h6
      rw [wth_gt (by omega), wth_gt (by omega)]
    rw [this] at q
    rw [rb_pv]
    exact q
   refine (f52h_eq 0 _ _ _ _ _ _ _ _ _ _ _ _ _ _ _ _).trans (im (show ¬ ((5 : Int) == 1) = true by decide) (im (show ¬ ((5 : Int) == 2) = true by decide) (im (show ¬ ((5 : Int) == 3) = true by decide) (im (show ¬ ((5 : Int) == 4) = true by decide) (ip rfl (hb (bwb_ev s 45 (by omega)) rfl rfl (ip ?_ (ip ?_ (hb p9 rfl rfl ?_)))))))))
   ·show (0 : Int) < ((pvs [m]).length : Int); rw [pvs_len]; simp
   ·exact sh_pv m
   ·show some (PV.tup [.hp (bld (strB (B ((s ++ [45]) ++ texT (wth 6 m))))), .tup []]) = _
    rw [List.append_assoc]; rfl
  | bin op ho m m' hm hm' hmk =>
   have hc : (binN op m m').count = m.count + (m'.count + 0) + 1 := rfl
   have e : texN (binN op m m') = texT (wth (sgnO op).2 m) ++ ((sgnO op).1 ++ texT (wth ((sgnO op).2 + 1) m')) := by
    unfold texN; rw [tk_bin, texT_app, texT_cons]; rfl
   rw [e] at hs ⊢
   rw [List.length_append, List.length_append] at hs
   have hso := csign_ev (op : Int)
   have p1 := within_ev (k := (sgnO op).2) (cput_ev N m (by omega) hm) s (by omega)
   have p2 := bws_ev (s ++ texT (wth (sgnO op).2 m)) (sgnO op).1 (by rw [List.length_append]; omega)
   have p3 := within_ev (k := (sgnO op).2 + 1) (cput_ev N m' (by omega) hm') ((s ++ texT (wth (sgnO op).2 m)) ++ (sgnO op).1) (by rw [List.length_append, List.length_append]; omega)
   unfold Puts at p1 p3
   rw [← rb_pv] at p1 p3
   have hb5 := (op_tok ho).1
   have ew : IntKind.i64.wrap ((((sgnO op).2 : Nat) : Int) + 1) = (((sgnO op).2 + 1 : Nat) : Int) := by rw [w64 (by omega) (by omega)]; omega
   rw [← ew] at p3
   refine (f52h_eq 0 _ _ _ _ _ _ _ _ _ _ _ _ _ _ _ _).trans (im (show ¬ ((6 : Int) == 1) = true by decide) (im (show ¬ ((6 : Int) == 2) = true by decide) (im (show ¬ ((6 : Int) == 3) = true by decide) (im (show ¬ ((6 : Int) == 4) = true by decide) (im (show ¬ ((6 : Int) == 5) = true by decide) (ip rfl (cb hso rfl (ip ?_ (ip ?_ (hb p1 rfl rfl (hb p2 rfl rfl (ip ?_ (ip ?_ (hb p3 rfl rfl ?_))))))))))))))
   ·show (0 : Int) < ((pvs [m, m']).length : Int); rw [pvs_len]; simp
   ·exact sh_pv m
   ·show (1 : Int) < ((pvs [m, m']).length : Int); rw [pvs_len]; simp
   ·exact sh_pv m'
   ·show some (PV.tup [.hp (bld (strB (B (((s ++ texT (wth (sgnO op).2 m)) ++ (sgnO op).1) ++ texT (wth ((sgnO op).2 + 1) m'))))), .tup []]) = _
    rw [List.append_assoc, List.append_assoc]
  | call f l hf hl hkl =>
   have hc : (callN f l).count = counts l + 1 := rfl
   have e : texN (callN f l) = ((rowP f).1 ++ [40]) ++ (argsT true l ++ [41]) := by
    unfold texN
    rw [tk_call, texT_cons, texT_cons, texT_app, (argsT_eq l).1]
    show (rowP f).1 ++ ([40] ++ (argsT true l ++ ([41] ++ []))) = _
    simp
   rw [e] at hs ⊢
   rw [List.length_append, List.length_append, List.length_append] at hs
   simp only [List.length_cons, List.length_nil] at hs
   have hw := wr ((rowP f).1 ++ [40]) (by rw [List.length_append]; simp only [List.length_cons, List.length_nil]; omega)
   rw [show B ((rowP f).1 ++ [40]) = B (rowP f).1 ++ (⟨#[40]⟩ : ByteArray) by rw [show (⟨#[40]⟩ : ByteArray) = B [40] from rfl, B_append]] at hw
   have hlen := fits_le hf
   have p := put_l l (by omega) (fun n hn => cput_ev N n (by have := count_mem hn; omega) (rights_mem hl hn)) l.length 0 (s ++ ((rowP f).1 ++ [40])) (Nat.zero_add _) (by
    rw [List.drop_zero]
    show (s ++ ((rowP f).1 ++ [40])).length + (argsT true l).length + 1 ≤ _
    rw [List.length_append, List.length_append]; simp only [List.length_cons, List.length_nil]; omega)
   rw [List.drop_zero] at p
   unfold Puts at p
   refine (f52h_eq 0 _ _ _ _ _ _ _ _ _ _ _ _ _ _ _ _).trans (im (show ¬ ((7 : Int) == 1) = true by decide) (im (show ¬ ((7 : Int) == 2) = true by decide) (im (show ¬ ((7 : Int) == 3) = true by decide) (im (show ¬ ((7 : Int) == 4) = true by decide) (im (show ¬ ((7 : Int) == 5) = true by decide) (im (show ¬ ((7 : Int) == 6) = true by decide) (ip rfl (cb (fname_ev f) rfl (ip ?_ (hb hw rfl rfl ?_))))))))))
   ·show (B (rowP f).1).size + 1 ≤ _; rw [B_size]; omega
   ·refine Eq.trans ?_ (p.trans ?_)
    ·rw [pvs_len]; rfl
    ·rw [List.append_assoc s]; rfl
theorem ctext_ev (n : Nod) (hok : n.ok) (ht : (texN n).length ≤ 1000000) : D 22 [n.pv] = some (.sc (.string (B (if n.rightN = true then texN n else [])))) := by
 have hr := right_ev n.count n (Nat.le_refl _) hok
 have hp := fun h => cput_ev n.count n (Nat.le_refl _) h [] (by simpa using ht)
 obtain ⟨kind, op, v, a, b, l⟩ := n
 refine (f22_eq 0 _ _ _ _ _ _ _ _ _ _ _ _ _ _ _).trans (cb hr rfl ?_)
 by_cases h : (Nod.mk kind op v a b l).rightN = true
 ·rw [if_pos h]
  refine im (by rw [h]; decide) (hb (hp h) rfl rfl ?_)
  exact hb (bstr_ev (texN (.mk kind op v a b l))) rfl rfl rfl
 ·have : (Nod.mk kind op v a b l).rightN = false := by simpa using h
  rw [if_neg h, this]
  exact ip rfl rfl
end Go.Den.ET
/- The program's parser. -/
set_option linter.unusedVariables false
set_option linter.unusedSimpArgs false
set_option maxRecDepth 100000
namespace Go.Den.ET
open Go Go.Proofs
abbrev stP (l : List Tk) (a : Int) (w : Bool) : PV := .hp [.iptr (.ptr 67 0 :: [.lst 4 l.length (fun i => (tp l).getD i .top), .sc (.int .i64 a), .sc (.bool w)])]
abbrev pp0 : PV := .ptr 0 0
def nilC (kind op : Int) (v : Vl) (a b : Rf) : PV := .agg [.sc (.int .i64 kind), .sc (.int .i64 op), .sc (.int .i64 v.kind), .sc (.int .i64 v.num), .sc (.string v.text), .sc (.int .i64 a.row), .sc (.int .i64 a.col), .sc (.bool a.hr), .sc (.bool a.hc), .sc (.int .i64 b.row), .sc (.int .i64 b.col), .sc (.bool b.hr), .sc (.bool b.hc), .nils]
def zN : Nod := .mk 0 0 zV zR zR []
/-- A node as a call answers it. -/
inductive WN : PV → Nod → Prop where
 | full (n : Nod) : WN n.pv n
 | bare (kind op : Int) (v : Vl) (a b : Rf) : WN (nilC kind op v a b) (.mk kind op v a b [])
theorem rb_wn {x : PV} {n : Nod} (h : WN x n) : rbN x = n.pv := by
 cases h with
 | full => exact rb_pv n
 | bare => rfl
theorem ret_wn {x : PV} {n : Nod} (h : WN x n) : retOk Tryz.prog 6 [29] x = true := by
 cases h with
 | full => cases n; rfl
 | bare => rfl
theorem now_ev {l : List Tk} {a : Nat} (h : a < l.length) (hl : l.length ≤ 1000000) (w : Bool) : D 42 [stP l (a : Int) w, pp0] = some (.tup [stP l (a : Int) w, tkp l[a]]) := by
 refine (f42h_eq 0 _ _ _ _).trans ?_
 have e : (if IntKind.i64.wrap ((l.length : Int) - 1) < (a : Int) then IntKind.i64.wrap ((l.length : Int) - 1) else (a : Int)) = (a : Int) := if_neg (by rw [w64 (by omega) (by omega)]; omega)
 rw [e, Int.toNat_natCast, tp_get h]
 exact ip (by omega) (ip (by omega) (ip rfl rfl))
theorem fail_ev (l : List Tk) (a : Int) (w : Bool) : D 182 [stP l a w, pp0] = some (.tup [stP l a true, nilC 0 0 zV zR zR]) := f182h_eq 0 _ _ _ _
theorem sgT_drop {x : List UInt8} {l : List Tk} {a : Nat} (h : a < l.length) : sgT x (l.drop a) = (l[a].kind == 4 && l[a].text == x) := by rw [List.drop_eq_getElem_cons h]; rfl
theorem sgn_ev {l : List Tk} {a : Nat} (h : a < l.length) (hl : l.length ≤ 1000000) (w : Bool) (x : List UInt8) : D 133 [stP l (a : Int) w, pp0, .sc (.string (B x))] = some (.tup [stP l ((if sgT x (l.drop a) = true then a + 1 else a : Nat) : Int) w, .sc (.bool (sgT x (l.drop a)))]) := by
 refine (f133h_eq 0 _ _ _ _ _).trans (hb (now_ev h hl w) rfl rfl ?_)
 rw [sgT_drop h]
 have e1 : (((l[a].kind : Nat) : Int) != 4) = !(l[a].kind == 4) := by
  rw [Bool.eq_iff_iff, bne_iff_ne, Bool.not_eq_true', beq_eq_false_iff_ne]; omega
 have e2 : ((B l[a].text).toList == (B x).toList) = (l[a].text == x) := by rw [B_toList, B_toList]
 show Option.bind (α := PV) (if (((l[a].kind : Nat) : Int) != 4) = true then some (.sc (.bool true)) else some (.sc (.bool (!((B l[a].text).toList == (B x).toList))))) _ = _
 rw [e1, e2, bO]
 by_cases hs : (l[a].kind == 4 && l[a].text == x) = true
 ·rw [if_pos hs, hs]
  have hc : (!(l[a].kind == 4) || !(l[a].text == x)) = false := by rw [← Bool.not_and, hs]; rfl
  rw [hc]
  refine im (by decide) ?_
  show some (PV.tup [.hp [.iptr (.ptr 67 0 :: [_, .sc (.int .i64 (IntKind.i64.wrap ((a : Int) + 1))), _])], _]) = _
  rw [nx h (by omega)]
  rfl
 ·have hs' : (l[a].kind == 4 && l[a].text == x) = false := by simpa using hs
  rw [if_neg hs, hs']
  have hc : (!(l[a].kind == 4) || !(l[a].text == x)) = true := by rw [← Bool.not_and, hs']; rfl
  rw [hc]
  exact ip rfl rfl
/-- What a goal answers. -/
def Out (l : List Tk) (u : Option PV) (o : PR) : Prop := match o with
 | some (n, r) => ∃ a' : Nat, a' < l.length ∧ l.drop a' = r ∧ ∃ x, WN x n ∧ u = some (.tup [stP l (a' : Int) false, x])
 | none => ∃ (a' : Int) (n : Nod) (x : PV), WN x n ∧ u = some (.tup [stP l a' true, x])
theorem Out.yes {l : List Tk} {u : Option PV} {n : Nod} {a' : Nat} {x : PV} (h : a' < l.length) (hx : WN x n) (e : u = some (.tup [stP l (a' : Int) false, x])) : Out l u (some (n, l.drop a')) := ⟨a', h, rfl, x, hx, e⟩
theorem Out.no {l : List Tk} {u : Option PV} {n : Nod} {a' : Int} {x : PV} (hx : WN x n) (e : u = some (.tup [stP l a' true, x])) : Out l u none := ⟨a', n, x, hx, e⟩
theorem Out.eq {l : List Tk} {u v : Option PV} {o : PR} (h : Out l v o) (e : u = v) : Out l u o := by rw [e]; exact h
/-- What is needed of tokens. -/
structure Okk (l : List Tk) : Prop where
 len : l.length ≤ 100000
 fin : ∀ (i : Nat) (h : i < l.length), l[i].kind ≠ 5 → i + 1 < l.length
 txt : ∀ (i : Nat) (h : i < l.length), l[i].text.length ≤ 1000000
theorem Okk.sg {l : List Tk} (h : Okk l) {a : Nat} (ha : a < l.length) {x : List UInt8} (hs : sgT x (l.drop a) = true) : a + 1 < l.length ∧ (l.drop a).tail = l.drop (a + 1) := by
 rw [sgT_drop ha, Bool.and_eq_true, beq_iff_eq] at hs
 exact ⟨h.fin a ha (by rw [hs.1]; decide), by rw [List.tail_drop]⟩
noncomputable abbrev lbG (l : List Tk) (k : Nat) (a0 : Int) (w : Bool) (c1 c1_1 c1_2 c1_3 : Int) (c1_4 : ByteArray) (c1_5 c1_6 : Int) (c1_7 c1_8 : Bool) (c1_9 c1_10 : Int) (c1_11 c1_12 : Bool) (n : Nod) : Option PV := match n with
 | .mk kind op v a b ch => f41h.l0b 0 (k : Int) l.length (fun i => (tp l).getD i .top) a0 w c1 c1_1 c1_2 c1_3 c1_4 c1_5 c1_6 c1_7 c1_8 c1_9 c1_10 c1_11 c1_12 kind op v.kind v.num v.text a.row a.col a.hr a.hc b.row b.col b.hr b.hc (pvs ch)
noncomputable abbrev lpB (l : List Tk) (k a0 : Nat) (c1 c1_1 c1_2 c1_3 : Int) (c1_4 : ByteArray) (c1_5 c1_6 : Int) (c1_7 c1_8 : Bool) (c1_9 c1_10 : Int) (c1_11 c1_12 : Bool) (n : Nod) : Option PV := lbG l k (a0 : Int) false c1 c1_1 c1_2 c1_3 c1_4 c1_5 c1_6 c1_7 c1_8 c1_9 c1_10 c1_11 c1_12 n
noncomputable abbrev lpR (l : List Tk) (a0 : Nat) (c1 c1_1 c1_2 c1_3 : Int) (c1_4 : ByteArray) (c1_5 c1_6 : Int) (c1_7 c1_8 : Bool) (c1_9 c1_10 : Int) (c1_11 c1_12 : Bool) (f : Int) (acc : List Nod) : Option PV := f207h.l0b 0 l.length (fun i => (tp l).getD i .top) (a0 : Int) false c1 c1_1 c1_2 c1_3 c1_4 c1_5 c1_6 c1_7 c1_8 c1_9 c1_10 c1_11 c1_12 7 f 0 0 EM 0 0 false false 0 0 false false (pvs acc)
theorem lp_ab (l : List Tk) (k : Nat) (a0 : Int) (w : Bool) (c1 c1_1 c1_2 c1_3 : Int) (c1_4 : ByteArray) (c1_5 c1_6 : Int) (c1_7 c1_8 : Bool) (c1_9 c1_10 : Int) (c1_11 c1_12 : Bool) (kind op : Int) (v : Vl) (a b : Rf) (ch : List Nod) :
  f41h.l0a 0 (k : Int) l.length (fun i => (tp l).getD i .top) a0 w c1 c1_1 c1_2 c1_3 c1_4 c1_5 c1_6 c1_7 c1_8 c1_9 c1_10 c1_11 c1_12 kind op v.kind v.num v.text a.row a.col a.hr a.hc b.row b.col b.hr b.hc (pvs ch).length (fun i => (pvs ch).getD i .top) = f41h.l0b 0 (k : Int) l.length (fun i => (tp l).getD i .top) a0 w c1 c1_1 c1_2 c1_3 c1_4 c1_5 c1_6 c1_7 c1_8 c1_9 c1_10 c1_11 c1_12 kind op v.kind v.num v.text a.row a.col a.hr a.hc b.row b.col b.hr b.hc (pvs ch) :=
 (f41h.l0a_eq 0 _ _ _ _ _ _ _ _ _ _ _ _ _ _ _ _ _ _ _ _ _ _ _ _ _ _ _ _ _ _ _ _ _).trans (f41h.l0b_eq 0 _ _ _ _ _ _ _ _ _ _ _ _ _ _ _ _ _ _ _ _ _ _ _ _ _ _ _ _ _ _ _ _).symm
theorem lr_ab (l : List Tk) (a0 : Nat) (c1 c1_1 c1_2 c1_3 : Int) (c1_4 : ByteArray) (c1_5 c1_6 : Int) (c1_7 c1_8 : Bool) (c1_9 c1_10 : Int) (c1_11 c1_12 : Bool) (f : Int) :
  f207h.l0a 0 l.length (fun i => (tp l).getD i .top) (a0 : Int) false c1 c1_1 c1_2 c1_3 c1_4 c1_5 c1_6 c1_7 c1_8 c1_9 c1_10 c1_11 c1_12 7 f 0 0 EM 0 0 false false 0 0 false false = lpR l a0 c1 c1_1 c1_2 c1_3 c1_4 c1_5 c1_6 c1_7 c1_8 c1_9 c1_10 c1_11 c1_12 f [] :=
 (f207h.l0a_eq 0 _ _ _ _ _ _ _ _ _ _ _ _ _ _ _ _ _ _ _ _ _ _ _ _ _ _ _ _ _ _).trans (f207h.l0b_eq 0 _ _ _ _ _ _ _ _ _ _ _ _ _ _ _ _ _ _ _ _ _ _ _ _ _ _ _ _ _ _ _).symm
structure AllF (l : List Tk) (F : Nat) : Prop where
 hB : ∀ k a, k ≤ 6 → a < l.length → need (.B k) (l.drop a) ≤ F → Out l (D 41 [stP l (a : Int) false, pp0, .sc (.int .i64 (k : Int))]) (pX fnumP F (.B k) (l.drop a))
 hL : ∀ k a n, k ≤ 5 → a < l.length → need (.L k n) (l.drop a) ≤ F → ∀ (c1 c1_1 c1_2 c1_3 : Int) (c1_4 : ByteArray) (c1_5 c1_6 : Int) (c1_7 c1_8 : Bool) (c1_9 c1_10 : Int) (c1_11 c1_12 : Bool), Out l (lpB l k a c1 c1_1 c1_2 c1_3 c1_4 c1_5 c1_6 c1_7 c1_8 c1_9 c1_10 c1_11 c1_12 n) (pX fnumP F (.L k n) (l.drop a))
 hS : ∀ a, a < l.length → need .S (l.drop a) ≤ F → Out l (D 79 [stP l (a : Int) false, pp0]) (pX fnumP F .S (l.drop a))
 hA : ∀ a, a < l.length → need .A (l.drop a) ≤ F → Out l (D 134 [stP l (a : Int) false, pp0]) (pX fnumP F .A (l.drop a))
 hW : ∀ a w, w.length ≤ 1000000 → a < l.length → need (.W w) (l.drop a) ≤ F → Out l (D 181 [stP l (a : Int) false, pp0, .sc (.string (B w))]) (pX fnumP F (.W w) (l.drop a))
 hR : ∀ a f acc, acc.length ≤ a → a < l.length → need (.R f acc) (l.drop a) ≤ F → ∀ (c1 c1_1 c1_2 c1_3 : Int) (c1_4 : ByteArray) (c1_5 c1_6 : Int) (c1_7 c1_8 : Bool) (c1_9 c1_10 : Int) (c1_11 c1_12 : Bool), Out l (lpR l a c1 c1_1 c1_2 c1_3 c1_4 c1_5 c1_6 c1_7 c1_8 c1_9 c1_10 c1_11 c1_12 f acc) (pX fnumP F (.R f acc) (l.drop a))
 hG : ∀ a, a < l.length → need .G (l.drop a) ≤ F → Out l (D 234 [stP l (a : Int) false, pp0]) (pX fnumP F .G (l.drop a))
theorem all_S {l : List Tk} (hk : Okk l) {F : Nat} (IH : AllF l F) (a : Nat) (ha : a < l.length) (hF : need .S (l.drop a) ≤ F + 1) : Out l (D 79 [stP l (a : Int) false, pp0]) (pX fnumP (F + 1) .S (l.drop a)) := by
 have hl := hk.len
 have hlen : (l.drop a).length = l.length - a := List.length_drop
 have h0 := sgn_ev ha (by omega) false [45]
 rw [pX]
 by_cases hs : sgT [45] (l.drop a) = true
 ·rw [if_pos hs]
  obtain ⟨h1, h2⟩ := hk.sg ha hs
  rw [if_pos hs, hs] at h0
  rw [h2]
  have hlen2 : (l.drop (a + 1)).length = l.length - (a + 1) := List.length_drop
  have ih := IH.hS (a + 1) h1 (by simp only [need] at hF ⊢; omega)
  generalize pX fnumP F .S (l.drop (a + 1)) = o at ih
  rcases o with _ | ⟨n, r⟩
  ·obtain ⟨a', n, x, hx, e⟩ := ih
   refine Out.no (a' := a') (n := negN n) (.full _) ((f79h_eq 0 _ _ _ _).trans (hb h0 rfl rfl (ip rfl (hb e rfl (ret_wn hx) ?_))))
   have := rb_wn hx
   show some (PV.tup [stP l a' true, .agg [.sc (.int .i64 5), .sc (.int .i64 0), .sc (.int .i64 0), .sc (.int .i64 0), .sc (.string EM), .sc (.int .i64 0), .sc (.int .i64 0), .sc (.bool false), .sc (.bool false), .sc (.int .i64 0), .sc (.int .i64 0), .sc (.bool false), .sc (.bool false), frozen 14 [rbN x]]]) = _
   rw [this]; rfl
  ·obtain ⟨a', ha', rfl, x, hx, e⟩ := ih
   refine Out.yes ha' (.full (negN n)) ((f79h_eq 0 _ _ _ _).trans (hb h0 rfl rfl (ip rfl (hb e rfl (ret_wn hx) ?_))))
   have := rb_wn hx
   show some (PV.tup [stP l a' false, .agg [.sc (.int .i64 5), .sc (.int .i64 0), .sc (.int .i64 0), .sc (.int .i64 0), .sc (.string EM), .sc (.int .i64 0), .sc (.int .i64 0), .sc (.bool false), .sc (.bool false), .sc (.int .i64 0), .sc (.int .i64 0), .sc (.bool false), .sc (.bool false), frozen 14 [rbN x]]]) = _
   rw [this]; rfl
 ·have hs' : sgT [45] (l.drop a) = false := by simpa using hs
  rw [if_neg hs]
  rw [if_neg hs, hs'] at h0
  have ih := IH.hA a ha (by simp only [need] at hF ⊢; omega)
  generalize pX fnumP F .A (l.drop a) = o at ih
  rcases o with _ | ⟨n, r⟩
  ·obtain ⟨a', n, x, hx, e⟩ := ih
   refine Out.no (a' := a') (n := n) (.full _) ((f79h_eq 0 _ _ _ _).trans (hb h0 rfl rfl (im Bool.false_ne_true (hb e rfl (ret_wn hx) ?_))))
   show some (PV.tup [stP l a' true, rbN x]) = _
   rw [rb_wn hx]
  ·obtain ⟨a', ha', rfl, x, hx, e⟩ := ih
   refine Out.yes ha' (.full n) ((f79h_eq 0 _ _ _ _).trans (hb h0 rfl rfl (im Bool.false_ne_true (hb e rfl (ret_wn hx) ?_))))
   show some (PV.tup [stP l a' false, rbN x]) = _
   rw [rb_wn hx]
theorem pass {l : List Tk} {u v : Option PV} {o : PR} (ih : Out l v o) (h : ∀ (a' : Int) (w : Bool) (x : PV) (n : Nod), WN x n → v = some (.tup [stP l a' w, x]) → u = some (.tup [stP l a' w, rbN x])) : Out l u o := by
 rcases o with _ | ⟨n, r⟩
 ·obtain ⟨a', n, x, hx, e⟩ := ih
  exact Out.no (a' := a') (.full n) ((h a' true x n hx e).trans (by rw [rb_wn hx]))
 ·obtain ⟨a', ha', rfl, x, hx, e⟩ := ih
  exact Out.yes ha' (.full n) ((h a' false x n hx e).trans (by rw [rb_wn hx]))
theorem ff : ¬ (false = true) := Bool.false_ne_true
theorem dlen (l : List Tk) (a : Nat) : (l.drop a).length = l.length - a := List.length_drop
theorem kq {n m : Nat} (h : n = m) : ((n : Int) == (m : Int)) = true := by rw [h]; exact beq_self_eq_true _
theorem kn {n m : Nat} (h : n ≠ m) : ¬ ((n : Int) == (m : Int)) = true := by rw [beq_iff_eq]; omega
theorem lb_wrong (l : List Tk) (k : Nat) (a0 : Int) (c1 c1_1 c1_2 c1_3 : Int) (c1_4 : ByteArray) (c1_5 c1_6 : Int) (c1_7 c1_8 : Bool) (c1_9 c1_10 : Int) (c1_11 c1_12 : Bool) (n : Nod) : lbG l k a0 true c1 c1_1 c1_2 c1_3 c1_4 c1_5 c1_6 c1_7 c1_8 c1_9 c1_10 c1_11 c1_12 n = some (.tup [stP l a0 true, n.pv]) := by
 obtain ⟨kind, op, v, a, b, ch⟩ := n
 exact (f41h.l0b_eq 0 _ _ _ _ _ _ _ _ _ _ _ _ _ _ _ _ _ _ _ _ _ _ _ _ _ _ _ _ _ _ _ _).trans (im ff rfl)
/-- The loop's start, from what a call answered. -/
theorem la_wn (l : List Tk) (k : Nat) (a0 : Int) (w : Bool) {x : PV} {n : Nod} (hx : WN x n) : f41h.l0a 0 (k : Int) l.length (fun i => (tp l).getD i .top) a0 w 0 0 0 0 EM 0 0 false false 0 0 false false ((cel 0 x.cells).toInt) ((cel 1 x.cells).toInt) ((cel 2 x.cells).toInt) ((cel 3 x.cells).toInt) ((cel 4 x.cells).toStr) ((cel 5 x.cells).toInt) ((cel 6 x.cells).toInt) ((cel 7 x.cells).toBool) ((cel 8 x.cells).toBool) ((cel 9 x.cells).toInt) ((cel 10 x.cells).toInt) ((cel 11 x.cells).toBool) ((cel 12 x.cells).toBool) ((cel 13 x.cells).len) ((cel 13 x.cells).at) =
 lbG l k a0 w 0 0 0 0 EM 0 0 false false 0 0 false false n := by
 cases hx with
 | full =>
  obtain ⟨kind, op, v, a, b, ch⟩ := n
  exact lp_ab l k a0 w 0 0 0 0 EM 0 0 false false 0 0 false false kind op v a b ch
 | bare kind op v a b =>
  exact lp_ab l k a0 w 0 0 0 0 EM 0 0 false false 0 0 false false kind op v a b []
theorem all_B {l : List Tk} (hk : Okk l) {F : Nat} (IH : AllF l F) (k a : Nat) (hk6 : k ≤ 6) (ha : a < l.length) (hF : need (.B k) (l.drop a) ≤ F + 1) : Out l (D 41 [stP l (a : Int) false, pp0, .sc (.int .i64 (k : Int))]) (pX fnumP (F + 1) (.B k) (l.drop a)) := by
 have hlen := dlen l a
 rw [pX]
 by_cases h5 : 5 < k
 ·rw [if_pos h5]
  refine pass (IH.hS a ha (by simp only [need] at hF ⊢; omega)) fun a' w x n hx e => ?_
  refine (f41h_eq 0 _ _ _ _ _).trans (ip (by rw [decide_eq_true_eq]; omega) (hb e rfl (ret_wn hx) ?_))
  rfl
 ·rw [if_neg h5]
  have ih := IH.hB (k + 1) a (by omega) ha (by simp only [need] at hF ⊢; omega)
  have ew : IntKind.i64.wrap ((k : Int) + 1) = ((k + 1 : Nat) : Int) := by rw [w64 (by omega) (by omega)]; omega
  have go : ∀ {a' : Int} {w : Bool} {x : PV} {n : Nod}, WN x n → D 41 [stP l (a : Int) false, pp0, .sc (.int .i64 ((k + 1 : Nat) : Int))] = some (.tup [stP l a' w, x]) → D 41 [stP l (a : Int) false, pp0, .sc (.int .i64 (k : Int))] = lbG l k a' w 0 0 0 0 EM 0 0 false false 0 0 false false n := by
   intro a' w x n hx e
   rw [← ew] at e
   refine (f41h_eq 0 _ _ _ _ _).trans (im (by rw [decide_eq_true_eq]; omega) (hb e rfl (ret_wn hx) ?_))
   exact la_wn l k a' w hx
  generalize hX : pX fnumP F (.B (k + 1)) (l.drop a) = o at ih
  rcases o with _ | ⟨n, r⟩
  ·obtain ⟨a', n, x, hx, e⟩ := ih
   refine Out.no (a' := a') (.full n) ((go hx e).trans ?_)
   exact lb_wrong l k a' 0 0 0 0 EM 0 0 false false 0 0 false false n
  ·obtain ⟨a', ha', rfl, x, hx, e⟩ := ih
   have hs := (pX_suf fnumP F _ _ _ _ hX).length_le
   have hlen2 := dlen l a'
   refine Out.eq (IH.hL k a' n (by omega) ha' (by simp only [need] at hF ⊢; omega) 0 0 0 0 EM 0 0 false false 0 0 false false) ((go hx e).trans ?_)
   rfl
theorem all_L {l : List Tk} (hk : Okk l) {F : Nat} (IH : AllF l F) (k a : Nat) (n : Nod) (hk5 : k ≤ 5) (ha : a < l.length) (hF : need (.L k n) (l.drop a) ≤ F + 1) (c1 c1_1 c1_2 c1_3 : Int) (c1_4 : ByteArray) (c1_5 c1_6 : Int) (c1_7 c1_8 : Bool) (c1_9 c1_10 : Int) (c1_11 c1_12 : Bool) : Out l (lpB l k a c1 c1_1 c1_2 c1_3 c1_4 c1_5 c1_6 c1_7 c1_8 c1_9 c1_10 c1_11 c1_12 n) (pX fnumP (F + 1) (.L k n) (l.drop a)) := by
 have hl := hk.len
 have hlen := dlen l a
 have hlen2 := dlen l (a + 1)
 obtain ⟨kind, op, v, ra, rb, ch⟩ := n
 have hd := List.drop_eq_getElem_cons ha
 rw [pX.eq_def]
 dsimp only
 rw [hd]
 dsimp only
 have h0 := now_ev ha (by omega) false
 have ew : IntKind.i64.wrap ((k : Int) + 1) = ((k + 1 : Nat) : Int) := by rw [w64 (by omega) (by omega)]; omega
 by_cases h4 : l[a].kind = 4
 ·have hl0 := lvls_ev k l[a].text
  by_cases hz : lvls k l[a].text = 0
  ·rw [if_neg (fun hh => hh.2 hz), ← hd]
   refine Out.yes ha (.full (.mk kind op v ra rb ch)) ((f41h.l0b_eq 0 _ _ _ _ _ _ _ _ _ _ _ _ _ _ _ _ _ _ _ _ _ _ _ _ _ _ _ _ _ _ _ _).trans (ip rfl (hb h0 rfl rfl (ip (kq h4) (hb h0 rfl rfl (cb hl0 rfl (ip ?_ ?_)))))))
   ·rw [hz]; rfl
   ·rfl
  ·rw [if_pos ⟨h4, hz⟩]
   have ha1 : a + 1 < l.length := hk.fin a ha (by rw [h4]; decide)
   have ih := IH.hB (k + 1) (a + 1) (by omega) ha1 (by simp only [need] at hF ⊢; omega)
   have go : ∀ {a' : Int} {w : Bool} {x : PV} {m : Nod}, WN x m → D 41 [stP l ((a + 1 : Nat) : Int) false, pp0, .sc (.int .i64 ((k + 1 : Nat) : Int))] = some (.tup [stP l a' w, x]) → lpB l k a c1 c1_1 c1_2 c1_3 c1_4 c1_5 c1_6 c1_7 c1_8 c1_9 c1_10 c1_11 c1_12 (.mk kind op v ra rb ch) = lbG l k a' w c1 c1_1 c1_2 c1_3 c1_4 c1_5 c1_6 c1_7 c1_8 c1_9 c1_10 c1_11 c1_12 (binN (lvls k l[a].text) (.mk kind op v ra rb ch) m) := by
    intro a' w x m hx e
    rw [← ew, ← nx ha (by omega)] at e
    refine (f41h.l0b_eq 0 _ _ _ _ _ _ _ _ _ _ _ _ _ _ _ _ _ _ _ _ _ _ _ _ _ _ _ _ _ _ _ _).trans (ip rfl (hb h0 rfl rfl (ip (kq h4) (hb h0 rfl rfl (cb hl0 rfl (im ?_ (hb e rfl (ret_wn hx) ?_)))))))
    ·show ¬ ((lvls k l[a].text : Int) == 0) = true
     rw [beq_iff_eq]; omega
    ·have := rb_wn hx
     show f41h.l0b 0 (k : Int) l.length (fun i => (tp l).getD i .top) a' w c1 c1_1 c1_2 c1_3 c1_4 c1_5 c1_6 c1_7 c1_8 c1_9 c1_10 c1_11 c1_12 6 (lvls k l[a].text : Nat) 0 0 EM 0 0 false false 0 0 false false [Nod.pv (.mk kind op v ra rb ch), rbN x] = _
     rw [this]; rfl
   generalize hX : pX fnumP F (.B (k + 1)) (l.drop (a + 1)) = o at ih
   rcases o with _ | ⟨m, r⟩
   ·obtain ⟨a', m, x, hx, e⟩ := ih
    refine Out.no (a' := a') (.full (binN (lvls k l[a].text) (.mk kind op v ra rb ch) m)) ((go hx e).trans ?_)
    exact lb_wrong l k a' c1 c1_1 c1_2 c1_3 c1_4 c1_5 c1_6 c1_7 c1_8 c1_9 c1_10 c1_11 c1_12 (binN (lvls k l[a].text) (.mk kind op v ra rb ch) m)
   ·obtain ⟨a', ha', rfl, x, hx, e⟩ := ih
    have hs := (pX_suf fnumP F _ _ _ _ hX).length_le
    have hlen3 := dlen l a'
    exact Out.eq (IH.hL k a' (binN (lvls k l[a].text) (.mk kind op v ra rb ch) m) hk5 ha' (by simp only [need] at hF ⊢; omega) c1 c1_1 c1_2 c1_3 c1_4 c1_5 c1_6 c1_7 c1_8 c1_9 c1_10 c1_11 c1_12) (go hx e)
 ·rw [if_neg (fun hh => h4 hh.1), ← hd]
  refine Out.yes ha (.full (.mk kind op v ra rb ch)) ((f41h.l0b_eq 0 _ _ _ _ _ _ _ _ _ _ _ _ _ _ _ _ _ _ _ _ _ _ _ _ _ _ _ _ _ _ _ _).trans (ip rfl (hb h0 rfl rfl (im (kn h4) ?_))))
  rfl
theorem nxa {l : List Tk} {a : Nat} (h : a < l.length) (hl : l.length ≤ 1000000) : IntKind.i64.wrap ((a : Int) + 1) = ((a + 1 : Nat) : Int) := nx h (by omega)
theorem sgn_y {l : List Tk} {a : Nat} (h : a < l.length) (hl : l.length ≤ 1000000) (w : Bool) (x : List UInt8) (hs : sgT x (l.drop a) = true) : D 133 [stP l (a : Int) w, pp0, .sc (.string (B x))] = some (.tup [stP l ((a + 1 : Nat) : Int) w, .sc (.bool true)]) := by
 have := sgn_ev h hl w x
 rw [if_pos hs, hs] at this
 exact this
theorem sgn_n {l : List Tk} {a : Nat} (h : a < l.length) (hl : l.length ≤ 1000000) (w : Bool) (x : List UInt8) (hs : ¬ sgT x (l.drop a) = true) : D 133 [stP l (a : Int) w, pp0, .sc (.string (B x))] = some (.tup [stP l (a : Int) w, .sc (.bool false)]) := by
 have hs' : sgT x (l.drop a) = false := by simpa using hs
 have := sgn_ev h hl w x
 rw [if_neg hs, hs'] at this
 exact this
theorem wn0 : WN (nilC 0 0 zV zR zR) zN := .bare 0 0 zV zR zR
theorem all_A {l : List Tk} (hk : Okk l) {F : Nat} (IH : AllF l F) (a : Nat) (ha : a < l.length) (hF : need .A (l.drop a) ≤ F + 1) : Out l (D 134 [stP l (a : Int) false, pp0]) (pX fnumP (F + 1) .A (l.drop a)) := by
 have hl : l.length ≤ 1000000 := by have := hk.len; omega
 have hlen := dlen l a
 have hlen2 := dlen l (a + 1)
 have hd := List.drop_eq_getElem_cons ha
 have h0 := now_ev ha hl false
 have ex := nxa ha hl
 rw [pX.eq_def]
 dsimp only
 rw [hd]
 dsimp only
 by_cases h1 : l[a].kind = 1
 ·rw [if_pos h1]
  refine Out.yes (hk.fin a ha (by rw [h1]; decide)) (.bare 1 0 ⟨1, l[a].num, EM⟩ zR zR) ((f134h_eq 0 _ _ _ _).trans (hb h0 rfl rfl (im ff (ip (kq h1) ?_))))
  rw [← ex]; rfl
 rw [if_neg h1]
 by_cases h2 : l[a].kind = 2
 ·rw [if_pos h2]
  refine Out.yes (hk.fin a ha (by rw [h2]; decide)) (.bare 1 0 ⟨2, 0, B l[a].text⟩ zR zR) ((f134h_eq 0 _ _ _ _).trans (hb h0 rfl rfl (im ff (im (kn h1) (ip (kq h2) ?_)))))
  rw [← ex]; rfl
 rw [if_neg h2]
 by_cases h3 : l[a].kind = 3
 ·rw [if_pos h3]
  have ha1 := hk.fin a ha (by rw [h3]; decide)
  refine pass (IH.hW (a + 1) l[a].text (hk.txt a ha) ha1 (by simp only [need] at hF ⊢; omega)) fun a' w x n hx e => ?_
  rw [← ex] at e
  refine (f134h_eq 0 _ _ _ _).trans (hb h0 rfl rfl (im ff (im (kn h1) (im (kn h2) (ip (kq h3) (hb e rfl (ret_wn hx) ?_))))))
  rfl
 rw [if_neg h3, ← hd]
 by_cases h4 : sgT [35, 82, 69, 70] (l.drop a) = true
 ·obtain ⟨ha1, ht⟩ := hk.sg ha h4
  rw [if_pos h4]
  refine Out.yes ha1 (.bare 2 0 zV zR zR) ((f134h_eq 0 _ _ _ _).trans (hb h0 rfl rfl (im ff (im (kn h1) (im (kn h2) (im (kn h3) (hb (sgn_y ha hl false _ h4) rfl rfl (ip rfl ?_))))))))
  rfl
 rw [if_neg h4]
 by_cases h5 : sgT [40] (l.drop a) = true
 ·obtain ⟨ha1, ht⟩ := hk.sg ha h5
  rw [if_pos h5]
  have ih := IH.hB 1 (a + 1) (by decide) ha1 (by simp only [need] at hF ⊢; omega)
  generalize hX : pX fnumP F (.B 1) (l.drop (a + 1)) = o at ih
  rcases o with _ | ⟨n, r⟩
  ·obtain ⟨a', n, x, hx, e⟩ := ih
   have e2 := fail_ev l a' true
   refine Out.no (a' := a') (.full zN) ((f134h_eq 0 _ _ _ _).trans (hb h0 rfl rfl (im ff (im (kn h1) (im (kn h2) (im (kn h3) (hb (sgn_n ha hl false _ h4) rfl rfl (im ff (hb (sgn_y ha hl false _ h5) rfl rfl (ip rfl (hb e rfl (ret_wn hx) (ip rfl (hb e2 rfl (ret_wn wn0) ?_)))))))))))))
   rfl
  ·obtain ⟨a', ha', rfl, x, hx, e⟩ := ih
   dsimp only
   by_cases h6 : sgT [41] (l.drop a') = true
   ·obtain ⟨ha2, ht2⟩ := hk.sg ha' h6
    rw [if_pos h6, ht2]
    refine Out.yes ha2 (.full n) ((f134h_eq 0 _ _ _ _).trans (hb h0 rfl rfl (im ff (im (kn h1) (im (kn h2) (im (kn h3) (hb (sgn_n ha hl false _ h4) rfl rfl (im ff (hb (sgn_y ha hl false _ h5) rfl rfl (ip rfl (hb e rfl (ret_wn hx) (im ff (hb (sgn_y ha' hl false _ h6) rfl rfl (im ff ?_))))))))))))))
    show some (PV.tup [stP l ((a' + 1 : Nat) : Int) false, rbN x]) = _
    rw [rb_wn hx]
   ·rw [if_neg h6]
    have e2 := fail_ev l (a' : Int) false
    refine Out.no (a' := (a' : Int)) (.full zN) ((f134h_eq 0 _ _ _ _).trans (hb h0 rfl rfl (im ff (im (kn h1) (im (kn h2) (im (kn h3) (hb (sgn_n ha hl false _ h4) rfl rfl (im ff (hb (sgn_y ha hl false _ h5) rfl rfl (ip rfl (hb e rfl (ret_wn hx) (im ff (hb (sgn_n ha' hl false _ h6) rfl rfl (ip rfl (hb e2 rfl (ret_wn wn0) ?_)))))))))))))))
    rfl
 ·rw [if_neg h5]
  have e2 := fail_ev l (a : Int) false
  refine Out.no (a' := (a : Int)) (.full zN) ((f134h_eq 0 _ _ _ _).trans (hb h0 rfl rfl (im ff (im (kn h1) (im (kn h2) (im (kn h3) (hb (sgn_n ha hl false _ h4) rfl rfl (im ff (hb (sgn_n ha hl false _ h5) rfl rfl (im ff (hb e2 rfl (ret_wn wn0) ?_)))))))))))
  rfl
theorem bEq (w : List UInt8) (y : ByteArray) (z : List UInt8) (h : y = B z) : ((B w).toList == y.toList) = decide (w = z) := by
 rw [h, B_toList, B_toList, Bool.eq_iff_iff, beq_iff_eq, decide_eq_true_iff]
theorem all_W {l : List Tk} (hk : Okk l) {F : Nat} (IH : AllF l F) (a : Nat) (w : List UInt8) (hw : w.length ≤ 1000000) (ha : a < l.length) (hF : need (.W w) (l.drop a) ≤ F + 1) : Out l (D 181 [stP l (a : Int) false, pp0, .sc (.string (B w))]) (pX fnumP (F + 1) (.W w) (l.drop a)) := by
 have hl : l.length ≤ 1000000 := by have := hk.len; omega
 have hlen := dlen l a
 have hlen2 := dlen l (a + 1)
 rw [pX]
 by_cases h1 : sgT [40] (l.drop a) = true
 ·obtain ⟨ha1, ht⟩ := hk.sg ha h1
  rw [if_pos h1, ht]
  have hv : Out l (D 207 [stP l ((a + 1 : Nat) : Int) false, pp0, .sc (.string (B w))]) (if sgT [41] (l.drop (a + 1)) = true then some (callN (fnumP w) [], (l.drop (a + 1)).tail) else pX fnumP F (.R (fnumP w) []) (l.drop (a + 1))) := by
   by_cases h2 : sgT [41] (l.drop (a + 1)) = true
   ·obtain ⟨ha2, ht2⟩ := hk.sg ha1 h2
    rw [if_pos h2, ht2]
    refine Out.yes ha2 (.bare 7 (fnumP w) zV zR zR) ((f207h_eq 0 _ _ _ _ _).trans (cb (fnum_ev w) rfl (hb (sgn_y ha1 hl false _ h2) rfl rfl (ip rfl ?_))))
    rfl
   ·rw [if_neg h2]
    refine Out.eq (IH.hR (a + 1) (fnumP w) [] (Nat.zero_le _) ha1 (by simp only [need] at hF ⊢; omega) 0 0 0 0 EM 0 0 false false 0 0 false false) ((f207h_eq 0 _ _ _ _ _).trans (cb (fnum_ev w) rfl (hb (sgn_n ha1 hl false _ h2) rfl rfl (im ff ?_))))
    exact lr_ab l (a + 1) 0 0 0 0 EM 0 0 false false 0 0 false false (fnumP w)
  refine pass hv fun a' b x n hx e => ?_
  refine (f181h_eq 0 _ _ _ _ _).trans (hb (sgn_y ha hl false _ h1) rfl rfl (ip rfl (hb e rfl (ret_wn hx) ?_)))
  rfl
 rw [if_neg h1]
 have c1 := bEq w (⟨#[84, 82, 85, 69]⟩ : ByteArray) wordL rfl
 have c2 := bEq w (⟨#[70, 65, 76, 83, 69]⟩ : ByteArray) wordF rfl
 have go : ∀ r, (if (decide (w = wordL) || decide (w = wordF)) = true then
   (if decide (w = wordL) = true then some (PV.tup [stP l (a : Int) false, nilC 1 0 ⟨3, 1, EM⟩ zR zR]) else some (PV.tup [stP l (a : Int) false, nilC 1 0 ⟨3, 0, EM⟩ zR zR]))
   else (D 14 [.sc (.string (B w))]).bind fun r4 => if hasSh (.tup [(.agg [(.int .i64), (.int .i64), .bool, .bool]), .bool]) r4 = true then
    (if (!((cel 1 r4.parts).toBool)) = true then
     (D 182 [stP l (a : Int) false, pp0]).bind fun r5 => if (isHand r5 && (false || objsOk fo182 (handObjs r5)) && retOk Tryz.prog 6 [29] (handRet r5)) = true then
      some (.tup [.hp [.iptr (.ptr 67 0 :: [.lst 4 ((hCell 0 0 r5).len) ((hCell 0 0 r5).at), .sc (.int .i64 (((hCell 0 1 r5).toInt))), .sc (.bool (((hCell 0 2 r5).toBool)))])], rbN (handRet r5)]) else none
    else some (.tup [stP l (a : Int) false, nilC 3 0 zV ⟨((cel 0 (cel 0 r4.parts).cells).toInt), ((cel 1 (cel 0 r4.parts).cells).toInt), ((cel 2 (cel 0 r4.parts).cells).toBool), ((cel 3 (cel 0 r4.parts).cells).toBool)⟩ zR])) else none) = r →
   D 181 [stP l (a : Int) false, pp0, .sc (.string (B w))] = r := by
  intro r hr
  refine (f181h_eq 0 _ _ _ _ _).trans (hb (sgn_n ha hl false _ h1) rfl rfl (im ff ?_))
  rw [c1, c2, bO]
  exact hr
 by_cases h2 : w = wordL
 ·rw [if_pos h2]
  refine Out.yes ha (.bare 1 0 ⟨3, 1, EM⟩ zR zR) (go _ (ip ?_ (ip (decide_eq_true h2) rfl)))
  rw [decide_eq_true h2]; rfl
 rw [if_neg h2]
 by_cases h3 : w = wordF
 ·rw [if_pos h3]
  refine Out.yes ha (.bare 1 0 ⟨3, 0, EM⟩ zR zR) (go _ (ip ?_ (im (by rw [decide_eq_false h2]; exact ff) rfl)))
  rw [decide_eq_true h3, Bool.or_true]
 rw [if_neg h3]
 have hc : ¬ (decide (w = wordL) || decide (w = wordF)) = true := by rw [decide_eq_false h2, decide_eq_false h3]; exact ff
 have hr := ref_ev w hw
 cases hR : refP w with
 | none =>
  rw [hR] at hr
  refine Out.no (a' := (a : Int)) (.full zN) (go _ (im hc (cb hr (refR_sh _) (ip rfl (hb (fail_ev l (a : Int) false) rfl (ret_wn wn0) ?_)))))
  rfl
 | some q =>
  rw [hR] at hr
  refine Out.yes ha (.bare 3 0 zV q zR) (go _ (im hc (cb hr (refR_sh _) (im ff ?_))))
  rfl
theorem all_G {l : List Tk} (hk : Okk l) {F : Nat} (IH : AllF l F) (a : Nat) (ha : a < l.length) (hF : need .G (l.drop a) ≤ F + 1) : Out l (D 234 [stP l (a : Int) false, pp0]) (pX fnumP (F + 1) .G (l.drop a)) := by
 have hl : l.length ≤ 1000000 := by have := hk.len; omega
 have hlen := dlen l a
 have hlen2 := dlen l (a + 1)
 have hd := List.drop_eq_getElem_cons ha
 have h0 := now_ev ha hl false
 have hr0 := ref_ev l[a].text (hk.txt a ha)
 have hj : Out l (f234h.j0a 0 l.length (fun i => (tp l).getD i .top) (a : Int) false 0 0 0 0 EM 0 0 false false 0 0 false false) (pX fnumP F (.B 1) (l.drop a)) := by
  refine pass (IH.hB 1 a (by decide) ha (by simp only [need] at hF ⊢; omega)) fun a' w x n hx e => ?_
  exact (f234h.j0a_eq 0 _ _ _ _ _ _ _ _ _ _ _ _ _ _ _ _ _).trans (hb e rfl (ret_wn hx) rfl)
 rw [pX]
 -- the two conditions as one
 have go : ∀ {o : Option Rf} {r : Option PV}, refP l[a].text = o → (if (((l[a].kind : Int) == 3) && (cel 1 (refR o).parts).toBool) = true then
   (D 133 [stP l (IntKind.i64.wrap ((a : Int) + 1)) false, pp0, .sc (.string (⟨#[58]⟩ : ByteArray))]).bind fun r5 => if (isHand r5 && (false || objsOk fo133 (handObjs r5)) && retOk Tryz.prog 6 [4] (handRet r5)) = true then
    (if (handRet r5).toBool = true then
     (D 42 [.hp [.iptr (.ptr 67 0 :: [.lst 4 ((hCell 0 0 r5).len) ((hCell 0 0 r5).at), .sc (.int .i64 (((hCell 0 1 r5).toInt))), .sc (.bool (((hCell 0 2 r5).toBool)))])], .ptr 0 0]).bind fun r6 => if (isHand r6 && (false || objsOk fo42 (handObjs r6)) && retOk Tryz.prog 6 [70] (handRet r6)) = true then
      (D 14 [.sc (.string (((cel 2 (handRet r6).cells).toStr)))]).bind fun r7 => if hasSh (.tup [(.agg [(.int .i64), (.int .i64), .bool, .bool]), .bool]) r7 = true then
      (D 42 [.hp [.iptr (.ptr 67 0 :: [.lst 4 ((hCell 0 0 r6).len) ((hCell 0 0 r6).at), .sc (.int .i64 (((hCell 0 1 r6).toInt))), .sc (.bool (((hCell 0 2 r6).toBool)))])], .ptr 0 0]).bind fun r8 => if (isHand r8 && (false || objsOk fo42 (handObjs r8)) && retOk Tryz.prog 6 [70] (handRet r8)) = true then
      (Option.bind (α := PV) (if (((cel 0 (handRet r8).cells).toInt) != 3) = true then some (.sc (.bool true)) else some (.sc (.bool (!((cel 1 r7.parts).toBool))))) fun r9 => if r9.toBool = true then
       (D 182 [.hp [.iptr (.ptr 67 0 :: [.lst 4 ((hCell 0 0 r8).len) ((hCell 0 0 r8).at), .sc (.int .i64 (((hCell 0 1 r8).toInt))), .sc (.bool (((hCell 0 2 r8).toBool)))])], .ptr 0 0]).bind fun r10 => if (isHand r10 && (false || objsOk fo182 (handObjs r10)) && retOk Tryz.prog 6 [29] (handRet r10)) = true then
        some (.tup [.hp [.iptr (.ptr 67 0 :: [.lst 4 ((hCell 0 0 r10).len) ((hCell 0 0 r10).at), .sc (.int .i64 (((hCell 0 1 r10).toInt))), .sc (.bool (((hCell 0 2 r10).toBool)))])], rbN (handRet r10)]) else none
      else
       some (.tup [.hp [.iptr (.ptr 67 0 :: [.lst 4 ((hCell 0 0 r8).len) ((hCell 0 0 r8).at), .sc (.int .i64 (IntKind.i64.wrap (((hCell 0 1 r8).toInt) + 1))), .sc (.bool (((hCell 0 2 r8).toBool)))])], nilC 4 0 zV ⟨((cel 0 (cel 0 (refR o).parts).cells).toInt), ((cel 1 (cel 0 (refR o).parts).cells).toInt), ((cel 2 (cel 0 (refR o).parts).cells).toBool), ((cel 3 (cel 0 (refR o).parts).cells).toBool)⟩ ⟨((cel 0 (cel 0 r7.parts).cells).toInt), ((cel 1 (cel 0 r7.parts).cells).toInt), ((cel 2 (cel 0 r7.parts).cells).toBool), ((cel 3 (cel 0 r7.parts).cells).toBool)⟩])) else none else none else none
    else f234h.j0a 0 ((hCell 0 0 r5).len) ((hCell 0 0 r5).at) (IntKind.i64.wrap (((hCell 0 1 r5).toInt) - 1)) ((hCell 0 2 r5).toBool) 0 0 0 0 EM 0 0 false false 0 0 false false) else none
   else f234h.j0a 0 l.length (fun i => (tp l).getD i .top) (a : Int) false 0 0 0 0 EM 0 0 false false 0 0 false false) = r → D 234 [stP l (a : Int) false, pp0] = r := by
  intro o r ho hr
  rw [ho] at hr0
  refine (f234h_eq 0 _ _ _ _).trans (hb h0 rfl rfl (cb hr0 (refR_sh _) (hb h0 rfl rfl ?_)))
  rw [bA]
  exact hr
 have ex := nxa ha hl
 by_cases h3 : l[a].kind = 3
 ·have ha1 := hk.fin a ha (by rw [h3]; decide)
  cases hR : refP l[a].text with
  | none =>
   have hn : rngP (l.drop a) = none := by
    rw [hd]; unfold rngP; dsimp only; rw [if_pos h3, hR]
   rw [hn]
   refine Out.eq hj (go hR (im ?_ rfl))
   show ¬ (((l[a].kind : Int) == 3) && false) = true
   rw [Bool.and_false]; exact ff
  | some q =>
   have hc : (((l[a].kind : Int) == 3) && (cel 1 (refR (some q)).parts).toBool) = true := by rw [show ((l[a].kind : Int) == 3) = true from kq h3]; rfl
   by_cases hs : sgT [58] (l.drop (a + 1)) = true
   ·obtain ⟨ha2, ht2⟩ := hk.sg ha1 hs
    have hd2 := List.drop_eq_getElem_cons ha2
    have e5 := sgn_y ha1 hl false _ hs
    rw [← ex] at e5
    have h8 := now_ev ha2 hl false
    have hr2 := ref_ev l[a + 1 + 1].text (hk.txt _ ha2)
    have hn : rngP (l.drop a) = some (if l[a + 1 + 1].kind = 3 then (refP l[a + 1 + 1].text).map (fun b => (rangeN q b, l.drop (a + 1 + 1 + 1))) else none) := by
     rw [hd]; unfold rngP; dsimp only; rw [if_pos h3, hR]
     dsimp only
     rw [if_pos hs, ht2, hd2]
    rw [hn]
    dsimp only
    by_cases h33 : l[a + 1 + 1].kind = 3
    ·rw [if_pos h33]
     cases hR2 : refP l[a + 1 + 1].text with
     | none =>
      rw [hR2] at hr2
      refine Out.no (a' := ((a + 1 + 1 : Nat) : Int)) (.full zN) (go hR (ip hc (hb e5 rfl rfl (ip rfl (hb h8 rfl rfl (cb hr2 (refR_sh _) (hb h8 rfl rfl ?_)))))))
      rw [bO]
      refine ip ?_ (hb (fail_ev l _ false) rfl (ret_wn wn0) ?_)
      ·show (((l[a + 1 + 1].kind : Int) != 3) || true) = true
       rw [Bool.or_true]
      ·rfl
     | some p =>
      rw [hR2] at hr2
      refine Out.yes (hk.fin _ ha2 (by rw [h33]; decide)) (.bare 4 0 zV q p) (go hR (ip hc (hb e5 rfl rfl (ip rfl (hb h8 rfl rfl (cb hr2 (refR_sh _) (hb h8 rfl rfl ?_)))))))
      rw [bO]
      refine im ?_ ?_
      ·show ¬ (((l[a + 1 + 1].kind : Int) != 3) || false) = true
       rw [h33]; decide
      ·rw [← nxa ha2 hl]; rfl
    ·rw [if_neg h33]
     refine Out.no (a' := ((a + 1 + 1 : Nat) : Int)) (.full zN) (go hR (ip hc (hb e5 rfl rfl (ip rfl (hb h8 rfl rfl (cb hr2 (refR_sh _) (hb h8 rfl rfl ?_)))))))
     rw [bO]
     refine ip ?_ (hb (fail_ev l _ false) rfl (ret_wn wn0) ?_)
     ·show (((l[a + 1 + 1].kind : Int) != 3) || _) = true
      rw [show ((l[a + 1 + 1].kind : Int) != 3) = true by rw [bne_iff_ne]; omega]; rfl
     ·rfl
   ·have e5 := sgn_n ha1 hl false _ hs
    rw [← ex] at e5
    have hn : rngP (l.drop a) = none := by
     rw [hd]; unfold rngP; dsimp only; rw [if_pos h3, hR]
     dsimp only
     rw [if_neg hs]
    rw [hn]
    refine Out.eq hj (go hR (ip hc (hb e5 rfl rfl (im ff ?_))))
    show f234h.j0a 0 l.length (fun i => (tp l).getD i .top) (IntKind.i64.wrap (IntKind.i64.wrap ((a : Int) + 1) - 1)) false 0 0 0 0 EM 0 0 false false 0 0 false false = _
    rw [ex, show ((a + 1 : Nat) : Int) - 1 = (a : Int) by omega, w64 (by omega) (by omega)]
 ·have hn : rngP (l.drop a) = none := by
   rw [hd]; unfold rngP; dsimp only; rw [if_neg h3]
  rw [hn]
  refine Out.eq hj (go rfl (im ?_ rfl))
  rw [show ((l[a].kind : Int) == 3) = false by rw [beq_eq_false_iff_ne]; omega]; exact ff
theorem all_R {l : List Tk} (hk : Okk l) {F : Nat} (IH : AllF l F) (a : Nat) (f : Int) (acc : List Nod) (hac : acc.length ≤ a) (ha : a < l.length) (hF : need (.R f acc) (l.drop a) ≤ F + 1) (c1 c1_1 c1_2 c1_3 : Int) (c1_4 : ByteArray) (c1_5 c1_6 : Int) (c1_7 c1_8 : Bool) (c1_9 c1_10 : Int) (c1_11 c1_12 : Bool) : Out l (lpR l a c1 c1_1 c1_2 c1_3 c1_4 c1_5 c1_6 c1_7 c1_8 c1_9 c1_10 c1_11 c1_12 f acc) (pX fnumP (F + 1) (.R f acc) (l.drop a)) := by
 have hll := hk.len
 have hl : l.length ≤ 1000000 := by omega
 have hlen := dlen l a
 rw [pX]
 have ih := IH.hG a ha (by simp only [need] at hF ⊢; omega)
 have hsz : ∀ x : PV, ((pvs acc).length + ([x] : List PV).length) * 120 ≤ 140737488355328 ∧ (pvs acc).length + ([x] : List PV).length ≤ 140737488355328 := by
  intro x
  rw [pvs_len]
  simp only [List.length_cons, List.length_nil]
  omega
 generalize hX : pX fnumP F .G (l.drop a) = o at ih
 rcases o with _ | ⟨n, r⟩
 ·obtain ⟨a', n, x, hx, e⟩ := ih
  refine Out.no (a' := a') (.bare 0 0 zV zR zR) ((f207h.l0b_eq 0 _ _ _ _ _ _ _ _ _ _ _ _ _ _ _ _ _ _ _ _ _ _ _ _ _ _ _ _ _ _ _).trans (hb e rfl (ret_wn hx) (ip (hsz _) (ip rfl ?_))))
  rfl
 ·obtain ⟨a', ha', rfl, x, hx, e⟩ := ih
  dsimp only
  have hs := (pX_suf fnumP F _ _ _ _ hX).length_le
  have hlen3 := dlen l a'
  have hx2 := rb_wn hx
  by_cases h1 : sgT [41] (l.drop a') = true
  ·obtain ⟨ha1, ht⟩ := hk.sg ha' h1
   rw [if_pos h1, ht]
   refine Out.yes ha1 (.full (callN f (acc ++ [n]))) ((f207h.l0b_eq 0 _ _ _ _ _ _ _ _ _ _ _ _ _ _ _ _ _ _ _ _ _ _ _ _ _ _ _ _ _ _ _).trans (hb e rfl (ret_wn hx) (ip (hsz _) (im ff (hb (sgn_y ha' hl false _ h1) rfl rfl (ip rfl ?_))))))
   show some (PV.tup [stP l ((a' + 1 : Nat) : Int) false, .agg [.sc (.int .i64 7), .sc (.int .i64 f), .sc (.int .i64 0), .sc (.int .i64 0), .sc (.string EM), .sc (.int .i64 0), .sc (.int .i64 0), .sc (.bool false), .sc (.bool false), .sc (.int .i64 0), .sc (.int .i64 0), .sc (.bool false), .sc (.bool false), frozen 14 (pvs acc ++ [rbN x])]]) = some (PV.tup [stP l ((a' + 1 : Nat) : Int) false, .agg [.sc (.int .i64 7), .sc (.int .i64 f), .sc (.int .i64 0), .sc (.int .i64 0), .sc (.string EM), .sc (.int .i64 0), .sc (.int .i64 0), .sc (.bool false), .sc (.bool false), .sc (.int .i64 0), .sc (.int .i64 0), .sc (.bool false), .sc (.bool false), frozen 14 (pvs (acc ++ [n]))]])
   rw [hx2, pvs_app]; rfl
  ·rw [if_neg h1]
   by_cases h2 : sgT [44] (l.drop a') = true
   ·obtain ⟨ha1, ht⟩ := hk.sg ha' h2
    rw [if_pos h2, ht]
    have hlen4 := dlen l (a' + 1)
    refine Out.eq (IH.hR (a' + 1) f (acc ++ [n]) (by rw [List.length_append]; simp only [List.length_cons, List.length_nil]; omega) ha1 (by simp only [need] at hF ⊢; omega) c1 c1_1 c1_2 c1_3 c1_4 c1_5 c1_6 c1_7 c1_8 c1_9 c1_10 c1_11 c1_12) ((f207h.l0b_eq 0 _ _ _ _ _ _ _ _ _ _ _ _ _ _ _ _ _ _ _ _ _ _ _ _ _ _ _ _ _ _ _).trans (hb e rfl (ret_wn hx) (ip (hsz _) (im ff (hb (sgn_n ha' hl false _ h1) rfl rfl (im ff (hb (sgn_y ha' hl false _ h2) rfl rfl (im ff ?_))))))))
    show f207h.l0b 0 l.length (fun i => (tp l).getD i .top) ((a' + 1 : Nat) : Int) false c1 c1_1 c1_2 c1_3 c1_4 c1_5 c1_6 c1_7 c1_8 c1_9 c1_10 c1_11 c1_12 7 f 0 0 EM 0 0 false false 0 0 false false (pvs acc ++ [rbN x]) = f207h.l0b 0 l.length (fun i => (tp l).getD i .top) ((a' + 1 : Nat) : Int) false c1 c1_1 c1_2 c1_3 c1_4 c1_5 c1_6 c1_7 c1_8 c1_9 c1_10 c1_11 c1_12 7 f 0 0 EM 0 0 false false 0 0 false false (pvs (acc ++ [n]))
    rw [hx2, pvs_app]; rfl
   ·rw [if_neg h2]
    refine Out.no (a' := (a' : Int)) (.full zN) ((f207h.l0b_eq 0 _ _ _ _ _ _ _ _ _ _ _ _ _ _ _ _ _ _ _ _ _ _ _ _ _ _ _ _ _ _ _).trans (hb e rfl (ret_wn hx) (ip (hsz _) (im ff (hb (sgn_n ha' hl false _ h1) rfl rfl (im ff (hb (sgn_n ha' hl false _ h2) rfl rfl (ip rfl (hb (fail_ev l _ false) rfl (ret_wn wn0) ?_)))))))))
    rfl
theorem all_F {l : List Tk} (hk : Okk l) : ∀ F, AllF l F
 | 0 => ⟨fun k a h6 ha hF => by simp only [need] at hF; omega, fun k a n h5 ha hF => by simp only [need] at hF; omega, fun a ha hF => by simp only [need] at hF; omega, fun a ha hF => by simp only [need] at hF; omega, fun a w hw ha hF => by simp only [need] at hF; omega, fun a f acc hac ha hF => by simp only [need] at hF; omega, fun a ha hF => by simp only [need] at hF; omega⟩
 | F + 1 => ⟨all_B hk (all_F hk F), all_L hk (all_F hk F), all_S hk (all_F hk F), all_A hk (all_F hk F), all_W hk (all_F hk F), all_R hk (all_F hk F), all_G hk (all_F hk F)⟩
end Go.Den.ET
/- Parse, by the program. -/
set_option linter.unusedVariables false
set_option linter.unusedSimpArgs false
set_option maxRecDepth 100000
namespace Go.Den.ET
open Go Go.Proofs
theorem okk_of {s : List UInt8} {l : List Tk} (hs : s.length ≤ 1000) (h : lexL 0 s = .inr l) : Okk l := by
 obtain ⟨h1, h2, h3, h4, _⟩ := lex_okk s.length 0 s l (Nat.le_refl _) (by omega) h
 exact ⟨by omega, h4, fun i hi => (h1 _ (List.getElem_mem hi)).1⟩
def parV (r : Option Nod × Int) : PV := match r.1 with
 | some n => .tup [n.pv, .sc (.int .i64 r.2)]
 | none => .tup [nilC 0 0 zV zR zR, .sc (.int .i64 r.2)]
theorem prs_ev (s : List UInt8) : D 12 [.sc (.string (B s))] = some (parV (parE s)) := by
 rw [f12_eq 0]
 have hx := lex_ev s
 unfold lexS at hx
 unfold parE
 by_cases h200 : s.length ≤ 200
 ·rw [if_pos h200] at hx ⊢
  cases hL : lexL 0 s with
  | inl e =>
   rw [hL] at hx
   exact cb hx rfl (ip rfl rfl)
  | inr l =>
   rw [hL] at hx
   dsimp only
   have hk := okk_of (by omega) hL
   obtain ⟨h1, h2, h3, h4, _⟩ := lex_okk s.length 0 s l (Nat.le_refl _) (by omega) hL
   have hl : 0 < l.length := List.length_pos_iff.2 h3
   have o1 := (all_F hk (need (.B 1) l)).hB 1 0 (by decide) hl (by rw [List.drop_zero]; exact Nat.le_refl _)
   rw [List.drop_zero] at o1
   refine cb hx (by simp [lexR, hasSh, hasShL, frozen, PV.isLst, PV.isInt, okR]) (im (by show ¬ (((0 : Int) != 0) = true); decide) ?_)
   have fix : ∀ {u : Option PV}, D 41 [stP l ((0 : Nat) : Int) false, pp0, .sc (.int .i64 ((1 : Nat) : Int))] = u → D 41 [.hp [.iptr (.ptr 67 0 :: [.lst 4 ((cel 0 (lexR [] (.inr l)).parts).len) ((cel 0 (lexR [] (.inr l)).parts).at), .sc (.int .i64 0), .sc (.bool false)])], .ptr 0 0, .sc (.int .i64 1)] = u := by
    intro u hu
    rw [← hu]
    show D _ [.hp [.iptr (.ptr 67 0 :: [.lst 4 (tp ([] ++ l)).length (fun i => (tp ([] ++ l)).getD i .top), .sc (.int .i64 0), .sc (.bool false)])], .ptr 0 0, .sc (.int .i64 1)] = _
    rw [List.nil_append, tp_len]; rfl
   cases hX : pX fnumP (need (.B 1) l) (.B 1) l with
   | none =>
    rw [hX] at o1
    obtain ⟨a', n, x, hw, e⟩ := o1
    exact hb (fix e) rfl (ret_wn hw) (ip rfl rfl)
   | some nr =>
    obtain ⟨n, r⟩ := nr
    rw [hX] at o1
    obtain ⟨a', ha', rfl, x, hw, e⟩ := o1
    have hok := pX_ok fnumP _ _ _ _ _ h1 (by omega) hX (show l.length ≤ 1000000 by omega)
    rw [List.drop_eq_getElem_cons ha']
    dsimp only
    have h0 := now_ev ha' (by omega) false
    refine hb (fix e) rfl (ret_wn hw) (im ff (hb h0 rfl rfl ?_))
    by_cases h5 : l[a'].kind = 5
    ·rw [if_pos h5]
     refine im (by show ¬ (((l[a'].kind : Nat) : Int) != 5) = true; rw [h5]; decide) ?_
     have hr := right_ev n.count n (Nat.le_refl _) hok
     have hlen6 : (texN n).length ≤ 200 := by
      have h2 : lenK 1 n + sl (l.drop a') ≤ sl l := pX_len _ _ _ _ _ hX (by decide)
      have h3 : sl l ≤ s.length := lex_src s.length 0 s l (Nat.le_refl _) hL
      rw [len_1] at h2
      omega
     have hrb := rb_wn hw
     rw [← hrb] at hr
     refine cb hr rfl ?_
     by_cases hrt : n.rightN = true
     ·rw [if_pos hrt]
      refine im (by rw [hrt]; decide) ?_
      have hd0 : n.deep ≤ 1000000000000 := by have := deep_le n; have := count_tex hrt; omega
      have hd := ndeep_ev n.count n (Nat.le_refl _) hok hd0
      rw [← hrb] at hd
      refine cb hd rfl ?_
      by_cases h12 : n.deep ≤ 12
      ·rw [if_pos h12]
       refine im (by show ¬ decide (((n.deep : Nat) : Int) > 12) = true; rw [decide_eq_true_eq]; omega) ?_
       show some (PV.tup [rbN x, .sc (.int .i64 0)]) = _
       rw [hrb]; rfl
      ·rw [if_neg h12]
       exact ip (by show decide (((n.deep : Nat) : Int) > 12) = true; rw [decide_eq_true_eq]; omega) rfl
     ·rw [if_neg hrt]
      have : n.rightN = false := by simpa using hrt
      rw [this]
      exact ip rfl rfl
    ·rw [if_neg h5]
     exact ip (by show (((l[a'].kind : Nat) : Int) != 5) = true; rw [bne_iff_ne]; omega) rfl
 ·rw [if_neg h200] at hx ⊢
  exact cb hx rfl (ip rfl rfl)
end Go.Den.ET
/- What is parsed of texts that are known; alive. -/
set_option linter.unusedVariables false
set_option linter.unusedSimpArgs false
set_option maxRecDepth 100000
namespace Go.Den.ET
open Go Go.Proofs
/-- The lexer, with a measure. -/
def lexF : Nat → Nat → List UInt8 → Nat ⊕ List Tk
 | _, a, [] => .inr [⟨5, a, [], 0⟩]
 | 0, a, _ :: _ => .inl a
 | F + 1, a, b :: l => if b = 32 then lexF F (a + 1) l else match nextL (b :: l) with
  | none => .inl a
  | some (t, n) => match lexF F (a + n) ((b :: l).drop n) with
   | .inl e => .inl e
   | .inr r => .inr (t.put a :: r)
theorem lexF_eq : ∀ (F a : Nat) (s : List UInt8), s.length ≤ F → lexF F a s = lexL a s
 | _, a, [], _ => by rw [lexL_nil]; unfold lexF; rfl
 | 0, a, b :: s, h => by simp at h
 | F + 1, a, b :: s, h => by
  rw [lexF]
  by_cases hb : b = 32
  ·rw [if_pos hb, lexF_eq F _ _ (by simp at h; omega), hb, lexL_blank]
  ·rw [if_neg hb]
   cases hn : nextL (b :: s) with
   | none => rw [lexL_bad hb hn]
   | some r =>
    obtain ⟨t, n⟩ := r
    obtain ⟨n0, n1⟩ := next_le hn
    rw [lexL_tok hb hn]
    dsimp only
    have hlen : ((b :: s).drop n).length = (b :: s).length - n := List.length_drop
    rw [lexF_eq F _ _ (by rw [hlen]; simp at h ⊢; omega)]
    all_goals rfl
def parF (s : List UInt8) : Option Nod × Int := if s.length ≤ 200 then (match lexF s.length 0 s with
  | .inl _ => (none, 1)
  | .inr l => match pX fnumP (need (.B 1) l) (.B 1) l with
   | some (n, e :: _) => if e.kind = 5 then (if n.rightN = true then (if n.deep ≤ 12 then (some n, 0) else (none, 4)) else (none, 6)) else (none, 1)
   | _ => (none, 1)) else (none, 3)
theorem parE_F (s : List UInt8) : parE s = parF s := by
 unfold parE parF
 rw [lexF_eq _ _ _ (Nat.le_refl _)]
 all_goals rfl
theorem prsF (s : List UInt8) : D 12 [.sc (.string (B s))] = some (parV (parF s)) := by rw [prs_ev, parE_F]
end Go.Den.ET
/- Brackets around formulas: the plain part. -/
set_option linter.unusedVariables false
set_option linter.unusedSimpArgs false
namespace Go.Den
open Go Go.Proofs
end Go.Den
/- alive, of the canon's laws; the parse of a text, again. -/
set_option linter.unusedVariables false
set_option linter.unusedSimpArgs false
set_option maxRecDepth 100000
namespace Go.Den.ET
open Go Go.Proofs
def nod24 : Nod := binN 6 (binN 3 (binN 1 (litN ⟨1, 10000, ⟨#[]⟩⟩) (litN ⟨1, 20000, ⟨#[]⟩⟩)) (negN (binN 2 (oneN ⟨0, 0, true, false⟩) (binN 2 (oneN ⟨1, 1, false, false⟩) (litN ⟨1, 30000, ⟨#[]⟩⟩))))) (callN 67 [litN ⟨1, 40000, ⟨#[]⟩⟩, rangeN ⟨2, 2, false, true⟩ ⟨3, 3, false, false⟩])
theorem nod24_r : nod24.rightN = true := by kernel_rfl
theorem nod24_t : texN nod24 = [40, 49, 43, 50, 41, 42, 45, 40, 65, 36, 49, 45, 40, 66, 50, 45, 51, 41, 41, 38, 83, 85, 77, 40, 52, 44, 36, 67, 51, 58, 68, 52, 41] := by kernel_rfl
theorem ok_num {x : Int} (h : 0 ≤ x ∧ x ≤ 1000000) : (litN ⟨1, x, ⟨#[]⟩⟩).ok := ok_lit 1 x ⟨#[]⟩ (by decide) (by unfold I64; omega)
theorem nod24_o : nod24.ok := ok_bin (ok_bin (ok_bin (ok_num (by omega)) (ok_num (by omega))) (ok_neg (ok_bin (ok_0 _ _ _ _) (ok_bin (ok_0 _ _ _ _) (ok_num (by omega)))))) (ok_call ⟨ok_num (by omega), ok_0 _ _ _ _, trivial⟩ (by decide))
theorem nod24_p : parF [32, 40, 49, 43, 40, 50, 41, 41, 42, 45, 40, 65, 36, 49, 45, 40, 66, 50, 45, 51, 41, 41, 32, 38, 32, 83, 85, 77, 40, 32, 40, 52, 41, 32, 44, 32, 36, 67, 51, 58, 68, 52, 32, 41] = (some nod24, 0) := by kernel_rfl
theorem ob2 {u : Option PV} {b : Bool} {F : PV → Option PV} {r : Option PV} (h : u = some (.sc (.bool b))) (h2 : F (.sc (.bool b)) = r) : Option.bind u F = r := by subst h; exact h2
theorem alive24_ev : D 21 [] = some (.sc (.bool true)) := by
 rw [f21_eq 0]
 have e1 := prsF [32, 40, 49, 43, 40, 50, 41, 41, 42, 45, 40, 65, 36, 49, 45, 40, 66, 50, 45, 51, 41, 41, 32, 38, 32, 83, 85, 77, 40, 32, 40, 52, 41, 32, 44, 32, 36, 67, 51, 58, 68, 52, 32, 41]
 rw [nod24_p] at e1
 have e2 := ctext_ev nod24 nod24_o (by rw [nod24_t]; decide)
 rw [if_pos nod24_r, nod24_t, ← rb_pv] at e2
 have e3 := cref_ev ⟨9, 27, false, true⟩
 have e4 : refD ⟨9, 27, false, true⟩ = [36, 65, 66, 49, 48] := by kernel_rfl
 rw [e4] at e3
 have q : ∀ l : List UInt8, ((B l).toList == (⟨l.toArray⟩ : ByteArray).toList) = true := fun l => beq_self_eq_true _
 refine cb e1 rfl (ob2 (b := true) (ip rfl (ob2 (b := true) (cb e2 rfl ?_) rfl)) (ob2 (b := true) (ip rfl (ob2 (b := true) (cb e3 rfl ?_) rfl)) rfl))
 ·exact congrArg (fun z => some (PV.sc (.bool z))) (q [40, 49, 43, 50, 41, 42, 45, 40, 65, 36, 49, 45, 40, 66, 50, 45, 51, 41, 41, 38, 83, 85, 77, 40, 52, 44, 36, 67, 51, 58, 68, 52, 41])
 ·exact congrArg (fun z => some (PV.sc (.bool z))) (q [36, 65, 66, 49, 48])
end Go.Den.ET
