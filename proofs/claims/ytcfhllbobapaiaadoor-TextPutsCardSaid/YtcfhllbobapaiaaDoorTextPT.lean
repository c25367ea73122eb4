/- What is put in the place of a text; what is repeated: the law. -/
import Derived.Test.YtcfhllbobapaiaaDoorFoldAT
import Derived.Test.YtcfhllbobapaiaaDoorTyT
import Derived.Lib.Replace
set_option linter.unusedVariables false
set_option linter.unusedSimpArgs false
set_option maxRecDepth 100000
namespace Go.Den.ET
open Go Go.Proofs
theorem alive14_ev : D 47 [] = some (.sc (.bool true)) := denI_of (k := 80) (by kernel_rfl)
theorem idx_cons (b : UInt8) (l o : List UInt8) (h : o.isPrefixOf (b :: l) = false) : (Lib.index l o = -1 ∧ Lib.index (b :: l) o = -1) ∨ ∃ i : Nat, Lib.index l o = i ∧ Lib.index (b :: l) o = ((i + 1 : Nat) : Int) := by
  have e : Lib.index (b :: l) o = if Lib.index l o == -1 then -1 else Lib.index l o + 1 := by
    conv => lhs; unfold Lib.index
    rw [if_neg (by rw [h]; decide)]
  have hg := Lib.index_ge l o
  by_cases hm : Lib.index l o = -1
  · exact .inl ⟨hm, by rw [e, hm]; rfl⟩
  · refine .inr ⟨(Lib.index l o).toNat, by omega, ?_⟩
    rw [e, if_neg (by simpa using hm)]; omega
theorem idx_hit (b : UInt8) (l o : List UInt8) (h : o.isPrefixOf (b :: l) = true) : Lib.index (b :: l) o = ((0 : Nat) : Int) := by
  unfold Lib.index
  rw [if_pos h]; rfl
theorem cnt_hit {b : UInt8} {l o : List UInt8} (ho : o ≠ []) (h : o.isPrefixOf (b :: l) = true) : Lib.count (b :: l) o = 1 + Lib.count ((b :: l).drop o.length) o := by
  have := Lib.count_hit ho (idx_hit b l o h)
  rwa [Nat.zero_add] at this
theorem cnt_miss {b : UInt8} {l o : List UInt8} (ho : o ≠ []) (h : o.isPrefixOf (b :: l) = false) : Lib.count (b :: l) o = Lib.count l o := by
  rcases idx_cons b l o h with ⟨h1, h2⟩ | ⟨i, h1, h2⟩
  · rw [Lib.count_miss h1, Lib.count_miss h2]
  · rw [Lib.count_hit ho h1, Lib.count_hit ho h2, show i + 1 + o.length = (i + o.length) + 1 by omega, List.drop_succ_cons]
theorem cnt_nil {o : List UInt8} (ho : o ≠ []) : Lib.count [] o = 0 := by
  refine Lib.count_miss ?_
  unfold Lib.index
  rw [if_neg (by cases o <;> simp_all)]
/-- What is put. -/
def repR (o n s : List UInt8) : List UInt8 := Lib.replaceK o n (Lib.count s o) s
theorem rep_nil {o n : List UInt8} (ho : o ≠ []) : repR o n [] = [] := by unfold repR; rw [cnt_nil ho]; rfl
theorem rep_hit {b : UInt8} {l o n : List UInt8} (ho : o ≠ []) (h : o.isPrefixOf (b :: l) = true) : repR o n (b :: l) = n ++ repR o n ((b :: l).drop o.length) := by
  unfold repR
  rw [cnt_hit ho h, Nat.add_comm, Lib.replaceK_hit o n _ _ 0 (idx_hit b l o h), Nat.zero_add]
  rfl
theorem rep_miss {b : UInt8} {l o n : List UInt8} (ho : o ≠ []) (h : o.isPrefixOf (b :: l) = false) : repR o n (b :: l) = b :: repR o n l := by
  unfold repR
  rw [cnt_miss ho h]
  rcases idx_cons b l o h with ⟨h1, h2⟩ | ⟨i, h1, h2⟩
  · rw [Lib.count_miss h1]; rfl
  · rw [Lib.count_hit ho h1, Nat.add_comm, Lib.replaceK_hit o n _ _ i h1, Lib.replaceK_hit o n _ _ (i + 1) h2, show i + 1 + o.length = (i + o.length) + 1 by omega, List.drop_succ_cons]
    rfl
theorem rep_ind {o : List UInt8} (ho : o ≠ []) (M : List UInt8 → Prop) (h0 : M []) (h1 : ∀ b l, o.isPrefixOf (b :: l) = true → M ((b :: l).drop o.length) → M (b :: l)) (h2 : ∀ b l, o.isPrefixOf (b :: l) = false → M l → M (b :: l)) : ∀ (d : Nat) (s : List UInt8), s.length ≤ d → M s
  | _, [], _ => h0
  | 0, b :: l, h => by simp at h
  | d + 1, b :: l, h => by
    have hp : 0 < o.length := List.length_pos_iff.2 ho
    cases e : o.isPrefixOf (b :: l)
    · exact h2 b l e (rep_ind ho M h0 h1 h2 d l (by simp at h; omega))
    · exact h1 b l e (rep_ind ho M h0 h1 h2 d _ (by rw [List.length_drop]; simp at h ⊢; omega))
theorem pre_len {o s : List UInt8} (h : o.isPrefixOf s = true) : o.length ≤ s.length ∧ s.take o.length = o := by
  have := List.isPrefixOf_iff_prefix.1 h
  obtain ⟨t, rfl⟩ := this
  exact ⟨by simp, by simp⟩
theorem rep_len {o n : List UInt8} (ho : o ≠ []) (s : List UInt8) : (repR o n s).length + Lib.count s o * o.length = s.length + Lib.count s o * n.length := by
  refine rep_ind ho (fun s => (repR o n s).length + Lib.count s o * o.length = s.length + Lib.count s o * n.length) ?_ ?_ ?_ s.length s (Nat.le_refl _)
  · rw [rep_nil ho, cnt_nil ho]; simp
  · intro b l h ih
    have := (pre_len h).1
    rw [rep_hit ho h, cnt_hit ho h, List.length_append]
    rw [List.length_drop] at ih
    rw [Nat.add_mul, Nat.add_mul, Nat.one_mul, Nat.one_mul]
    omega
  · intro b l h ih
    rw [rep_miss ho h, cnt_miss ho h]
    simp only [List.length_cons]
    omega
theorem rep_same {o : List UInt8} (ho : o ≠ []) (s : List UInt8) : repR o o s = s := by
  refine rep_ind ho (fun s => repR o o s = s) (rep_nil ho) ?_ ?_ s.length s (Nat.le_refl _)
  · intro b l h ih
    rw [rep_hit ho h, ih]
    have := (pre_len h).2
    conv => lhs; lhs; rw [← this]
    exact List.take_append_drop _ _
  · intro b l h ih
    rw [rep_miss ho h, ih]
theorem cnt_room {o : List UInt8} (ho : o ≠ []) (s : List UInt8) : Lib.count s o * o.length ≤ s.length := by
  refine rep_ind ho (fun s => Lib.count s o * o.length ≤ s.length) ?_ ?_ ?_ s.length s (Nat.le_refl _)
  · rw [cnt_nil ho]; simp
  · intro b l h ih
    have := (pre_len h).1
    rw [cnt_hit ho h, Nat.add_mul, Nat.one_mul]
    rw [List.length_drop] at ih
    omega
  · intro b l h ih
    rw [cnt_miss ho h]
    simp only [List.length_cons]
    omega
def repX (o n s : List UInt8) : List UInt8 := if o = [] then s else repR o n s
def putG (o n s : List UInt8) : ByteArray × Bool := if (repX o n s).length ≤ 256 then (B (repX o n s), true) else (E, false)
theorem E_B : E = B [] := rfl
theorem em_B (l : List UInt8) : ((B l).toList == (⟨#[]⟩ : ByteArray).toList) = (l == []) := by rw [B_toList, show (⟨#[]⟩ : ByteArray).toList = [] from B_toList []]
theorem scount_ev (s o : List UInt8) (hs : s.length ≤ 1000) (ho : o ≠ []) : D 107 [.sc (.string (B s)), .sc (.string (B o))] = some (.sc (.int .i64 (Lib.count s o : Int))) := by
  have e : D 107 [.sc (.string (B s)), .sc (.string (B o))] = xCount [.sc (.string (B s)), .sc (.string (B o))] := (denI_eq 0 _ _).trans (by kernel_rfl)
  rw [e]
  have hp : 0 < o.length := List.length_pos_iff.2 ho
  exact if_pos ⟨by rw [B_size]; omega, by rw [B_size]; omega⟩
theorem replace_ev (s o n : List UInt8) (hs : s.length ≤ 1000) (hn : n.length ≤ 1000) (ho : o ≠ []) : D 108 [.sc (.string (B s)), .sc (.string (B o)), .sc (.string (B n))] = some (.sc (.string (B (repR o n s)))) := by
  have e : D 108 [.sc (.string (B s)), .sc (.string (B o)), .sc (.string (B n))] = xReplaceAll [.sc (.string (B s)), .sc (.string (B o)), .sc (.string (B n))] := (denI_eq 0 _ _).trans (by kernel_rfl)
  rw [e]
  have hp : 0 < o.length := List.length_pos_iff.2 ho
  have hc : Lib.count s o * n.length ≤ 1001 * 1000 := Nat.mul_le_mul (by have := Lib.count_le s o; omega) hn
  have hcond : (B s).size < 4294967281 ∧ 1 ≤ (B o).size ∧ (B s).size + Lib.countB (B s) (B o) * (B n).size ≤ 140737488355328 := by
    refine ⟨by rw [B_size]; omega, by rw [B_size]; omega, ?_⟩
    rw [B_size, B_size]
    show s.length + Lib.count s o * n.length ≤ _
    omega
  refine (if_pos hcond).trans ?_
  · show some (PV.sc (.string (B (Lib.replaceAll s o n)))) = _
    have e2 : Lib.replaceAll s o n = repR o n s := by
      unfold Lib.replaceAll Lib.replace
      by_cases h : (o == n) = true
      · rw [if_pos h]
        have : o = n := by simpa using h
        subst this
        exact (rep_same ho s).symm
      · rw [if_neg h]
        unfold repR Lib.replaceNum
        rw [if_pos (.inl (by decide))]
    rw [e2]
theorem put_ev (s o n : List UInt8) (hs : s.length ≤ 400) (ho4 : o.length ≤ 400) (hn : n.length ≤ 400) : D 48 [.sc (.string (B s)), .sc (.string (B o)), .sc (.string (B n))] = some (pvJ (putG o n s)) := by
  rw [f48_eq 0]
  unfold putG repX
  by_cases ho : o = []
  · subst ho
    rw [if_pos rfl]
    refine im (by rw [em_B]; decide) ?_
    simp only [B_size, tb]
    have e : IntKind.i64.wrap ((s.length : Int) - IntKind.i64.wrap (0 * (([] : List UInt8).length : Int))) = (s.length : Int) := by
      rw [Int.zero_mul, show IntKind.i64.wrap 0 = 0 from rfl, Int.sub_zero, w64 (by omega) (by omega)]
    simp only [e, bO, tb]
    by_cases h : s.length ≤ 256
    · rw [if_pos h]
      exact im (by simp; omega) rfl
    · rw [if_neg h]
      exact ip (by simp; omega) rfl
  · rw [if_neg ho]
    have hl := rep_len (n := n) ho s
    have hr := cnt_room ho s
    have hg := replace_ev s o n (by omega) (by omega) ho
    have hr0 : Lib.count s o = 0 → repR o n s = s := fun h => by unfold repR; rw [h]; rfl
    have hcl := Lib.count_le s o
    have hce := scount_ev s o (by omega) ho
    generalize Lib.count s o = c at *
    generalize repR o n s = R at *
    refine ip (by rw [em_B]; simpa using ho) (cb hce rfl ?_)
    have hcn : c * n.length ≤ 401 * 400 := Nat.mul_le_mul (by omega) hn
    dsimp +instances only [ti, B_size]
    have e1 : IntKind.i64.wrap ((c : Int) * (o.length : Int)) = ((c * o.length : Nat) : Int) := by rw [← Int.natCast_mul, w64 (by omega) (by omega)]
    have e2 : IntKind.i64.wrap ((s.length : Int) - IntKind.i64.wrap ((c : Int) * (o.length : Int))) = ((s.length - c * o.length : Nat) : Int) := by rw [e1, w64 (by omega) (by omega)]; omega
    obtain ⟨rest, hrest⟩ : ∃ rest, rest = s.length - c * o.length := ⟨_, rfl⟩
    rw [← hrest] at e2
    have hRl : R.length = rest + c * n.length := by omega
    have dA : decide (IntKind.i64.wrap ((s.length : Int) - IntKind.i64.wrap ((c : Int) * (o.length : Int))) > 256) = decide (rest > 256) := decide_eq_decide.2 (by rw [e2]; omega)
    have dB : decide ((c : Int) > 0) = decide (0 < c) := decide_eq_decide.2 (by omega)
    rw [dA, dB]
    by_cases h1 : rest > 256
    · rw [decide_eq_true h1, if_neg (show ¬ R.length ≤ 256 by omega)]
      rfl
    · rw [decide_eq_false h1]
      by_cases hc : c = 0
      · subst hc
        have := hr0 rfl
        subst this
        rw [if_pos (show R.length ≤ 256 by omega)]
        rfl
      · have cond : IntKind.i64 = IntKind.i64 ∧ (c : Int) ≠ 0 := ⟨rfl, by omega⟩
        have hc0 : 0 < c := by omega
        have e4 : IntKind.i64.wrap ((IntKind.i64.wrap ((256 : Int) - IntKind.i64.wrap ((s.length : Int) - IntKind.i64.wrap ((c : Int) * (o.length : Int))))).tdiv (c : Int)) = (((256 - rest) / c : Nat) : Int) := by
          rw [e2, w64 (x := 256 - (rest : Int)) (by omega) (by omega), show (256 : Int) - (rest : Int) = ((256 - rest : Nat) : Int) by omega, ← Int.ofNat_tdiv]
          have := Nat.div_le_self (256 - rest) c
          have h0 : (0 : Int) ≤ (((256 - rest) / c : Nat) : Int) := Int.natCast_nonneg _
          rw [w64 (by omega) (by omega)]
        have dC : decide ((n.length : Int) > IntKind.i64.wrap ((IntKind.i64.wrap ((256 : Int) - IntKind.i64.wrap ((s.length : Int) - IntKind.i64.wrap ((c : Int) * (o.length : Int))))).tdiv (c : Int))) = decide ((256 - rest) / c < n.length) := decide_eq_decide.2 (by rw [e4]; omega)
        rw [if_pos cond, dC, decide_eq_true hc0]
        simp only [bs, tb, if_true, Bool.false_eq_true, if_false]
        have hiff : (256 - rest) / c < n.length ↔ ¬ R.length ≤ 256 := by
          rw [Nat.div_lt_iff_lt_mul hc0, Nat.mul_comm]; omega
        by_cases h2 : R.length ≤ 256
        · rw [if_pos h2]
          have : ¬ (256 - rest) / c < n.length := fun h => hiff.1 h h2
          refine im (by rw [decide_eq_true_eq]; exact this) (im (by simpa using hc) (cb hg rfl rfl))
        · rw [if_neg h2]
          have : (256 - rest) / c < n.length := hiff.2 h2
          exact ip (by rw [decide_eq_true_eq]; exact this) rfl
theorem strB_B (l : List UInt8) : strB (B l) = l.map fun b => .sc (.int .u8 b.toNat) := rfl
theorem strB_snoc (l : List UInt8) (b : UInt8) : strB (B l) ++ [.sc (.int .u8 (b.toNat : Int))] = strB (B (l ++ [b])) := by rw [strB_B, strB_B]; simp
theorem strB_sh (s : ByteArray) : (strB s).all (hasSh (.int .u8)) = true := by
  unfold strB
  rw [List.all_eq_true]
  intro x hx
  obtain ⟨b, _, rfl⟩ := List.mem_map.1 hx
  rfl
theorem repX_nil (o n : List UInt8) : repX o n [] = [] := by
  unfold repX
  split
  · rfl
  · rename_i h; exact rep_nil h
theorem repX_miss {b : UInt8} {l o n : List UInt8} (h : o = [] ∨ o.isPrefixOf (b :: l) = false) : repX o n (b :: l) = b :: repX o n l := by
  unfold repX
  by_cases h0 : o = []
  · rw [if_pos h0, if_pos h0]
  · rw [if_neg h0, if_neg h0]
    exact rep_miss h0 (h.resolve_left h0)
theorem rput_l (s o n : List UInt8) (hs : s.length ≤ 400) (ho4 : o.length ≤ 400) (hn : n.length ≤ 400) : ∀ (d i : Nat) (acc : List UInt8), i ≤ s.length → s.length - i ≤ d → acc.length ≤ i * 401 →
    f49.l0a 0 (B s) (B o) (B n) (i : Int) E false (strB (B acc)) = some (pvK (if (acc ++ repX o n (s.drop i)).length ≤ 256 then (B (acc ++ repX o n (s.drop i)), true) else (E, false))) := by
  intro d
  induction d with
  | zero =>
    intro i acc hi hd ha
    have e : i = s.length := by omega
    rw [f49.l0a_eq, List.drop_eq_nil_of_le (by omega), repX_nil, List.append_nil]
    refine im (by rw [B_size, decide_eq_true_eq]; omega) (ip (strB_sh _) ?_)
    rw [bytesOf_strB]
    exact cb (room_ev _) rfl rfl
  | succ d ih =>
    intro i acc hi hd ha
    by_cases hlt : i < s.length
    · rw [f49.l0a_eq]
      refine ip (by rw [B_size, decide_eq_true_eq]; omega) ?_
      simp only [bA]
      dsimp +instances only [tb, B_size]
      have hw1 : IntKind.i64.wrap ((s.length : Int) - (i : Int)) = ((s.length - i : Nat) : Int) := by rw [w64 (by omega) (by omega)]; omega
      have hw2 : IntKind.i64.wrap ((i : Int) + (o.length : Int)) = ((i + o.length : Nat) : Int) := by rw [w64 (by omega) (by omega)]; omega
      have hA : decide (IntKind.i64.wrap ((s.length : Int) - (i : Int)) ≥ (o.length : Int)) = decide (s.length - i ≥ o.length) := decide_eq_decide.2 (by rw [hw1]; omega)
      rw [hA, drop_at hlt]
      have miss : (o = [] ∨ o.isPrefixOf (s[i] :: s.drop (i + 1)) = false) → (if 0 ≤ (i : Int) then
          if (i : Int) < (s.length : Int) then
            if ((strB (B acc)).length + ([.sc (.int .u8 (bt (B s) (i : Int)))] : List PV).length) * 1 ≤ 140737488355328 ∧ (strB (B acc)).length + ([.sc (.int .u8 (bt (B s) (i : Int)))] : List PV).length ≤ 140737488355328 then
              f49.l0a 0 (B s) (B o) (B n) (IntKind.i64.wrap ((i : Int) + 1)) E false (strB (B acc) ++ ([.sc (.int .u8 (bt (B s) (i : Int)))] : List PV))
            else none
          else none
        else none) = some (pvK (if (acc ++ repX o n (s[i] :: s.drop (i + 1))).length ≤ 256 then (B (acc ++ repX o n (s[i] :: s.drop (i + 1))), true) else (E, false))) := by
        intro h
        refine ip (by omega) (ip (by omega) (ip ?_ ?_))
        · rw [strB_len, B_size]
          simp only [List.length_singleton]
          omega
        · rw [B_bt hlt, strB_snoc, nx hlt (by omega), repX_miss h]
          have := ih (i + 1) (acc ++ [s[i]]) (by omega) (by omega) (by simp; omega)
          rw [List.append_assoc] at this
          exact this
      by_cases ho : o = []
      · have d0 : decide ((o.length : Int) > 0) = false := by subst ho; rfl
        rw [d0, Bool.false_and]
        simp only [Bool.false_eq_true, if_false, bs, tb]
        exact miss (.inl ho)
      · have hp : 0 < o.length := List.length_pos_iff.2 ho
        have d0 : decide ((o.length : Int) > 0) = true := by rw [decide_eq_true_eq]; omega
        rw [d0, Bool.true_and]
        by_cases hroom : s.length - i ≥ o.length
        · have c1 : (0 : Int) ≤ IntKind.i64.wrap ((i : Int) + (o.length : Int)) := by rw [hw2]; omega
          have c2 : IntKind.i64.wrap ((i : Int) + (o.length : Int)) ≤ (s.length : Int) := by rw [hw2]; omega
          have c3 : (0 : Int) ≤ (i : Int) := by omega
          have c4 : (i : Int) ≤ IntKind.i64.wrap ((i : Int) + (o.length : Int)) := by rw [hw2]; omega
          have c5 : (IntKind.i64.wrap ((i : Int) + (o.length : Int))).toNat = i + o.length := by rw [hw2]; rfl
          rw [decide_eq_true hroom]
          simp only [if_true, if_pos c1, if_pos c2, if_pos c3, if_pos c4, bs, tb, Int.toNat_natCast, c5, B_extract, B_toList]
          have e5 : i + o.length - i = o.length := by omega
          rw [e5, drop_at hlt]
          have hpre : o.isPrefixOf (s[i] :: s.drop (i + 1)) = ((s[i] :: s.drop (i + 1)).take o.length == o) := by
            rw [Bool.eq_iff_iff, beq_iff_eq]
            constructor
            · intro h; exact (pre_len h).2
            · intro h
              refine List.isPrefixOf_iff_prefix.2 ⟨(s[i] :: s.drop (i + 1)).drop o.length, ?_⟩
              conv => lhs; lhs; rw [← h]
              exact List.take_append_drop _ _
          cases hpe : ((s[i] :: s.drop (i + 1)).take o.length == o)
          · rw [hpe] at hpre
            exact im (by decide) (miss (.inr hpre))
          · rw [hpe] at hpre
            refine ip rfl (ip ?_ ?_)
            · rw [strB_len, strB_len, B_size, B_size]; omega
            · rw [strB_append, B_append, hw2]
              have hx : repX o n (s[i] :: s.drop (i + 1)) = n ++ repX o n (s.drop (i + o.length)) := by
                unfold repX
                rw [if_neg ho, if_neg ho, rep_hit ho hpre, ← drop_at hlt, List.drop_drop]
              rw [hx]
              have := ih (i + o.length) (acc ++ n) (by omega) (by omega) (by rw [List.length_append]; omega)
              rw [List.append_assoc] at this
              exact this
        · rw [decide_eq_false hroom]
          simp only [Bool.false_eq_true, if_false, bs, tb]
          refine miss (.inr ?_)
          cases hpre : o.isPrefixOf (s[i] :: s.drop (i + 1))
          · rfl
          · have := (pre_len hpre).1
            rw [← drop_at hlt, List.length_drop] at this
            omega
    · exact (ih i acc hi (by omega) ha)
theorem rput_ev (s o n : List UInt8) (hs : s.length ≤ 400) (ho4 : o.length ≤ 400) (hn : n.length ≤ 400) : D 49 [.sc (.string (B s)), .sc (.string (B o)), .sc (.string (B n))] = some (pvK (putG o n s)) := by
  rw [f49_eq 0]
  have := rput_l s o n hs ho4 hn s.length 0 [] (by omega) (by omega) (by simp)
  rw [List.drop_zero, List.nil_append] at this
  exact this
/-- What is repeated. -/
def reptG (s : List UInt8) (n : Int) : ByteArray × Bool := if n < 0 then (E, false) else if s.length * n.toNat ≤ 256 then (B (Lib.repeatL s n.toNat), true) else (E, false)
theorem rep0 : ∀ n : Nat, Lib.repeatL [] n = []
  | 0 => rfl
  | n + 1 => by rw [Lib.repeatL, rep0 n]; rfl
theorem repeat_ev (s : List UInt8) (n : Nat) (h : s.length * n ≤ 256) (hn : n ≤ 1000) : D 110 [.sc (.string (B s)), .sc (.int .i64 (n : Int))] = some (.sc (.string (B (Lib.repeatL s n)))) := by
  have e : D 110 [.sc (.string (B s)), .sc (.int .i64 (n : Int))] = xRepeat [.sc (.string (B s)), .sc (.int .i64 (n : Int))] := (denI_eq 0 _ _).trans (by kernel_rfl)
  rw [e]
  refine (if_pos ⟨by omega, by omega, by rw [B_size, Int.toNat_natCast]; omega⟩).trans ?_
  rw [Int.toNat_natCast]
  rfl
theorem rept_ev (s : List UInt8) (n : Int) (hs : s.length ≤ 400) : D 50 [.sc (.string (B s)), .sc (.int .i64 n)] = some (pvJ (reptG s n)) := by
  rw [f50_eq 0]
  unfold reptG
  dsimp +instances only [B_size]
  by_cases hn : n < 0
  · rw [if_pos hn, decide_eq_true hn]
    rfl
  · rw [if_neg hn, decide_eq_false hn]
    obtain ⟨n, rfl⟩ := Int.eq_ofNat_of_zero_le (show 0 ≤ n by omega)
    rw [Int.toNat_natCast]
    by_cases h0 : s = []
    · subst h0
      rw [rep0, if_pos (show ([] : List UInt8).length * n ≤ 256 by simp)]
      have d0 : decide ((([] : List UInt8).length : Int) > 0) = false := rfl
      rw [d0]
      simp only [Bool.false_eq_true, if_false, bs, tb]
      exact ip (by rw [em_B]; rfl) rfl
    · have hp : 0 < s.length := List.length_pos_iff.2 h0
      have d0 : decide ((s.length : Int) > 0) = true := by rw [decide_eq_true_eq]; omega
      have cond : IntKind.i64 = IntKind.i64 ∧ (s.length : Int) ≠ 0 := ⟨rfl, by omega⟩
      have hd : IntKind.i64.wrap ((256 : Int).tdiv (s.length : Int)) = ((256 / s.length : Nat) : Int) := by
        rw [show (256 : Int) = ((256 : Nat) : Int) from rfl, ← Int.ofNat_tdiv]
        have := Nat.div_le_self 256 s.length
        have h0 : (0 : Int) ≤ ((256 / s.length : Nat) : Int) := Int.natCast_nonneg _
        rw [w64 (by omega) (by omega)]
      have dC : decide ((n : Int) > IntKind.i64.wrap ((256 : Int).tdiv (s.length : Int))) = decide (256 / s.length < n) := decide_eq_decide.2 (by rw [hd]; omega)
      rw [if_pos cond, d0, dC]
      simp only [Bool.false_eq_true, if_false, bs, tb, if_true]
      have hiff : 256 / s.length < n ↔ ¬ s.length * n ≤ 256 := by
        rw [Nat.div_lt_iff_lt_mul hp, Nat.mul_comm]; omega
      by_cases h : s.length * n ≤ 256
      · rw [if_pos h]
        have h2 : ¬ 256 / s.length < n := fun h3 => hiff.1 h3 h
        have h3 : n ≤ s.length * n := Nat.le_mul_of_pos_left n hp
        refine im (by rw [decide_eq_true_eq]; exact h2) (im (by rw [em_B]; simpa using h0) (cb (repeat_ev s n h (by omega)) rfl rfl))
      · rw [if_neg h]
        have h2 := hiff.2 h
        exact ip (by rw [decide_eq_true_eq]; exact h2) rfl
theorem rl_snoc (s : List UInt8) : ∀ n, Lib.repeatL s n ++ s = Lib.repeatL s (n + 1) := by
  intro n
  rw [Lib.repeatL_add, Lib.repeatL_one]
theorem rrept_l (s : List UInt8) (n : Nat) (h0 : s ≠ []) (hs : s.length ≤ 400) (hn : (n : Int) ≤ 9223372036854775807) : ∀ (d i : Nat), i ≤ n → i ≤ 257 → 257 - i ≤ d → 
    f51.l0a 0 (B s) (n : Int) (B (Lib.repeatL s i)) (i : Int) E false = some (pvK (if s.length * n ≤ 256 then (B (Lib.repeatL s n), true) else (E, false))) := by
  have hp : 0 < s.length := List.length_pos_iff.2 h0
  intro d
  induction d with
  | zero =>
    intro i hi hi2 hd
    have : i = 257 := by omega
    subst this
    rw [f51.l0a_eq]
    simp only [bA]
    dsimp +instances only [tb, B_size]
    simp only [Lib.repeatL_length]
    have h257 : 257 ≤ 257 * s.length := Nat.le_mul_of_pos_right _ hp
    have hln : 257 * s.length ≤ n * s.length := Nat.mul_le_mul_right _ hi
    rw [Nat.mul_comm s.length n]
    have dd : decide (((257 * s.length : Nat) : Int) ≤ 256) = false := by rw [decide_eq_false_iff_not]; omega
    refine im (by simp only [Bool.and_eq_true, decide_eq_true_eq]; omega) (cb (room_ev _) rfl ?_)
    rw [B_size, Lib.repeatL_length, if_neg (by omega), if_neg (by omega)]
    rfl
  | succ d ih =>
    intro i hi hi2 hd
    rw [f51.l0a_eq]
    simp only [bA]
    dsimp +instances only [tb, B_size]
    simp only [Lib.repeatL_length]
    have dp : decide ((s.length : Int) > 0) = true := by rw [decide_eq_true_eq]; omega
    have hmul : i * s.length ≤ n * s.length := Nat.mul_le_mul_right _ hi
    by_cases hin : i < n
    · have d1 : decide ((i : Int) < (n : Int)) = true := by rw [decide_eq_true_eq]; omega
      by_cases h : i * s.length ≤ 256
      · have hi3 : i ≤ i * s.length := Nat.le_mul_of_pos_right _ hp
        refine ip (by simp only [Bool.and_eq_true, decide_eq_true_eq]; omega) (ip (by omega) ?_)
        rw [B_append, rl_snoc, nx hin hn]
        exact ih (i + 1) (by omega) (by omega) (by omega)
      · refine im (by simp only [Bool.and_eq_true, decide_eq_true_eq]; omega) (cb (room_ev _) rfl ?_)
        rw [Nat.mul_comm s.length n, B_size, Lib.repeatL_length, if_neg h, if_neg (by omega)]
        rfl
    · have : i = n := by omega
      subst this
      have d1 : decide ((i : Int) < (i : Int)) = false := by rw [decide_eq_false_iff_not]; omega
      refine im (by simp only [Bool.and_eq_true, decide_eq_true_eq]; omega) (cb (room_ev _) rfl ?_)
      rw [B_size, Lib.repeatL_length, Nat.mul_comm s.length i]
      rfl
theorem rrept_ev (s : List UInt8) (n : Int) (hs : s.length ≤ 400) (hn : n ≤ 9223372036854775807) : D 51 [.sc (.string (B s)), .sc (.int .i64 n)] = some (pvK (reptG s n)) := by
  rw [f51_eq 0]
  unfold reptG
  by_cases h : n < 0
  · rw [if_pos h]
    exact ip (decide_eq_true h) rfl
  · rw [if_neg h]
    refine im (by rw [decide_eq_true_eq]; exact h) ?_
    obtain ⟨n, rfl⟩ := Int.eq_ofNat_of_zero_le (show 0 ≤ n by omega)
    rw [Int.toNat_natCast]
    by_cases h0 : s = []
    · subst h0
      rw [f51.l0a_eq, rep0, if_pos (show ([] : List UInt8).length * n ≤ 256 by simp)]
      simp only [bA]
      dsimp +instances only [tb, B_size]
      have d0 : decide ((([] : List UInt8).length : Int) > 0) = false := rfl
      exact im (by simp) (cb (room_ev E) rfl rfl)
    · exact rrept_l s n h0 hs hn 257 0 (by omega) (by omega) (by omega)
theorem put_same (o s : List UInt8) : putG o o s = if s.length ≤ 256 then (B s, true) else (E, false) := by
  unfold putG repX
  by_cases h : o = []
  · rw [if_pos h]
  · rw [if_neg h, rep_same h]
theorem textPuts_D (s o n : List UInt8) (k : Int) (hk : k ≤ 9223372036854775807) : D 11 [.sc (.string (B s)), .agg [.sc (.string (B o)), .sc (.string (B n))], .sc (.int .i64 k)] = some (.sc (.bool true)) := by
  rw [f11_eq 0]
  simp only [bO]
  dsimp +instances only [tb, B_size]
  by_cases h : s.length > 400 ∨ o.length > 400 ∨ n.length > 400
  · refine ip ?_ (cb alive14_ev rfl rfl)
    simp only [Bool.or_eq_true, decide_eq_true_eq]
    omega
  · refine im ?_ ?_
    · simp only [Bool.or_eq_true, decide_eq_true_eq]
      omega
    · refine cb (put_ev s o n (by omega) (by omega) (by omega)) rfl (cb (rput_ev s o n (by omega) (by omega) (by omega)) rfl (cb (rept_ev s k (by omega)) rfl (cb (rrept_ev s k (by omega) hk) rfl ?_)))
      have q0 : ∀ g, (cel 0 (pvJ g).parts).toStr = g.1 := fun _ => rfl
      have q1 : ∀ g, (cel 1 (pvJ g).parts).toBool = g.2 := fun _ => rfl
      have q2 : ∀ g, (cel 0 (pvK g).cells).toStr = g.1 := fun _ => rfl
      have q3 : ∀ g, (cel 1 (pvK g).cells).toBool = g.2 := fun _ => rfl
      simp only [q0, q1, q2, q3]
      refine im (by simp) (cb (put_ev s o o (by omega) (by omega) (by omega)) rfl ?_)
      simp only [q0, q1, put_same, alive14_ev]
      by_cases h2 : s.length ≤ 256
      · simp [h2]
        omega
      · simp [h2]
        omega
theorem textPuts_law (W : World) (vs : List Value) (xs : List PV) (h : Handed Tryd.prog W [9, 63, 3] vs xs) : D 11 xs = some (.sc (.bool true)) := by
  obtain ⟨a, _, _, rfl, ha, h⟩ := handed_cons h
  obtain ⟨b, _, _, rfl, hb, h⟩ := handed_cons h
  obtain ⟨c, _, _, rfl, hc, h⟩ := handed_cons h
  obtain rfl := handed_nil h
  obtain ⟨a, rfl, _⟩ := of9 ha
  obtain ⟨b0, b1, rfl, _⟩ := of63 hb
  obtain ⟨c, rfl, _, hc2⟩ := of3 hc
  rw [on9, ag63, on3]
  obtain ⟨a, rfl⟩ := B_of a
  obtain ⟨b0, rfl⟩ := B_of b0
  obtain ⟨b1, rfl⟩ := B_of b1
  exact textPuts_D a b0 b1 c hc2
end Go.Den.ET
