/- ParseRight: whatever the input, the law returns true; each argument reads behind the call as it read before. No condition. -/
import Derived.Test.YtkhbkbkambflbaaGreatDoorMParseRight1
import Derived.Test.YtkhbkbkambflbaaGreatDoorDenV
import Derived.Test.YtkhbkbkambflbaaGreatDoorDenY
import Derived.Test.YtkhbkbkambflbaaGreatDoorTie
import Derived.Test.YtkhbkbkambflbaaGreatDoorCards
import Derived.LaidMore
import Derived.Lay
import Derived.SevenTiedAt
import Derived.Stop.Joined
import Derived.Handy
import Derived.Test.YtkhbkbkambflbaaGreatDoorDenU
import Derived.Test.YtkhbkbkambflbaaGreatDoorRows
import Derived.Test.YtkhbkbkambflbaaGreatDoorEFh
/- Labels read of texts, by the reference. -/
set_option linter.unusedVariables false
set_option linter.unusedSimpArgs false
set_option maxRecDepth 100000
namespace Go.Den.EF
open Go Go.Proofs
theorem ob3 {u : Option PV} {b : Bool} {F : PV → Option PV} {r : Option PV} (h : u = some (.sc (.bool b))) (h2 : F (.sc (.bool b)) = r) : Option.bind u F = r := by subst h; exact h2
theorem P64 : (2 : Nat) ^ 64 = 18446744073709551616 := by decide
theorem bit_l {s c : Nat} (hs : s < 2 ^ 64) (hc : c < 64) : ∀ (d i : Nat), i + d = c → f249.l0a 0 ((s / 2 ^ i : Nat) : Int) (c : Int) (i : Int) = some (.sc (.bool (bitB s c))) := by
  intro d
  induction d with
  | zero =>
    intro i h
    rw [f249.l0a_eq]
    have : i = c := by omega
    subst this
    refine im (by rw [decide_eq_true_eq]; omega) ?_
    unfold bitB
    generalize s / 2 ^ i = q
    congr 3
    rw [Int.tmod_eq_emod_of_nonneg (by omega), Bool.eq_iff_iff, beq_iff_eq, beq_iff_eq]
    omega
  | succ d ih =>
    intro i h
    rw [f249.l0a_eq]
    refine ip (by rw [decide_eq_true_eq]; omega) ?_
    have hle : s / 2 ^ i ≤ s := Nat.div_le_self _ _
    have e : IntKind.u64.wrap (((s / 2 ^ i : Nat) : Int).tdiv 2) = ((s / 2 ^ (i + 1) : Nat) : Int) := by
      rw [Nat.pow_succ, ← Nat.div_div_eq_div_mul]
      rw [P64] at hs
      generalize s / 2 ^ i = q at hle
      rw [Int.tdiv_eq_ediv_of_nonneg (by omega), u64i (by omega) (by omega)]; omega
    rw [e, nx (n := 64) (show i < 64 by omega) (by decide)]
    exact ih (i + 1) (by omega)
theorem bit_ev {s c : Nat} (hs : s < 2 ^ 64) (hc : c < 64) : D 249 [.sc (.int .u64 (s : Int)), .sc (.int .i64 (c : Int))] = some (.sc (.bool (bitB s c))) := by
  rw [f249_eq 0, bO]
  have hcond : (decide ((c : Int) < 0) || decide ((c : Int) > 63)) = false := by
    rw [Bool.or_eq_false_iff, decide_eq_false_iff_not, decide_eq_false_iff_not]; omega
  rw [hcond]
  have := bit_l hs hc c 0 (Nat.zero_add _)
  rw [Nat.pow_zero, Nat.div_one] at this
  exact im Bool.false_ne_true this
theorem one_l1 {c : Nat} (hc : c < 64) : ∀ (d i : Nat), i + d = c → f224.l0a 0 (c : Int) ((2 ^ i : Nat) : Int) (i : Int) = some (.sc (.int .u64 ((2 ^ c : Nat) : Int))) := by
  intro d
  induction d with
  | zero =>
    intro i h
    rw [f224.l0a_eq]
    have : i = c := by omega
    subst this
    exact im (by rw [decide_eq_true_eq]; omega) rfl
  | succ d ih =>
    intro i h
    rw [f224.l0a_eq]
    refine ip (by rw [decide_eq_true_eq]; omega) ?_
    have hp : 2 ^ (i + 1) ≤ 2 ^ 63 := Nat.pow_le_pow_right (by decide) (by omega)
    have e : IntKind.u64.wrap (((2 ^ i : Nat) : Int) * 2) = ((2 ^ (i + 1) : Nat) : Int) := by
      rw [Nat.pow_succ] at hp ⊢
      rw [u64i (by omega) (by omega)]; omega
    rw [e, nx (n := 64) (show i < 64 by omega) (by decide)]
    exact ih (i + 1) (by omega)
theorem onec_ev {c : Nat} (hc : c < 64) : D 224 [.sc (.int .i64 (c : Int))] = some (.sc (.int .u64 ((2 ^ c : Nat) : Int))) := by
  rw [f224_eq 0]
  exact one_l1 hc c 0 (Nat.zero_add _)
theorem bit_or (a b c : Nat) : bitB (a ||| b) c = (bitB a c || bitB b c) := by
  have e : ∀ x : Nat, bitB x c = x.testBit c := by
    intro x
    unfold bitB
    rw [Nat.testBit_eq_decide_div_mod_eq, Bool.eq_iff_iff, beq_iff_eq, decide_eq_true_iff]
  rw [e, e, e, Nat.testBit_or]
theorem join_l {a b : Nat} (ha : a < 2 ^ 64) (hb0 : b < 2 ^ 64) : ∀ (d c : Nat), c + d = 64 → f223.l0a 0 (a : Int) (b : Int) (((a ||| b) % 2 ^ c : Nat) : Int) (c : Int) = some (.sc (.int .u64 ((a ||| b : Nat) : Int))) := by
  intro d
  induction d with
  | zero =>
    intro c h
    rw [f223.l0a_eq]
    have : c = 64 := by omega
    subst this
    rw [Nat.mod_eq_of_lt (Nat.or_lt_two_pow ha hb0)]
    exact im (by decide) rfl
  | succ d ih =>
    intro c h
    rw [f223.l0a_eq]
    refine ip (by rw [decide_eq_true_eq]; omega) (cb (bit_ev ha (show c < 64 by omega)) rfl ?_)
    simp only [bit_ev hb0 (show c < 64 by omega), bs, shb, if_true, tb]
    rw [bO]
    have hor := bit_or a b c
    have hms := Nat.mod_pow_succ (x := a ||| b) (b := 2) (k := c)
    have hlt : (a ||| b) % 2 ^ c < 2 ^ c := Nat.mod_lt _ (Nat.pow_pos (by decide))
    have hp : 2 ^ (c + 1) ≤ 2 ^ 64 := Nat.pow_le_pow_right (by decide) (by omega)
    rw [P64, Nat.pow_succ] at hp
    have h2 : (a ||| b) / 2 ^ c % 2 = 0 ∨ (a ||| b) / 2 ^ c % 2 = 1 := by omega
    rcases h2 with h2 | h2
    · have hz : (bitB a c || bitB b c) = false := by rw [← hor]; unfold bitB; rw [h2]; rfl
      rw [hz]
      refine im Bool.false_ne_true ?_
      rw [nx (n := 64) (show c < 64 by omega) (by decide)]
      have := ih (c + 1) (by omega)
      rw [hms, h2, Nat.mul_zero, Nat.add_zero] at this
      exact this
    · have hz : (bitB a c || bitB b c) = true := by rw [← hor]; unfold bitB; rw [h2]; rfl
      rw [hz]
      refine ip rfl (cb (onec_ev (show c < 64 by omega)) rfl ?_)
      have ew : IntKind.u64.wrap ((((a ||| b) % 2 ^ c : Nat) : Int) + ((2 ^ c : Nat) : Int)) = (((a ||| b) % 2 ^ (c + 1) : Nat) : Int) := by
        rw [hms, h2, Nat.mul_one, u64i (by omega) (by omega)]; omega
      show f223.l0a 0 (a : Int) (b : Int) (IntKind.u64.wrap ((((a ||| b) % 2 ^ c : Nat) : Int) + ((2 ^ c : Nat) : Int))) (IntKind.i64.wrap ((c : Int) + 1)) = _
      rw [ew, nx (n := 64) (show c < 64 by omega) (by decide)]
      exact ih (c + 1) (by omega)
theorem join_ev {a b : Nat} (ha : a < 2 ^ 64) (hb0 : b < 2 ^ 64) : D 223 [.sc (.int .u64 (a : Int)), .sc (.int .u64 (b : Int))] = some (.sc (.int .u64 ((a ||| b : Nat) : Int))) := by
  rw [f223_eq 0]
  have := join_l ha hb0 64 0 rfl
  rw [Nat.pow_zero, Nat.mod_one] at this
  exact this
def ip1 (l : List Nat) : List PV := l.map fun (c : Nat) => .sc (.int .i64 (c : Int))
theorem ip1_len (l : List Nat) : (ip1 l).length = l.length := by simp [ip1]
theorem ip1_get {l : List Nat} {i : Nat} (h : i < l.length) : (ip1 l).getD i .top = .sc (.int .i64 (l[i] : Int)) := by simp [ip1, h]
def restS (s c : Nat) : List Nat := ((List.range (64 - c)).map (fun i => c + i)).filter (bitB s)
theorem restS_step {s c : Nat} (h : c < 64) : restS s c = if bitB s c = true then c :: restS s (c + 1) else restS s (c + 1) := by
  unfold restS
  rw [show 64 - c = (64 - (c + 1)) + 1 by omega, List.range_succ_eq_map, List.map_cons, List.filter_cons, List.map_map]
  have e : (fun i => c + i) ∘ Nat.succ = fun i => c + 1 + i := by funext i; show c + (i + 1) = c + 1 + i; omega
  rw [e]; rfl
theorem list_b {s : Nat} (hs : s < 2 ^ 64) : ∀ (d c : Nat) (out : List Nat), c + d = 64 → out.length ≤ c → f250.l0b 0 (s : Int) (c : Int) (ip1 out) = some (frozen 1 (ip1 (out ++ restS s c))) := by
  intro d
  induction d with
  | zero =>
    intro c out h ho
    rw [f250.l0b_eq]
    have : c = 64 := by omega
    subst this
    refine im (by decide) ?_
    show _ = some (frozen 1 (ip1 (out ++ [])))
    rw [List.append_nil]
  | succ d ih =>
    intro c out h ho
    rw [f250.l0b_eq]
    refine ip (by rw [decide_eq_true_eq]; omega) (cb (bit_ev hs (show c < 64 by omega)) rfl ?_)
    rw [restS_step (show c < 64 by omega), nx (n := 64) (show c < 64 by omega) (by decide)]
    by_cases hbt : bitB s c = true
    · rw [if_pos hbt]
      refine ip hbt (ip (by rw [ip1_len]; simp only [List.length_cons, List.length_nil]; omega) ?_)
      have := ih (c + 1) (out ++ [c]) (by omega) (by simp; omega)
      rw [List.append_assoc] at this
      unfold ip1 at this ⊢
      rw [List.map_append] at this
      exact this
    · rw [if_neg hbt]
      exact im hbt (ih (c + 1) out (by omega) (by omega))
theorem list_a {s : Nat} (hs : s < 2 ^ 64) : ∀ (d c : Nat), c + d = 64 → f250.l0a 0 (s : Int) (c : Int) = some (frozen 1 (ip1 (restS s c))) := by
  intro d
  induction d with
  | zero =>
    intro c h
    rw [f250.l0a_eq]
    have : c = 64 := by omega
    subst this
    exact im (by decide) rfl
  | succ d ih =>
    intro c h
    rw [f250.l0a_eq]
    refine ip (by rw [decide_eq_true_eq]; omega) (cb (bit_ev hs (show c < 64 by omega)) rfl ?_)
    rw [restS_step (show c < 64 by omega), nx (n := 64) (show c < 64 by omega) (by decide)]
    by_cases hbt : bitB s c = true
    · rw [if_pos hbt]
      by_cases hc0 : 1 ≤ c + 1
      · refine ip hbt (ip (show 1 * 8 ≤ 140737488355328 ∧ 1 ≤ 140737488355328 by decide) ?_)
        exact list_b hs d (c + 1) [c] (by omega) (by simp)
      · omega
    · rw [if_neg hbt]
      exact im hbt (ih (c + 1) (by omega))
theorem blist_ev {s : Nat} (hs : s < 2 ^ 64) : D 250 [.sc (.int .u64 (s : Int))] = some (frozen 1 (ip1 (listS s))) := by
  rw [f250_eq 0]
  have := list_a hs 64 0 rfl
  unfold restS at this
  rw [show (List.range (64 - 0)).map (fun i => 0 + i) = List.range 64 by
    rw [show (fun i => 0 + i) = (id : Nat → Nat) by funext i; exact Nat.zero_add i, List.map_id]] at this
  exact this
def txtT : Bool → List Nat → List UInt8
  | _, [] => []
  | true, c :: cs => Lib.decDigits c ++ txtT false cs
  | false, c :: cs => 44 :: (Lib.decDigits c ++ txtT false cs)
theorem txtT_eq : ∀ cs : List Nat, txtC cs = txtT true cs ∧ (cs ≠ [] → 44 :: txtC cs = txtT false cs)
  | [] => ⟨rfl, fun h => absurd rfl h⟩
  | [c] => ⟨(List.append_nil _).symm, fun _ => by show 44 :: Lib.decDigits c = 44 :: (Lib.decDigits c ++ []); rw [List.append_nil]⟩
  | c :: d :: cs => by
    have ih := (txtT_eq (d :: cs)).2 (by simp)
    have e : txtC (c :: d :: cs) = Lib.decDigits c ++ 44 :: txtC (d :: cs) := rfl
    refine ⟨by rw [e, ih]; rfl, fun _ => by rw [e, ih]; rfl⟩
theorem txtT_len : ∀ (cs : List Nat) (b : Bool), (∀ c ∈ cs, c < 64) → (txtT b cs).length ≤ 3 * cs.length
  | [], b, _ => by cases b <;> exact Nat.le_refl _
  | c :: cs, b, h => by
    have h1 := dd_len 1 c (by have := h c (List.mem_cons_self ..); omega)
    have h2 := txtT_len cs false fun x hx => h x (List.mem_cons_of_mem _ hx)
    cases b
    · show (44 :: (Lib.decDigits c ++ txtT false cs)).length ≤ _
      rw [List.length_cons, List.length_append, List.length_cons]; omega
    · show (Lib.decDigits c ++ txtT false cs).length ≤ _
      rw [List.length_append, List.length_cons]; omega
theorem ctxt_l (cs : List Nat) (h64 : ∀ c ∈ cs, c < 64) (hl : cs.length ≤ 64) : ∀ (d i : Nat) (out : List UInt8), i + d = cs.length → out.length ≤ 3 * i → f225.l0a 0 (B out) (ip1 cs).length (fun i => (ip1 cs).getD i .top) (i : Int) = some (.sc (.string (B (out ++ txtT (i == 0) (cs.drop i))))) := by
  intro d
  induction d with
  | zero =>
    intro i out h ho
    rw [f225.l0a_eq]
    refine im (by rw [decide_eq_true_eq, ip1_len]; omega) ?_
    rw [List.drop_eq_nil_of_le (by omega)]
    have : txtT (i == 0) [] = [] := by cases (i == 0) <;> rfl
    rw [this, List.append_nil]
  | succ d ih =>
    intro i out h ho
    have hi : i < cs.length := by omega
    have hc := h64 _ (List.getElem_mem hi)
    have hdl := dd_len 1 cs[i] (by omega)
    rw [f225.l0a_eq]
    refine ip (by rw [decide_eq_true_eq, ip1_len]; omega) ?_
    have join : ∀ out' : List UInt8, out'.length ≤ 3 * i + 1 → f225.j1a 0 (B out') (ip1 cs).length (fun i => (ip1 cs).getD i .top) (i : Int) = some (.sc (.string (B (out' ++ (Lib.decDigits cs[i] ++ txtT false (cs.drop (i + 1))))))) := by
      intro out' ho'
      refine (f225.j1a_eq 0 _ _ _ _).trans ?_
      rw [Int.toNat_natCast, ip1_get hi]
      have hd := digits_ev (n := (cs[i] : Int)) (by omega) (by omega)
      rw [Int.toNat_natCast] at hd
      refine ip (by omega) (ip (by rw [ip1_len]; omega) (ip rfl (cb hd rfl (ip ?_ ?_))))
      · show (B out').size + (B (Lib.decDigits cs[i])).size ≤ _
        rw [B_size, B_size]; omega
      · show f225.l0a 0 (B out' ++ B (Lib.decDigits cs[i])) (ip1 cs).length (fun i => (ip1 cs).getD i .top) (IntKind.i64.wrap ((i : Int) + 1)) = _
        rw [B_append, nx hi (by omega), ih (i + 1) (out' ++ Lib.decDigits cs[i]) (by omega) (by rw [List.length_append]; omega), List.append_assoc]; rfl
    rw [List.drop_eq_getElem_cons hi]
    by_cases h0 : i = 0
    · subst h0
      exact im (by decide) (join out (by omega))
    · have e : (i == 0) = false := by rw [beq_eq_false_iff_ne]; exact h0
      rw [e]
      refine ip (by rw [decide_eq_true_eq]; omega) (ip (by rw [B_size]; omega) ?_)
      rw [show (⟨#[44]⟩ : ByteArray) = B [44] from rfl, B_append, join (out ++ [44]) (by rw [List.length_append]; simp only [List.length_cons, List.length_nil]; omega)]
      rw [List.append_assoc]; rfl
theorem ctxtr_ev {s : Nat} (hs : s < 2 ^ 64) : D 225 [.sc (.int .u64 (s : Int))] = some (.sc (.string (B (txtC (listS s))))) := by
  rw [f225_eq 0]
  refine cb (blist_ev hs) (by simp [hasSh, frozen, PV.isLst]) ?_
  have hl : (listS s).length ≤ 64 := by
    unfold listS
    exact Nat.le_trans (List.length_filter_le _ _) (by rw [List.length_range]; exact Nat.le_refl _)
  have := ctxt_l (listS s) (list_sorted s).2 hl (listS s).length 0 [] (Nat.zero_add _) (Nat.zero_le _)
  rw [List.drop_zero] at this
  rw [(txtT_eq _).1]
  exact this
def nI : Option Nat → Int
  | none => -1
  | some n => n
theorem runs_l (t : List UInt8) (hl : (t.length : Int) ≤ 9223372036854775000) : ∀ (d i s : Nat) (n : Option Nat), i + d = t.length → s < 2 ^ 64 → (∀ m, n = some m → m < 1000) → f197.l0a 0 (B t) (s : Int) (nI n) (i : Int) 0 false = f197.l0a 0 (B t) ((runsR (t.drop i) s n : Nat) : Int) (-1) ((t.length : Int) + 1) 0 false := by
  have fin : ∀ (i s : Nat) (n : Option Nat), i ≤ t.length → s < 2 ^ 64 → ∀ c : Bool, c = false → (if c = true then (if 0 ≤ (i : Int) then if (i : Int) < ((B t).size : Int) then f197.l0a 0 (B t) (s : Int) (IntKind.i64.wrap ((IntKind.i64.wrap ((IntKind.i64.wrap ((if 0 > nI n then 0 else nI n) * 10)) + (IntKind.i64.wrap (bt (B t) (i : Int))))) - 48)) (IntKind.i64.wrap ((i : Int) + 1)) 0 false else none else none) else
      Option.bind (α := PV) (β := PV) (if decide (nI n ≥ 0) = true then some (.sc (.bool (decide (nI n < 64)))) else some (.sc (.bool false))) fun r8 =>
      if r8.toBool = true then
        (D 224 [.sc (.int .i64 (nI n))]).bind fun r9 => if hasSh (.int .u64) r9 = true then
        (D 223 [.sc (.int .u64 (s : Int)), .sc (.int .u64 r9.toInt)]).bind fun r10 => if hasSh (.int .u64) r10 = true then
        f197.l0a 0 (B t) r10.toInt (-1) (IntKind.i64.wrap ((i : Int) + 1)) 0 false else none else none
      else f197.l0a 0 (B t) (s : Int) (-1) (IntKind.i64.wrap ((i : Int) + 1)) 0 false) = f197.l0a 0 (B t) ((finS s n : Nat) : Int) (nI none) ((i + 1 : Nat) : Int) 0 false := by
    intro i s n hi hs c hc
    subst hc
    refine im Bool.false_ne_true ?_
    have ew : IntKind.i64.wrap ((i : Int) + 1) = ((i + 1 : Nat) : Int) := by rw [w64 (by omega) (by omega)]; omega
    rw [bA, ew]
    cases n with
    | none => exact im (show ¬ (decide ((-1 : Int) ≥ 0) && decide ((-1 : Int) < 64)) = true by decide) rfl
    | some m =>
      by_cases h64 : m < 64
      · refine ip ?_ (cb (onec_ev h64) rfl (cb (join_ev hs (Nat.pow_lt_pow_right (by decide) h64)) rfl ?_))
        · show (decide (((m : Nat) : Int) ≥ 0) && decide (((m : Nat) : Int) < 64)) = true
          rw [decide_eq_true (by omega), decide_eq_true (by omega)]; rfl
        · show _ = f197.l0a 0 (B t) (((if m < 64 then s ||| 2 ^ m else s : Nat)) : Int) (nI none) ((i + 1 : Nat) : Int) 0 false
          rw [if_pos h64]; rfl
      · refine im ?_ ?_
        · show ¬ (decide (((m : Nat) : Int) ≥ 0) && decide (((m : Nat) : Int) < 64)) = true
          rw [decide_eq_false (show ¬ ((m : Nat) : Int) < 64 by omega), Bool.and_false]; decide
        · show _ = f197.l0a 0 (B t) (((if m < 64 then s ||| 2 ^ m else s : Nat)) : Int) (nI none) ((i + 1 : Nat) : Int) 0 false
          rw [if_neg h64]; rfl
  have finlt : ∀ (s : Nat) (n : Option Nat), s < 2 ^ 64 → finS s n < 2 ^ 64 := fun s n hs => runs_lt [] s n hs
  intro d
  induction d with
  | zero =>
    intro i s n h hs hn
    have hi : i = t.length := by omega
    rw [f197.l0a_eq]
    have c : decide ((i : Int) < ((B t).size : Int)) = false := by rw [decide_eq_false_iff_not, B_size]; omega
    refine ip (by rw [decide_eq_true_eq, B_size]; omega) ?_
    rw [c]
    rw [List.drop_eq_nil_of_le (by omega), runsR]
    have := fin i s n (by omega) hs false rfl
    rw [show ((i + 1 : Nat) : Int) = (t.length : Int) + 1 by omega] at this
    exact this
  | succ d ih =>
    intro i s n h hs hn
    have hi : i < t.length := by omega
    rw [f197.l0a_eq]
    have c1 : (0 : Int) ≤ (i : Int) := by omega
    have c2 : (i : Int) < ((B t).size : Int) := by rw [B_size]; omega
    have c : decide ((i : Int) < ((B t).size : Int)) = true := decide_eq_true c2
    refine ip (by rw [decide_eq_true_eq]; omega) ?_
    rw [c, B_bt hi, List.drop_eq_getElem_cons hi, runsR]
    simp only [if_pos c1, if_pos c2, bs, tb, if_true]
    have cond : ∀ {F : PV → Option PV} {r : Option PV}, F (.sc (.bool (isD t[i] && decide (nI n < 100)))) = r → Option.bind (α := PV) (β := PV) (if decide ((t[i].toNat : Int) ≥ 48) = true then some (.sc (.bool (decide ((t[i].toNat : Int) ≤ 57)))) else some (.sc (.bool false))) (fun r6 => Option.bind (α := PV) (β := PV) (if r6.toBool = true then some (.sc (.bool (decide (nI n < 100)))) else some (.sc (.bool false))) F) = r := by
      intro F r hF
      rw [bA, bA]
      have : (decide ((t[i].toNat : Int) ≥ 48) && decide ((t[i].toNat : Int) ≤ 57)) = isD t[i] := by
        unfold isD; rw [Bool.eq_iff_iff, Bool.and_eq_true, Bool.and_eq_true]; simp only [decide_eq_true_eq]; omega
      show F (.sc (.bool ((decide ((t[i].toNat : Int) ≥ 48) && decide ((t[i].toNat : Int) ≤ 57)) && decide (nI n < 100)))) = r
      rw [this]; exact hF
    have hn100 : (nI n < 100) ↔ n.getD 0 < 100 := by
      cases n with
      | none => simp [nI]
      | some m => simp [nI]; omega
    refine cond ?_
    by_cases hd : isD t[i] = true ∧ n.getD 0 < 100
    · rw [if_pos hd]
      have hr := isD_rng hd.1
      refine ip (by show (isD t[i] && decide (nI n < 100)) = true; rw [hd.1, decide_eq_true (hn100.2 hd.2)]; rfl) ?_
      have e0 : (if 0 > nI n then 0 else nI n) = ((n.getD 0 : Nat) : Int) := by
        cases n with
        | none => rfl
        | some m => exact if_neg (by show ¬ (0 : Int) > ((m : Nat) : Int); omega)
      have hg := hd.2
      have e1 : IntKind.i64.wrap ((IntKind.i64.wrap ((IntKind.i64.wrap ((if 0 > nI n then 0 else nI n) * 10)) + (IntKind.i64.wrap (t[i].toNat : Int)))) - 48) = ((n.getD 0 * 10 + (t[i].toNat - 48) : Nat) : Int) := by
        rw [e0]
        generalize n.getD 0 = g at *
        rw [w64 (x := (g : Int) * 10) (by omega) (by omega), w64 (x := (t[i].toNat : Int)) (by omega) (by omega), w64 (x := (g : Int) * 10 + (t[i].toNat : Int)) (by omega) (by omega), w64 (by omega) (by omega)]; omega
      rw [e1, nx hi (by omega)]
      exact ih (i + 1) s (some (n.getD 0 * 10 + (t[i].toNat - 48))) (by omega) hs (by intro m hm; cases hm; omega)
    · rw [if_neg hd]
      have hz : (isD t[i] && decide (nI n < 100)) = false := by
        rw [Bool.and_eq_false_iff]
        by_cases h1 : isD t[i] = true
        · right; rw [decide_eq_false_iff_not]; exact fun h => hd ⟨h1, hn100.1 h⟩
        · left; simpa using h1
      have := fin i s n (by omega) hs _ hz
      rw [B_bt hi] at this
      simp only [if_pos c1, if_pos c2] at this
      refine Eq.trans this ?_
      exact ih (i + 1) (finS s n) none (by omega) (finlt s n hs) (by intro m hm; cases hm)
def setPV : Option Nat → PV
  | none => .agg [.sc (.int .u64 0), .sc (.bool false)]
  | some s => .agg [.sc (.int .u64 (s : Int)), .sc (.bool true)]
theorem rcats_ev (t : List UInt8) (hl : (t.length : Int) ≤ 9223372036854775000) : D 197 [.sc (.string (B t))] = some (setPV (setR t)) := by
  rw [f197_eq 0]
  have h := runs_l t hl t.length 0 0 none (Nat.zero_add _) (by decide) (by intro m hm; cases hm)
  rw [List.drop_zero] at h
  refine Eq.trans h ?_
  rw [f197.l0a_eq]
  have hs := runs_lt t 0 none (by decide)
  refine im (by rw [decide_eq_true_eq, B_size]; omega) (cb (ctxtr_ev hs) rfl ?_)
  unfold setR
  have e : ((B (txtC (listS (runsR t 0 none)))).toList == (B t).toList) = decide (txtC (listS (runsR t 0 none)) = t) := by
    rw [B_toList, B_toList, Bool.eq_iff_iff, beq_iff_eq, decide_eq_true_iff]
  show (if (!((B (txtC (listS (runsR t 0 none)))).toList == (B t).toList)) = true then _ else _) = _
  rw [e]
  by_cases hx : txtC (listS (runsR t 0 none)) = t
  · rw [if_pos hx, decide_eq_true hx]
    exact im (by decide) rfl
  · rw [if_neg hx, decide_eq_false hx]
    exact ip rfl rfl
theorem every_ev : D 222 [] = some (.sc (.int .u64 18446744073709551615)) := denI_of (k := 100) (by kernel_rfl)
theorem rtop_ev : D 196 [] = some (.agg [.sc (.int .i64 15), .sc (.int .u64 18446744073709551615)]) := by
  rw [f196_eq 0]
  exact cb every_ev rfl rfl
theorem rltext_ev {n s : Nat} (hn : n < 16) (hs : s < 2 ^ 64) : D 198 [.agg [.sc (.int .i64 (n : Int)), .sc (.int .u64 (s : Int))]] = some (.sc (.string (B (texLb n s)))) := by
  rw [f198_eq 0, bO]
  have hc : (decide ((n : Int) < 0) || decide ((n : Int) > 15)) = false := by
    rw [Bool.or_eq_false_iff, decide_eq_false_iff_not, decide_eq_false_iff_not]; omega
  rw [hc]
  refine im Bool.false_ne_true (cb rtop_ev rfl ?_)
  unfold texLb
  have e : (((n : Int) == 15) && (((s : Int) == 18446744073709551615) && true)) = decide (n = 15 ∧ s = 18446744073709551615) := by
    rw [Bool.and_true, Bool.eq_iff_iff, Bool.and_eq_true, beq_iff_eq, beq_iff_eq, decide_eq_true_iff]; omega
  show (if (((n : Int) == 15) && (((s : Int) == 18446744073709551615) && true)) = true then _ else _) = _
  rw [e]
  by_cases h : n = 15 ∧ s = 18446744073709551615
  · rw [if_pos h]
    exact ip (decide_eq_true h) rfl
  rw [if_neg h]
  have hd := digits_ev (n := (n : Int)) (by omega) (by omega)
  rw [Int.toNat_natCast] at hd
  refine im (by rw [decide_eq_true_eq]; exact h) (cb hd rfl ?_)
  have e2 : (((s : Nat) : Int) != 0) = (s != 0) := by rw [Bool.eq_iff_iff, bne_iff_ne, bne_iff_ne]; omega
  rw [e2]
  have hdl := dd_len 1 n (by omega)
  by_cases h0 : s = 0
  · rw [if_neg (show ¬ s ≠ 0 by simpa using h0)]
    exact im (by simpa using h0) rfl
  · rw [if_pos h0]
    have hl : (listS s).length ≤ 64 := by
      unfold listS
      exact Nat.le_trans (List.length_filter_le _ _) (by rw [List.length_range]; exact Nat.le_refl _)
    have htl := txtT_len (listS s) true (list_sorted s).2
    rw [← (txtT_eq _).1] at htl
    refine ip (by simpa using h0) (ip ?_ (cb (ctxtr_ev hs) rfl (ip ?_ ?_)))
    · show (B (Lib.decDigits n)).size + 1 ≤ _; rw [B_size]; omega
    · show (B (Lib.decDigits n) ++ (⟨#[58]⟩ : ByteArray)).size + (B (txtC (listS s))).size ≤ _
      rw [show (⟨#[58]⟩ : ByteArray) = B [58] from rfl, B_append, B_size, B_size, List.length_append]; simp only [List.length_cons, List.length_nil]; omega
    · show some (PV.sc (.string ((B (Lib.decDigits n) ++ (⟨#[58]⟩ : ByteArray)) ++ B (txtC (listS s))))) = _
      rw [show (⟨#[58]⟩ : ByteArray) = B [58] from rfl, B_append, B_append]; simp
theorem setR_lt {t : List UInt8} {s : Nat} (h : setR t = some s) : s < 2 ^ 64 := by rw [setR_eq] at h; exact (catsP_text h).2
theorem rlab_l (t : List UInt8) (hl : (t.length : Int) ≤ 9223372036854775000) : ∀ (d n : Nat), n + d = 16 → ∃ x y, f164.l0a 0 (B t) (n : Int) 0 0 false = some (.agg [.sc (.int .i64 x), .sc (.int .u64 y), .sc (.bool (labR t d n))]) := by
  intro d
  induction d with
  | zero =>
    intro n h
    refine ⟨0, 0, ?_⟩
    rw [f164.l0a_eq]
    exact im (by rw [decide_eq_true_eq]; omega) rfl
  | succ d ih =>
    intro n h
    obtain ⟨x, y, e⟩ := ih (n + 1) (by omega)
    have hd := digits_ev (n := (n : Int)) (by omega) (by omega)
    rw [Int.toNat_natCast] at hd
    have hdl := dd_len 1 n (by omega)
    have nxn : IntKind.i64.wrap ((n : Int) + 1) = ((n + 1 : Nat) : Int) := nx (n := 16) (by omega) (by decide)
    rw [labR]
    have eq1 : ((B t).toList == (B (Lib.decDigits n)).toList) = decide (t = Lib.decDigits n) := by
      rw [B_toList, B_toList, Bool.eq_iff_iff, beq_iff_eq, decide_eq_true_iff]
    by_cases h1 : t = Lib.decDigits n
    · rw [if_pos h1]
      refine ⟨n, 0, ?_⟩
      rw [f164.l0a_eq]
      refine ip (by rw [decide_eq_true_eq]; omega) (cb hd rfl (ip ?_ rfl))
      show ((B t).toList == (B (Lib.decDigits n)).toList) = true
      rw [eq1, decide_eq_true_eq]; exact h1
    rw [if_neg h1]
    have start : ∀ {r : Option PV}, (Option.bind (α := PV) (β := PV) (if decide (((B t).size : Int) ≤ ((B (Lib.decDigits n)).size : Int)) = true then some (.sc (.bool true)) else Option.bind (α := PV) (β := PV) (Option.bind (α := PV) (β := PV) (Option.bind (α := PV) (β := PV) (Option.bind (α := PV) (β := PV) (if 0 ≤ IntKind.i64.wrap (((B (Lib.decDigits n)).size : Int) + 1) then (if IntKind.i64.wrap (((B (Lib.decDigits n)).size : Int) + 1) ≤ ((B t).size : Int) then (if 0 ≤ IntKind.i64.wrap (((B (Lib.decDigits n)).size : Int) + 1) then Option.bind (α := PV) (β := PV) (Option.bind (α := PV) (β := PV) (if (B (Lib.decDigits n)).size + 1 ≤ 9223372036854775807 then some (.sc (.bool (!(((B t).extract 0 (IntKind.i64.wrap (((B (Lib.decDigits n)).size : Int) + 1)).toNat).toList == ((B (Lib.decDigits n)) ++ (⟨#[58]⟩ : ByteArray)).toList)))) else none) fun r3 => some (.sc (.bool r3.toBool))) (fun r4 => some (.sc (.bool r4.toBool))) else none) else none) else none) fun r5 => some (.sc (.bool r5.toBool))) fun r6 => some (.sc (.bool r6.toBool))) fun r7 => some (.sc (.bool r7.toBool))) (fun r8 => some (.sc (.bool r8.toBool)))) (fun r9 => if r9.toBool = true then f164.l0a 0 (B t) (IntKind.i64.wrap ((n : Int) + 1)) 0 0 false else
        if 0 ≤ ((B t).size : Int) then (if ((B t).size : Int) ≤ ((B t).size : Int) then (if 0 ≤ IntKind.i64.wrap (((B (Lib.decDigits n)).size : Int) + 1) then (if IntKind.i64.wrap (((B (Lib.decDigits n)).size : Int) + 1) ≤ ((B t).size : Int) then
          (D 197 [.sc (.string ((B t).extract (IntKind.i64.wrap (((B (Lib.decDigits n)).size : Int) + 1)).toNat ((B t).size : Int).toNat))]).bind fun r10 => if hasSh (.agg [(.int .u64), .bool]) r10 = true then
            Option.bind (α := PV) (β := PV) (if (cel 1 r10.cells).toBool = true then Option.bind (α := PV) (β := PV) ((D 198 [.agg [.sc (.int .i64 (n : Int)), .sc (.int .u64 ((cel 0 r10.cells).toInt))]]).bind fun r11 => if hasSh .str r11 = true then some (.sc (.bool (r11.toStr.toList == (B t).toList))) else none) (fun r12 => some (.sc (.bool r12.toBool))) else some (.sc (.bool false))) fun r13 =>
            if r13.toBool = true then some (.agg [.sc (.int .i64 (n : Int)), .sc (.int .u64 ((cel 0 r10.cells).toInt)), .sc (.bool true)]) else f164.l0a 0 (B t) (IntKind.i64.wrap ((n : Int) + 1)) 0 0 false else none
          else none) else none) else none) else none)) = r → f164.l0a 0 (B t) (n : Int) 0 0 false = r := by
      intro r hr
      rw [f164.l0a_eq]
      refine ip (by rw [decide_eq_true_eq]; omega) (cb hd rfl (im ?_ hr))
      show ¬ ((B t).toList == (B (Lib.decDigits n)).toList) = true
      rw [eq1, decide_eq_true_eq]; exact h1
    rw [nxn] at start
    have ew : IntKind.i64.wrap (((B (Lib.decDigits n)).size : Int) + 1) = (((Lib.decDigits n).length + 1 : Nat) : Int) := by
      rw [B_size, w64 (by omega) (by omega)]; omega
    rw [ew, ext_drop', Int.toNat_natCast] at start
    by_cases h2 : t.length ≤ (Lib.decDigits n).length
    · rw [if_pos (.inl h2)]
      refine ⟨x, y, start (ob3 (b := true) (ip ?_ rfl) (ip rfl e))⟩
      rw [decide_eq_true_eq, B_size, B_size]; omega
    have c1 : ¬ decide (((B t).size : Int) ≤ ((B (Lib.decDigits n)).size : Int)) = true := by rw [decide_eq_true_eq, B_size, B_size]; omega
    have c2 : (((Lib.decDigits n).length + 1 : Nat) : Int) ≤ ((B t).size : Int) := by rw [B_size]; omega
    have c3 : (B (Lib.decDigits n)).size + 1 ≤ 9223372036854775807 := by rw [B_size]; omega
    have ex : ((B t).extract 0 ((Lib.decDigits n).length + 1)) = B (t.take ((Lib.decDigits n).length + 1)) := by
      rw [B_extract, List.drop_zero, Nat.sub_zero]
    have eq2 : ((B (t.take ((Lib.decDigits n).length + 1))).toList == ((B (Lib.decDigits n)) ++ (⟨#[58]⟩ : ByteArray)).toList) = decide (t.take ((Lib.decDigits n).length + 1) = Lib.decDigits n ++ [58]) := by
      rw [show (⟨#[58]⟩ : ByteArray) = B [58] from rfl, B_append, B_toList, B_toList, Bool.eq_iff_iff, beq_iff_eq, decide_eq_true_iff]
    rw [ex, eq2] at start
    have mid : ∀ {b : Bool} {F : PV → Option PV} {r : Option PV}, decide (t.take ((Lib.decDigits n).length + 1) = Lib.decDigits n ++ [58]) = !b → F (.sc (.bool b)) = r → Option.bind (α := PV) (β := PV) (if decide (((B t).size : Int) ≤ ((B (Lib.decDigits n)).size : Int)) = true then some (.sc (.bool true)) else Option.bind (α := PV) (β := PV) (Option.bind (α := PV) (β := PV) (Option.bind (α := PV) (β := PV) (Option.bind (α := PV) (β := PV) (if 0 ≤ (((Lib.decDigits n).length + 1 : Nat) : Int) then (if (((Lib.decDigits n).length + 1 : Nat) : Int) ≤ ((B t).size : Int) then (if 0 ≤ (((Lib.decDigits n).length + 1 : Nat) : Int) then Option.bind (α := PV) (β := PV) (Option.bind (α := PV) (β := PV) (if (B (Lib.decDigits n)).size + 1 ≤ 9223372036854775807 then some (.sc (.bool (!decide (t.take ((Lib.decDigits n).length + 1) = Lib.decDigits n ++ [58])))) else none) fun r3 => some (.sc (.bool r3.toBool))) (fun r4 => some (.sc (.bool r4.toBool))) else none) else none) else none) fun r5 => some (.sc (.bool r5.toBool))) fun r6 => some (.sc (.bool r6.toBool))) fun r7 => some (.sc (.bool r7.toBool))) (fun r8 => some (.sc (.bool r8.toBool)))) F = r := by
      intro b F r hb0 hF
      rw [hb0, Bool.not_not]
      exact ob3 (b := b) (im c1 (ob3 (b := b) (ob3 (b := b) (ob3 (b := b) (ob3 (b := b) (ip (by omega) (ip c2 (ip (by omega) (ob3 (b := b) (ob3 (b := b) (ip c3 rfl) rfl) rfl)))) rfl) rfl) rfl) rfl)) hF
    by_cases h3 : t.take ((Lib.decDigits n).length + 1) = Lib.decDigits n ++ [58]
    · rw [if_neg (by rintro (h | h); exact h2 h; exact h h3)]
      have hr := rcats_ev (t.drop ((Lib.decDigits n).length + 1)) (by rw [List.length_drop]; omega)
      cases hS : setR (t.drop ((Lib.decDigits n).length + 1)) with
      | none =>
        rw [hS] at hr
        exact ⟨x, y, start (mid (b := false) (by rw [decide_eq_true h3]; rfl) (im Bool.false_ne_true (ip (by omega) (ip (Int.le_refl _) (ip (by omega) (ip c2 (cb hr rfl (ob3 (b := false) (im Bool.false_ne_true rfl) (im Bool.false_ne_true e)))))))))⟩
      | some s =>
        rw [hS] at hr
        have ht := rltext_ev (show n < 16 by omega) (setR_lt hS)
        have eq3 : ((B (texLb n s)).toList == (B t).toList) = decide (texLb n s = t) := by
          rw [B_toList, B_toList, Bool.eq_iff_iff, beq_iff_eq, decide_eq_true_iff]
        have hin : ∀ b : Bool, decide (texLb n s = t) = b → Option.bind (α := PV) (β := PV) (if true = true then Option.bind (α := PV) (β := PV) ((D 198 [.agg [.sc (.int .i64 (n : Int)), .sc (.int .u64 (s : Int))]]).bind fun r11 => if hasSh .str r11 = true then some (.sc (.bool (r11.toStr.toList == (B t).toList))) else none) (fun r12 => some (.sc (.bool r12.toBool))) else some (.sc (.bool false))) some = some (.sc (.bool b)) := by
          intro b hb0
          refine ob3 (b := b) (ip rfl (ob3 (b := b) (cb ht rfl ?_) rfl)) rfl
          show some (PV.sc (.bool ((B (texLb n s)).toList == (B t).toList))) = _
          rw [eq3, hb0]
        dsimp only
        by_cases h4 : texLb n s = t
        · rw [if_pos h4]
          refine ⟨n, s, start (mid (b := false) (by rw [decide_eq_true h3]; rfl) (im Bool.false_ne_true (ip (by omega) (ip (Int.le_refl _) (ip (by omega) (ip c2 (cb hr rfl (ob3 (b := true) (ip rfl (ob3 (b := true) (cb ht rfl ?_) rfl)) (ip rfl rfl)))))))))⟩
          show some (PV.sc (.bool ((B (texLb n s)).toList == (B t).toList))) = _
          rw [eq3, decide_eq_true h4]
        · rw [if_neg h4]
          refine ⟨x, y, start (mid (b := false) (by rw [decide_eq_true h3]; rfl) (im Bool.false_ne_true (ip (by omega) (ip (Int.le_refl _) (ip (by omega) (ip c2 (cb hr rfl (ob3 (b := false) (ip rfl (ob3 (b := false) (cb ht rfl ?_) rfl)) (im Bool.false_ne_true e)))))))))⟩
          show some (PV.sc (.bool ((B (texLb n s)).toList == (B t).toList))) = _
          rw [eq3, decide_eq_false h4]
    · rw [if_pos (.inr h3)]
      exact ⟨x, y, start (mid (b := true) (by rw [decide_eq_false h3]; rfl) (ip rfl e))⟩
theorem rlab_ev (t : List UInt8) (hl : (t.length : Int) ≤ 9223372036854775000) : ∃ x y, D 164 [.sc (.string (B t))] = some (.agg [.sc (.int .i64 x), .sc (.int .u64 y), .sc (.bool (labP t))]) := by
  rw [f164_eq 0, lab_same]
  have he : ((B t).toList == (⟨#[116, 111, 112]⟩ : ByteArray).toList) = decide (t = topT) := by
    rw [show (⟨#[116, 111, 112]⟩ : ByteArray) = B topT from rfl, B_toList, B_toList, Bool.eq_iff_iff, beq_iff_eq, decide_eq_true_iff]
  rw [he]
  unfold labQ
  by_cases ht : t = topT
  · refine ⟨15, 18446744073709551615, ip (decide_eq_true ht) (cb rtop_ev rfl ?_)⟩
    rw [ht, beq_self_eq_true, Bool.true_or]; rfl
  · obtain ⟨x, y, e⟩ := rlab_l t hl 16 0 rfl
    refine ⟨x, y, im (by rw [decide_eq_true_eq]; exact ht) (Eq.trans e ?_)⟩
    rw [show (t == topT) = false by rw [beq_eq_false_iff_ne]; exact ht, Bool.false_or]
end Go.Den.EF
/- Trees: how the reference counts, lists and compares them. -/
set_option linter.unusedVariables false
set_option linter.unusedSimpArgs false
set_option maxRecDepth 100000
namespace Go.Den.EF
open Go Go.Proofs
theorem frozen_len (k : Nat) (xs : List PV) : (frozen k xs).len = xs.length := rfl
theorem frozen_at (k : Nat) (xs : List PV) : (frozen k xs).at = fun i => xs.getD i .top := rfl
theorem frozen_sh (k : Nat) (xs : List PV) : hasSh (.lst k) (frozen k xs) = true := by simp [hasSh, frozen, PV.isLst]
theorem range_at (xs : List PV) : (List.range xs.length).map (fun i => xs.getD i .top) = xs := by
  apply List.ext_getElem
  · simp
  · intro i h1 h2; simp [h2]
theorem at_i {l : List Nod} {i : Nat} (h : i < l.length) : (pvs l).getD ((i : Int).toNat) .top = l[i].pv := by
  rw [Int.toNat_natCast]
  exact pvs_get h
theorem next_i {i : Nat} (h : i < 4611686018427387904) : IntKind.i64.wrap ((i : Int) + 1) = ((i + 1 : Nat) : Int) := by
  rw [w64 (by omega) (by omega)]; omega
/-- All nodes, in order. -/
theorem list_ev : ∀ (c : Nat) (n : Nod), n.count ≤ c → n.count ≤ 1000000 → D 51 [n.pv] = some (frozen 14 (pvs n.list))
  | 0, .mk _ _ _ _ _ l, h, _ => by rw [Nod.count] at h; omega
  | c + 1, .mk kind op v a b l, h, hc => by
    rw [Nod.count] at h hc
    simp only [Nod.pv, frozen]
    rw [f51_eq 0]
    refine ip (by simp) ?_
    have loop : ∀ (j i : Nat) (out : List PV), l.length - i = j → i ≤ l.length → out.length + counts (l.drop i) ≤ 1000001 → f51.l0a 0 (i : Int) kind op v.kind v.num v.text a.row a.col a.hr a.hc b.row b.col b.hr b.hc (pvs l).length (fun i => (pvs l).getD i .top) out = some (frozen 14 (out ++ pvs (lists (l.drop i)))) := by
      intro j
      induction j with
      | zero =>
        intro i out hj hi ho
        have hpl := pvs_len l
        rw [f51.l0a_eq]
        have : i = l.length := by omega
        subst this
        refine im (fun hh => by have := of_decide_eq_true hh; omega) ?_
        rw [List.drop_length, lists, pvs, List.append_nil]
      | succ j ih =>
        intro i out hj hi ho
        have hi' : i < l.length := by omega
        have hlen := len_counts l
        rw [drop_cons hi', counts] at ho
        have hpl := pvs_len l
        rw [f51.l0a_eq]
        refine ip (decide_eq_true (by omega)) (ip (by omega) (ip (by omega) (ip (by rw [at_i hi']; exact sh_pv _) ?_)))
        rw [at_i hi']
        have hle := count_mem (List.getElem_mem hi')
        have IH := list_ev c l[i] (by omega) (by omega)
        refine Go.Den.sb (by rw [← rb_pv] at IH; exact IH) (ip (frozen_sh _ _) ?_)
        rw [frozen_len, frozen_at, range_at]
        have hl : (pvs l[i].list).length = l[i].count := by rw [pvs_len, list_len]
        refine ip (by rw [hl]; constructor <;> omega) ?_
        rw [next_i (by omega)]
        have h5 := ih (i + 1) (out ++ pvs l[i].list) (by omega) (by omega) (by rw [List.length_append, hl]; omega)
        refine h5.trans ?_
        rw [drop_cons hi', lists, pvs_app, List.append_assoc]
    have := loop l.length 0 [Nod.pv (.mk kind op v a b l)] (by omega) (Nat.zero_le _) (by rw [List.drop_zero]; simp; omega)
    simp only [Nod.pv, frozen] at this
    refine this.trans ?_
    rw [Nod.list, pvs, List.drop_zero]
    rfl
/-- How deep. -/
theorem rdeep_ev : ∀ (c : Nat) (n : Nod), n.count ≤ c → n.count ≤ 1000000 → D 17 [n.pv] = some (.sc (.int .i64 n.deep))
  | 0, .mk _ _ _ _ _ l, h, _ => by rw [Nod.count] at h; omega
  | c + 1, .mk kind op v a b l, h, hc => by
    rw [Nod.count] at h hc
    simp only [Nod.pv, frozen]
    rw [f17_eq 0]
    have loop : ∀ (j i : Nat) (out : Nat), l.length - i = j → i ≤ l.length → out ≤ 1000001 → f17.l0a 0 (out : Int) (i : Int) kind op v.kind v.num v.text a.row a.col a.hr a.hc b.row b.col b.hr b.hc (pvs l).length (fun i => (pvs l).getD i .top) = some (.sc (.int .i64 ((max out (if i < l.length then deeps (l.drop i) + 1 else 0) : Nat) : Int))) := by
      intro j
      induction j with
      | zero =>
        intro i out hj hi ho
        have hpl := pvs_len l
        rw [f17.l0a_eq]
        have : i = l.length := by omega
        subst this
        refine im (fun hh => by have := of_decide_eq_true hh; omega) ?_
        rw [if_neg (by omega)]
        congr 3
        omega
      | succ j ih =>
        intro i out hj hi ho
        have hi' : i < l.length := by omega
        have hlen := len_counts l
        have hpl := pvs_len l
        rw [f17.l0a_eq]
        refine ip (decide_eq_true (by omega)) (ip (by omega) (ip (by omega) (ip (by rw [at_i hi']; exact sh_pv _) ?_)))
        rw [at_i hi']
        have hle := count_mem (List.getElem_mem hi')
        have hdl := deep_le l[i]
        have IH := rdeep_ev c l[i] (by omega) (by omega)
        refine Go.Den.sb (by rw [← rb_pv] at IH; exact IH) (ip rfl ?_)
        have ew : IntKind.i64.wrap ((l[i].deep : Int) + 1) = ((l[i].deep + 1 : Nat) : Int) := next_i (by omega)
        have ei : IntKind.i64.wrap ((i : Int) + 1) = ((i + 1 : Nat) : Int) := next_i (by omega)
        have key : ∀ o : Nat, o = max out (l[i].deep + 1) → f17.l0a 0 (o : Int) ((i + 1 : Nat) : Int) kind op v.kind v.num v.text a.row a.col a.hr a.hc b.row b.col b.hr b.hc (pvs l).length (fun i => (pvs l).getD i .top) = some (.sc (.int .i64 ((max out (if i < l.length then deeps (l.drop i) + 1 else 0) : Nat) : Int))) := fun o ho' => by
          refine (ih (i + 1) o (by omega) (by omega) (by omega)).trans ?_
          congr 3
          rw [if_pos hi', drop_cons hi', deeps]
          by_cases h2 : i + 1 < l.length
          · rw [if_pos h2]; omega
          · rw [if_neg h2, List.drop_eq_nil_of_le (by omega), deeps]; omega
        by_cases hd : l[i].deep + 1 > out
        · refine ip ?_ ?_
          · show decide (IntKind.i64.wrap ((l[i].deep : Int) + 1) > (out : Int)) = true
            rw [ew]
            exact decide_eq_true (by omega)
          · show f17.l0a 0 (IntKind.i64.wrap ((l[i].deep : Int) + 1)) (IntKind.i64.wrap ((i : Int) + 1)) _ _ _ _ _ _ _ _ _ _ _ _ _ _ _ = _
            rw [ew, ei]
            exact key _ (by omega)
        · refine im (fun hh => ?_) ?_
          · have h3 : decide (IntKind.i64.wrap ((l[i].deep : Int) + 1) > (out : Int)) = true := hh
            rw [ew] at h3
            have := of_decide_eq_true h3
            omega
          · rw [ei]
            exact key out (by omega)
    have := loop l.length 0 1 (by omega) (Nat.zero_le _) (by omega)
    refine this.trans ?_
    rw [Nod.deep]
    congr 3
    cases l with
    | nil => simp [deeps]
    | cons x l => rw [if_pos (by simp), List.drop_zero]; omega
end Go.Den.EF
/- Which trees the reference calls right. -/
set_option linter.unusedVariables false
set_option linter.unusedSimpArgs false
set_option maxRecDepth 100000
namespace Go.Den.EF
open Go Go.Proofs
theorem rplain_ev (b : UInt8) : D 113 [.sc (.int .u8 (b.toNat : Int))] = some (.sc (.bool (plainB b))) := by
  rw [f113_eq 0, bA]
  show some (PV.sc (.bool (decide ((b.toNat : Int) ≥ 32) && ((b.toNat : Int) != 127)))) = _
  congr 3
  unfold plainB
  rw [Bool.eq_iff_iff, Bool.and_eq_true, Bool.and_eq_true, decide_eq_true_iff, decide_eq_true_iff, bne_iff_ne, bne_iff_ne]
  omega
theorem rmay08_ev (x : Int) (h : I64 x) : D 156 [.sc (.int .i64 x)] = some (.sc (.bool (decide (May x)))) := by
  rw [f156_eq 0]
  congr 3
  unfold I64 at h
  rw [Bool.eq_iff_iff, decide_eq_true_iff, decide_eq_true_iff]
  unfold May; omega
theorem rvmay_ev (v : Vl) (hn : I64 v.num) : D 114 [Vl.pv v] = some (.sc (.bool (mayV v))) := by
  refine (f114_eq 0 _ _ _).trans ?_
  have h8 := rmay08_ev v.num hn
  obtain ⟨kind, num, text⟩ := v
  dsimp only at h8
  have es : decide ((text.size : Int) ≤ 256) = decide (text.size ≤ 256) := decide_eq_decide.2 (by omega)
  unfold mayV
  dsimp only
  rw [em_eq, es]
  generalize (text.size == 0) = z
  generalize decide (text.size ≤ 256) = y
  simp only [h8, bs, shb, if_true, tb, bA, bO]
  have q : ∀ m : Int, (kind == m) = decide (kind = m) := fun m => by rw [Bool.eq_iff_iff, beq_iff_eq, decide_eq_true_iff]
  rw [q 0, q 1, q 2, q 3, q 4]
  by_cases h0 : kind = 0
  · subst h0
    rw [if_pos rfl]
    simp only [Int.reduceEq, decide_false, decide_true, Bool.false_and, Bool.true_and, Bool.or_false]
    congr 3; exact Bool.and_comm _ _
  rw [if_neg h0, decide_eq_false h0]
  by_cases h1 : kind = 1
  · subst h1
    rw [if_pos rfl]
    simp only [Int.reduceEq, decide_false, decide_true, Bool.false_and, Bool.true_and, Bool.or_false, Bool.false_or]
    congr 3; exact Bool.and_comm _ _
  rw [if_neg h1, decide_eq_false h1]
  by_cases h2 : kind = 2
  · subst h2
    rw [if_pos rfl]
    simp only [Int.reduceEq, decide_false, decide_true, Bool.false_and, Bool.true_and, Bool.or_false, Bool.false_or]
  rw [if_neg h2, decide_eq_false h2]
  by_cases h3 : kind = 3
  · subst h3
    rw [if_pos rfl]
    simp only [Int.reduceEq, decide_false, decide_true, Bool.false_and, Bool.true_and, Bool.or_false, Bool.false_or]
    congr 3; exact Bool.and_comm _ _
  rw [if_neg h3, decide_eq_false h3]
  by_cases h4 : kind = 4
  · subst h4
    rw [if_pos rfl]
    simp only [decide_true, Bool.false_and, Bool.true_and, Bool.or_false, Bool.false_or]
    congr 3
    cases z <;> cases decide (num ≥ 1) <;> cases decide (num ≤ 7) <;> rfl
  · rw [if_neg h4, decide_eq_false h4]
    simp only [Bool.false_and, Bool.or_false, Bool.false_or]
theorem rref_ev (r : Rf) : D 115 [r.pv] = some (.sc (.bool (refM r))) := by
  have hm : D 57 [.agg [.sc (.int .i64 r.row), .sc (.int .i64 r.col)]] = some (.sc (.bool (refM r))) := by
    refine (f57_eq 0 _ _).trans ?_
    rw [bA, bA, bA]
    show some (PV.sc (.bool (((decide (r.row ≥ 0) && decide (r.row ≤ 998)) && decide (r.col ≥ 0)) && decide (r.col ≤ 701)))) = _
    congr 3
    unfold refM
    rw [Bool.eq_iff_iff]
    simp only [Bool.and_eq_true, decide_eq_true_eq]
    omega
  exact (f115_eq 0 _ _ _ _).trans (cb hm rfl rfl)
/-- An argument, to the reference. -/
def argR (k : UInt8) (n : Nod) : Bool := if k = 118 ∨ k = 101 then n.kind != 4 else if k = 114 ∨ k = 110 then decide (n.kind ≥ 2) && decide (n.kind ≤ 4) else if k = 116 then (n.kind == 1 && n.val.kind == 2) && labP (tb8 n.val.text) else k == 108
theorem argR_eq {k : UInt8} (h : k = 108 ∨ k = 114 ∨ k = 110 ∨ k = 116 ∨ k = 118 ∨ k = 101) (n : Nod) : argR k n = fitsA k n := by
  unfold argR fitsA
  have e : (decide (n.kind ≥ 2) && decide (n.kind ≤ 4)) = (n.kind == 3 || n.kind == 4 || n.kind == 2) := by
    rw [Bool.eq_iff_iff]
    simp only [Bool.and_eq_true, Bool.or_eq_true, decide_eq_true_eq, beq_iff_eq]
    omega
  rcases h with rfl | rfl | rfl | rfl | rfl | rfl
  · rfl
  · rw [if_neg (by decide), if_pos (by decide), if_neg (by decide), if_pos (by decide), e]
  · rw [if_neg (by decide), if_pos (by decide), if_neg (by decide), if_pos (by decide), e]
  · rfl
  · rfl
  · rfl
theorem rarg_ev (c : UInt8) (n : Nod) (hs : n.val.text.size ≤ 1000000000000000) : D 116 [.sc (.int .u8 (c.toNat : Int)), n.pv] = some (.sc (.bool (argR c n))) := by
  obtain ⟨kind, op, v, a, b, l⟩ := n
  refine (f116_eq 0 _ _ _ _ _ _ _ _ _ _ _ _ _ _ _ _).trans ?_
  have hq : ∀ m : UInt8, (((c.toNat : Nat) : Int) == (m.toNat : Int)) = decide (c = m) := by
    intro m
    rw [Bool.eq_iff_iff, beq_iff_eq, decide_eq_true_iff]
    constructor
    · intro h; exact UInt8.toNat_inj.1 (by omega)
    · intro h; rw [h]
  have q1 : (((c.toNat : Nat) : Int) == 108) = decide (c = 108) := hq 108
  have q2 : (((c.toNat : Nat) : Int) == 114) = decide (c = 114) := hq 114
  have q3 : (((c.toNat : Nat) : Int) == 110) = decide (c = 110) := hq 110
  have q4 : (((c.toNat : Nat) : Int) == 116) = decide (c = 116) := hq 116
  have q5 : (((c.toNat : Nat) : Int) == 118) = decide (c = 118) := hq 118
  have q6 : (((c.toNat : Nat) : Int) == 101) = decide (c = 101) := hq 101
  rw [bO, q1, q2, q3, q4, q5, q6]
  unfold argR
  by_cases h1 : c = 118 ∨ c = 101
  · rw [if_pos h1]
    refine ip ?_ rfl
    rcases h1 with h | h
    · rw [decide_eq_true h]; rfl
    · rw [decide_eq_true h, Bool.or_true]; rfl
  rw [if_neg h1]
  refine im (by show ¬ (decide (c = 118) || decide (c = 101)) = true; rw [decide_eq_false (fun h => h1 (.inl h)), decide_eq_false (fun h => h1 (.inr h))]; decide) ?_
  rw [bO]
  by_cases h2 : c = 114 ∨ c = 110
  · rw [if_pos h2]
    refine ip ?_ ?_
    · rcases h2 with h | h
      · rw [decide_eq_true h]; rfl
      · rw [decide_eq_true h, Bool.or_true]; rfl
    · rw [bA]; rfl
  rw [if_neg h2]
  refine im (by show ¬ (decide (c = 114) || decide (c = 110)) = true; rw [decide_eq_false (fun h => h2 (.inl h)), decide_eq_false (fun h => h2 (.inr h))]; decide) ?_
  by_cases h3 : c = 116
  · rw [if_pos h3]
    refine ip (decide_eq_true h3) ?_
    obtain ⟨x, y, e⟩ := rlab_ev (tb8 v.text) (by
      have : v.text.size ≤ 1000000000000000 := hs
      rw [tb8_len]; omega)
    rw [tb8_B] at e
    rw [bA]
    show Option.bind (α := PV) (β := PV) (if (kind == 1 && v.kind == 2) = true then _ else _) _ = some (PV.sc (.bool ((kind == 1 && v.kind == 2) && labP (tb8 v.text))))
    by_cases hc : (kind == 1 && v.kind == 2) = true
    · refine ob3 (b := labP (tb8 v.text)) (ip hc (ob3 (b := labP (tb8 v.text)) (ob3 (b := labP (tb8 v.text)) (ob3 (b := labP (tb8 v.text)) (cb e rfl rfl) rfl) rfl) rfl)) ?_
      rw [hc]; rfl
    · refine ob3 (b := false) (im hc rfl) ?_
      have : (kind == 1 && v.kind == 2) = false := by simpa using hc
      rw [this]; rfl
  · rw [if_neg h3]
    refine im (by rw [decide_eq_true_eq]; exact h3) ?_
    congr 3
/-- The table of functions, to the reference. -/
def rkP : List PV := fnRows.map fun r => .sc (.string (B r.2))
theorem rrows_ev : D 165 [] = some (frozen 1 rkP) := (f165_eq 0).trans (by kernel_rfl)
theorem rkP_len : rkP.length = 78 := by unfold rkP; rw [List.length_map, rows_78]
theorem rkP_get {i : Nat} (h : i < fnRows.length) : rkP.getD i .top = .sc (.string (B fnRows[i].2)) := by simp [rkP, h]
theorem i64d {a : UInt8} (h : isD a = true) : IntKind.i64.wrap (IntKind.i64.wrap (a.toNat : Int) - 48) = ((a.toNat - 48 : Nat) : Int) := by
  have := isD_rng h
  rw [w64 (x := (a.toNat : Int)) (by omega) (by omega), w64 (by omega) (by omega)]; omega
theorem rfits_ev (fn : Int) {n : Nat} (hn : (n : Int) ≤ 9223372036854775807) : D 117 [.sc (.int .i64 fn), .sc (.int .i64 (n : Int))] = some (.sc (.bool (fitsF fn n))) := by
  rw [f117_eq 0, bO]
  dsimp +instances only [tb]
  by_cases h : 1 ≤ fn ∧ fn ≤ 78
  · have c : (decide (fn < 1) || decide (fn > 78)) = false := by
      rw [Bool.or_eq_false_iff, decide_eq_false_iff_not, decide_eq_false_iff_not]; omega
    rw [c]
    obtain ⟨i, rfl⟩ : ∃ i : Nat, fn = ((i + 1 : Nat) : Int) := ⟨fn.toNat - 1, by omega⟩
    have hi : i < fnRows.length := by rw [rows_78]; omega
    have ew : IntKind.i64.wrap (((i + 1 : Nat) : Int) - 1) = (i : Int) := by rw [w64 (by omega) (by omega)]; omega
    refine im Bool.false_ne_true (cb rrows_ev (by simp [hasSh, frozen, PV.isLst]) ?_)
    rw [ew]
    obtain ⟨a, b, k, e, ha, hb0⟩ := row_kinds (row_ok hi)
    have hg : (frozen 1 rkP).at (i : Int).toNat = .sc (.string (B (a :: b :: k))) := by
      rw [Int.toNat_natCast, ← e]; exact rkP_get hi
    rw [hg]
    unfold fitsF
    rw [rowP_get hi, e]
    have hl : ((frozen 1 rkP).len : Int) = 78 := by show ((rkP.length : Nat) : Int) = 78; rw [rkP_len]; rfl
    have c0 : (0 : Int) < ((B (a :: b :: k)).size : Int) := by rw [B_size]; simp; omega
    have c1 : (1 : Int) < ((B (a :: b :: k)).size : Int) := by rw [B_size]; simp; omega
    have b0 : bt (B (a :: b :: k)) 0 = (a.toNat : Int) := B_bt (l := a :: b :: k) (i := 0) (by simp)
    have b1 : bt (B (a :: b :: k)) 1 = (b.toNat : Int) := B_bt (l := a :: b :: k) (i := 1) (by simp)
    refine ip (by omega) (ip (by rw [hl]; omega) (ip rfl (ip c0 ?_)))
    dsimp +instances only [ts]
    rw [b0, b1, i64d ha, i64d hb0]
    simp only [if_pos c1, bs, tb]
    rw [bA]
    dsimp only [tb]
    congr 3
    rw [Bool.eq_iff_iff, Bool.and_eq_true, Bool.and_eq_true, decide_eq_true_iff, decide_eq_true_iff, decide_eq_true_iff, decide_eq_true_iff]
    omega
  · have c : (decide (fn < 1) || decide (fn > 78)) = true := by
      rw [Bool.or_eq_true, decide_eq_true_eq, decide_eq_true_eq]; omega
    rw [c]
    unfold fitsF rowP
    rw [if_neg h]
    exact ip rfl rfl
theorem rkind_ev {fn : Int} (h : 1 ≤ fn ∧ fn ≤ 78) {j : Nat} (hn : (j : Int) ≤ 1000000000) : D 118 [.sc (.int .i64 fn), .sc (.int .i64 (j : Int))] = some (.sc (.int .u8 ((kindF fn j).toNat : Int))) := by
  rw [f118_eq 0, bO, bO]
  dsimp +instances only [tb]
  have c : ((decide (fn < 1) || decide (fn > 78)) || decide ((j : Int) < 0)) = false := by
    rw [Bool.or_eq_false_iff, Bool.or_eq_false_iff, decide_eq_false_iff_not, decide_eq_false_iff_not, decide_eq_false_iff_not]; omega
  rw [c]
  obtain ⟨i, rfl⟩ : ∃ i : Nat, fn = ((i + 1 : Nat) : Int) := ⟨fn.toNat - 1, by omega⟩
  have hi : i < fnRows.length := by rw [rows_78]; omega
  have ew : IntKind.i64.wrap (((i + 1 : Nat) : Int) - 1) = (i : Int) := by rw [w64 (by omega) (by omega)]; omega
  refine im Bool.false_ne_true (cb rrows_ev (by simp [hasSh, frozen, PV.isLst]) ?_)
  rw [ew]
  obtain ⟨a, b, k, e, ha, hb0⟩ := row_kinds (row_ok hi)
  have h20 := row_20 (row_ok hi)
  rw [List.length_append, e] at h20
  have hg : (frozen 1 rkP).at (i : Int).toNat = .sc (.string (B (a :: b :: k))) := by
    rw [Int.toNat_natCast, ← e]; exact rkP_get hi
  rw [hg]
  unfold kindF
  rw [rowP_get hi, e]
  have hl : ((frozen 1 rkP).len : Int) = 78 := by show ((rkP.length : Nat) : Int) = 78; rw [rkP_len]; rfl
  have c1 : (1 : Int) < ((B (a :: b :: k)).size : Int) := by rw [B_size]; simp; omega
  have b1 : bt (B (a :: b :: k)) 1 = (b.toNat : Int) := B_bt (l := a :: b :: k) (i := 1) (by simp)
  refine ip (by omega) (ip (by rw [hl]; omega) (ip rfl (ip c1 ?_)))
  dsimp +instances only [ts]
  rw [b1, i64d hb0]
  have hkl : k.length ≤ 20 := by simp at h20; omega
  by_cases hg2 : b.toNat - 48 ≤ j
  · rw [if_pos hg2]
    exact ip (by rw [decide_eq_true_eq]; omega) rfl
  rw [if_neg hg2]
  have hsz : ((B (a :: b :: k)).size : Int) = (k.length : Int) + 2 := by rw [B_size]; simp; omega
  have e2 : IntKind.i64.wrap ((2 : Int) + (j : Int)) = ((2 + j : Nat) : Int) := by rw [w64 (by omega) (by omega)]; omega
  have e3 : IntKind.i64.wrap (((B (a :: b :: k)).size : Int) - 1) = ((k.length + 1 : Nat) : Int) := by rw [hsz, w64 (by omega) (by omega)]; omega
  refine im (by rw [decide_eq_true_eq]; omega) ?_
  rw [e2, e3]
  by_cases hj : 2 + j < k.length + 2
  · refine ip (by rw [decide_eq_true_eq, hsz]; omega) (ip (by omega) (ip (by rw [hsz]; omega) ?_))
    have hlt : 2 + j < (a :: b :: k).length := by simp only [List.length_cons]; omega
    rw [B_bt hlt, show min (2 + j) (k.length + 1) = 2 + j by omega, List.getD_eq_getElem?_getD, List.getElem?_eq_getElem hlt]; rfl
  · refine im (by rw [decide_eq_true_eq, hsz]; omega) (ip (by omega) (ip (by rw [hsz]; omega) ?_))
    have hlt : k.length + 1 < (a :: b :: k).length := by simp only [List.length_cons]; omega
    rw [B_bt hlt, show min (2 + j) (k.length + 1) = k.length + 1 by omega, List.getD_eq_getElem?_getD, List.getElem?_eq_getElem hlt]; rfl
def okKinds (r : List UInt8 × List UInt8) : Bool := match r.2 with
  | _ :: b :: k => (decide (b.toNat ≤ 48) || !k.isEmpty) && k.all (fun c => c == 108 || c == 114 || c == 110 || c == 116 || c == 118 || c == 101)
  | _ => false
theorem kinds_ok : fnRows.all okKinds = true := by decide
theorem kind_in {f : Int} {n i : Nat} (h : fitsF f n = true) (hi : i < n) : kindF f i = 108 ∨ kindF f i = 114 ∨ kindF f i = 110 ∨ kindF f i = 116 ∨ kindF f i = 118 ∨ kindF f i = 101 := by
  have hr := fits_rng h
  have hj : f.toNat - 1 < fnRows.length := by rw [rows_78]; omega
  have e := rowP_get hj
  rw [show ((f.toNat - 1 + 1 : Nat) : Int) = f by omega] at e
  have hk := List.all_eq_true.1 kinds_ok _ (List.getElem_mem hj)
  obtain ⟨a, b, k, e2, ha, hb0⟩ := row_kinds (row_ok hj)
  unfold okKinds at hk
  unfold fitsF at h
  unfold kindF
  rw [e, e2] at h ⊢
  rw [e2] at hk
  simp only [Bool.and_eq_true, Bool.or_eq_true, decide_eq_true_eq] at h hk
  dsimp only
  rw [if_neg (by omega)]
  have hne : k ≠ [] := by
    rcases hk.1 with h1 | h1
    · omega
    · intro e3; rw [e3] at h1; cases h1
  have hpos : 0 < k.length := List.length_pos_iff.2 hne
  obtain ⟨m, hx, hm⟩ : ∃ m, m < k.length ∧ min (2 + i) (k.length + 1) = m + 1 + 1 := ⟨min (2 + i) (k.length + 1) - 2, by omega, by omega⟩
  have hget : (a :: b :: k).getD (min (2 + i) (k.length + 1)) 0 = k[m] := by
    rw [hm]
    simp [List.getD_eq_getElem?_getD, hx]
  rw [hget]
  have := List.all_eq_true.1 hk.2 _ (List.getElem_mem hx)
  simp only [Bool.or_eq_true, beq_iff_eq] at this
  rcases this with ((((h1 | h1) | h1) | h1) | h1) | h1
  · exact .inl h1
  · exact .inr (.inl h1)
  · exact .inr (.inr (.inl h1))
  · exact .inr (.inr (.inr (.inl h1)))
  · exact .inr (.inr (.inr (.inr (.inl h1))))
  · exact .inr (.inr (.inr (.inr (.inr h1))))
theorem rcall_l (kind op : Int) (v : Vl) (a b : Rf) (l : List Nod) (hf : fitsF op l.length = true) (ht : ∀ n ∈ l, n.val.text.size ≤ 1000000000000000) : ∀ (d i : Nat), i + d = l.length → f60.l1a 0 (i : Int) kind op v.kind v.num v.text a.row a.col a.hr a.hc b.row b.col b.hr b.hc (pvs l).length (fun i => (pvs l).getD i .top) = some (.sc (.bool (fitsL op i (l.drop i)))) := by
  have hl9 := fits_le hf
  intro d
  induction d with
  | zero =>
    intro i h
    rw [f60.l1a_eq]
    refine im (by rw [decide_eq_true_eq, pvs_len]; omega) ?_
    rw [List.drop_eq_nil_of_le (by omega)]; rfl
  | succ d ih =>
    intro i h
    have hi : i < l.length := by omega
    rw [f60.l1a_eq]
    rw [Int.toNat_natCast, pvs_get hi, List.drop_eq_getElem_cons hi, fitsL]
    refine ip (by rw [decide_eq_true_eq, pvs_len]; omega) (cb (rkind_ev (fits_rng hf) (j := i) (by omega)) rfl (ip (by omega) (ip (by rw [pvs_len]; omega) (ip (sh_pv _) ?_))))
    have hfa := rarg_ev (kindF op i) l[i] (ht _ (List.getElem_mem hi))
    rw [argR_eq (kind_in hf hi), ← rb_pv] at hfa
    refine cb hfa rfl ?_
    by_cases hp : fitsA (kindF op i) l[i] = true
    · rw [hp, Bool.true_and]
      refine im (by decide) ?_
      rw [nx hi (by omega)]
      exact ih (i + 1) (by omega)
    · have : fitsA (kindF op i) l[i] = false := by simpa using hp
      rw [this, Bool.false_and]
      exact ip rfl rfl
theorem vz_eq (v : Vl) : (v.kind == 0 && (v.num == 0 && ((v.text.toList == (⟨#[]⟩ : ByteArray).toList) && true))) = isZV v := by
  rw [em_eq]; unfold isZV; rw [Bool.and_true, Bool.and_assoc]
theorem rz_eq (r : Rf) : (r.row == 0 && (r.col == 0 && (r.hr == false && (r.hc == false && true)))) = isZR r := by
  obtain ⟨x, y, p, q⟩ := r
  unfold isZR
  cases p <;> cases q <;> simp
theorem len0 (l : List Nod) : ((((pvs l).length : Nat) : Int) == 0) = l.isEmpty := by
  rw [pvs_len]
  cases l with
  | nil => rfl
  | cons x l => rw [List.isEmpty_cons, beq_eq_false_iff_ne, List.length_cons]; omega
theorem lit_all (v : Vl) (hn : I64 v.num) : ((tb8 v.text).all plainB && ((decide (v.kind ≥ 1) && decide (v.kind ≤ 3)) && (decide (v.num ≥ 0) && mayV v))) = litR v := by
  unfold mayV litR
  have hempty : v.text.size = 0 → (tb8 v.text).all plainB = true := by
    intro h
    have := tb8_len v.text
    rw [h] at this
    rw [List.eq_nil_of_length_eq_zero this]; rfl
  unfold I64 at hn
  by_cases h1 : v.kind = 1
  · rw [h1, if_neg (by decide), if_pos rfl, if_neg (by decide), if_pos rfl]
    by_cases hs : v.text.size = 0
    · rw [hempty hs, hs]
      by_cases hnn : 0 ≤ v.num
      · rw [decide_eq_true (show v.num ≥ 0 from hnn), decide_eq_true (show May v.num by unfold May; omega), decide_eq_true hn.2]; rfl
      · rw [decide_eq_false (show ¬ v.num ≥ 0 from hnn)]; rfl
    · have : (v.text.size == 0) = false := beq_eq_false_iff_ne.2 hs
      rw [this]; simp
  by_cases h2 : v.kind = 2
  · rw [h2, if_neg (by decide), if_neg (by decide), if_pos rfl, if_pos rfl]
    cases (tb8 v.text).all plainB
    · simp
    · rw [Bool.eq_iff_iff]
      simp only [Bool.and_eq_true, decide_eq_true_eq, beq_iff_eq]
      simp
      omega
  by_cases h3 : v.kind = 3
  · rw [h3, if_neg (by decide), if_neg (by decide), if_neg (by decide), if_pos rfl, if_neg (by decide), if_neg (by decide), if_pos rfl]
    by_cases hs : v.text.size = 0
    · rw [hempty hs, hs]
      rw [Bool.eq_iff_iff]
      simp only [Bool.and_eq_true, Bool.or_eq_true, decide_eq_true_eq, beq_iff_eq]
      simp
      omega
    · have : (v.text.size == 0) = false := beq_eq_false_iff_ne.2 hs
      rw [this]; simp
  · simp only [if_neg h1, if_neg h2, if_neg h3]
    have : (decide (v.kind ≥ 1) && decide (v.kind ≤ 3)) = false := by
      rw [Bool.and_eq_false_iff, decide_eq_false_iff_not, decide_eq_false_iff_not]; omega
    rw [this, Bool.false_and, Bool.and_false]
theorem rlit_l (kind op : Int) (v : Vl) (a b : Rf) (l : List Nod) (hn : I64 v.num) (hs : (v.text.size : Int) ≤ 9223372036854775807) : ∀ (d i : Nat), i + d = v.text.size → f60.l0a 0 (i : Int) kind op v.kind v.num v.text a.row a.col a.hr a.hc b.row b.col b.hr b.hc (pvs l).length (fun i => (pvs l).getD i .top) 0 0 false false =
    some (.sc (.bool (((tb8 v.text).drop i).all plainB && (((op == 0 && isZR a) && isZR b) && l.isEmpty && ((decide (v.kind ≥ 1) && decide (v.kind ≤ 3)) && (decide (v.num ≥ 0) && mayV v)))))) := by
  have htl := tb8_len v.text
  intro d
  induction d with
  | zero =>
    intro i h
    rw [f60.l0a_eq]
    refine im (by rw [decide_eq_true_eq]; omega) ?_
    rw [List.drop_eq_nil_of_le (by omega)]
    rw [rz_eq, rz_eq, len0, bA]
    dsimp +instances only [tb]
    rw [bA]
    dsimp +instances only [tb]
    rw [bA]
    dsimp +instances only [tb]
    rw [bA]
    dsimp +instances only [tb]
    rw [bA]
    dsimp +instances only [tb]
    rw [bA]
    dsimp +instances only [tb]
    have hm := rvmay_ev v hn
    show Option.bind (α := PV) (β := PV) (if _ = true then Option.bind (α := PV) (β := PV) (Option.bind (α := PV) (β := PV) ((D 114 [Vl.pv v]).bind fun r59 => if hasSh .bool r59 = true then some (.sc (.bool r59.toBool)) else none) fun r60 => some (.sc (.bool r60.toBool))) (fun r61 => some (.sc (.bool r61.toBool))) else some (.sc (.bool false))) (fun r62 => some (.sc (.bool r62.toBool))) = _
    simp only [hm, bs, shb, if_true, tb]
    rw [bA]
    show some (PV.sc (.bool _)) = some (PV.sc (.bool (true && _)))
    simp only [Bool.true_and, Bool.and_assoc, tb]
  | succ d ih =>
    intro i h
    have hi : i < (tb8 v.text).length := by omega
    rw [f60.l0a_eq]
    have hb0 : bt v.text (i : Int) = ((tb8 v.text)[i].toNat : Int) := by
      have := B_bt hi
      rw [tb8_B] at this
      exact this
    rw [hb0, List.drop_eq_getElem_cons hi, List.all_cons]
    refine ip (by rw [decide_eq_true_eq]; omega) (ip (by omega) (ip (by omega) (cb (rplain_ev _) rfl ?_)))
    by_cases hp : plainB (tb8 v.text)[i] = true
    · rw [hp, Bool.true_and]
      refine im (by decide) ?_
      rw [nx hi (by omega)]
      exact ih (i + 1) (by omega)
    · have : plainB (tb8 v.text)[i] = false := by simpa using hp
      rw [this, Bool.false_and, Bool.false_and]
      exact ip rfl rfl
def _root_.Go.Den.Nod.oneN (n : Nod) : Bool := match n with
  | .mk kind op v a b l => one1 kind op v a b l
theorem rone_ev (n : Nod) (hk : n.ok) (hts : n.val.text.size ≤ 1000000000000000) (ht : ∀ x ∈ (match n with | .mk _ _ _ _ _ l => l), x.val.text.size ≤ 1000000000000000) : D 60 [n.pv] = some (.sc (.bool n.oneN)) := by
  obtain ⟨kind, op, v, a, b, l⟩ := n
  rw [Nod.ok] at hk
  obtain ⟨⟨k1, k2⟩, _, k3⟩ := hk
  have hv : v.text.size ≤ 1000000000000000 := hts
  refine (f60_eq 0 _ _ _ _ _ _ _ _ _ _ _ _ _ _ _).trans ?_
  rw [vz_eq, rz_eq, rz_eq, len0, bA]
  dsimp +instances only [tb]
  rw [bA]
  dsimp +instances only [tb]
  show _ = some (PV.sc (.bool (one1 kind op v a b l)))
  unfold one1
  by_cases h1 : kind = 1
  · rw [if_pos h1]
    refine ip (by rw [h1]; rfl) ?_
    have := rlit_l kind op v a b l k2 (by omega) v.text.size 0 (Nat.zero_add _)
    rw [List.drop_zero] at this
    refine Eq.trans this ?_
    rw [← lit_all v k2]
    congr 3
    cases (tb8 v.text).all plainB <;> simp
  rw [if_neg h1]
  refine im (by simpa using h1) ?_
  by_cases h2 : kind = 2
  · rw [if_pos h2]
    refine ip (by rw [h2]; rfl) ?_
    rw [bA]
    dsimp +instances only [tb]
    rw [bA]
    dsimp only [tb]
    simp only [Bool.and_assoc]
  rw [if_neg h2]
  refine im (by simpa using h2) ?_
  by_cases h3 : kind = 3
  · rw [if_pos h3]
    refine ip (by rw [h3]; rfl) ?_
    rw [bA]
    dsimp +instances only [tb]
    rw [bA]
    dsimp +instances only [tb]
    rw [bA]
    dsimp +instances only [tb]
    have hr := rref_ev a
    show Option.bind (α := PV) (β := PV) (if _ = true then Option.bind (α := PV) (β := PV) (Option.bind (α := PV) (β := PV) ((D 115 [a.pv]).bind fun r59 => if hasSh .bool r59 = true then some (.sc (.bool r59.toBool)) else none) fun r60 => some (.sc (.bool r60.toBool))) (fun r61 => some (.sc (.bool r61.toBool))) else some (.sc (.bool false))) (fun r62 => some (.sc (.bool r62.toBool))) = _
    simp only [hr, bs, shb, if_true, tb]
    rw [bA]
    rfl
  rw [if_neg h3]
  refine im (by simpa using h3) ?_
  by_cases h4 : kind = 4
  · rw [if_pos h4]
    refine ip (by rw [h4]; rfl) ?_
    rw [bA]
    dsimp +instances only [tb]
    rw [bA]
    dsimp +instances only [tb]
    have hr := rref_ev a
    have hr2 := rref_ev b
    show Option.bind (α := PV) (β := PV) (if _ = true then Option.bind (α := PV) (β := PV) (Option.bind (α := PV) (β := PV) ((D 115 [a.pv]).bind fun r59 => if hasSh .bool r59 = true then some (.sc (.bool r59.toBool)) else none) fun r60 => some (.sc (.bool r60.toBool))) (fun r61 => some (.sc (.bool r61.toBool))) else some (.sc (.bool false))) (fun r17 => Option.bind (α := PV) (β := PV) (if r17.toBool = true then Option.bind (α := PV) (β := PV) (Option.bind (α := PV) (β := PV) ((D 115 [b.pv]).bind fun r59 => if hasSh .bool r59 = true then some (.sc (.bool r59.toBool)) else none) fun r60 => some (.sc (.bool r60.toBool))) (fun r61 => some (.sc (.bool r61.toBool))) else some (.sc (.bool false))) (fun r62 => some (.sc (.bool r62.toBool)))) = _
    simp only [hr, hr2, bs, shb, if_true, tb]
    rw [bA, bA]; rfl
  rw [if_neg h4]
  refine im (by simpa using h4) ?_
  have hfa : ∀ x ∈ l, D 116 [.sc (.int .u8 (((118 : UInt8).toNat : Nat) : Int)), rbN x.pv] = some (.sc (.bool (fitsA 118 x))) := by
    intro x hx
    have := rarg_ev 118 x (ht x hx)
    rw [argR_eq (by decide)] at this
    rw [rb_pv]; exact this
  by_cases h5 : kind = 5
  · rw [if_pos h5]
    refine ip (by rw [h5]; rfl) ?_
    rw [bA]
    dsimp +instances only [tb]
    rw [bA]
    dsimp +instances only [tb]
    have hlen : ((((pvs l).length : Nat) : Int) == 1) = (l.length == 1) := by rw [pvs_len, Bool.eq_iff_iff, beq_iff_eq, beq_iff_eq]; omega
    rw [hlen]
    rcases l with _ | ⟨x, _ | ⟨y, l⟩⟩
    · rw [show (([] : List Nod).length == 1) = false from rfl]
      simp only [Bool.and_false]; rfl
    · rw [show ([x].length == 1) = true from rfl, Bool.and_true]
      have e := hfa x (List.mem_cons_self ..)
      have c0 : (0 : Int) < (((pvs [x]).length : Nat) : Int) := by rw [pvs_len]; simp
      have hs : hasSh shN ((pvs [x]).getD 0 .top) = true := sh_pv x
      show Option.bind (α := PV) (β := PV) (if _ = true then Option.bind (α := PV) (β := PV) (Option.bind (α := PV) (β := PV) (if 0 < (((pvs [x]).length : Nat) : Int) then if hasSh shN ((pvs [x]).getD 0 .top) = true then Option.bind (α := PV) (β := PV) (Option.bind (α := PV) (β := PV) ((D 116 [.sc (.int .u8 (((118 : UInt8).toNat : Nat) : Int)), rbN x.pv]).bind fun r20 => if hasSh .bool r20 = true then some (.sc (.bool r20.toBool)) else none) fun r21 => some (.sc (.bool r21.toBool))) (fun r22 => some (.sc (.bool r22.toBool))) else none else none) fun r23 => some (.sc (.bool r23.toBool))) (fun r24 => some (.sc (.bool r24.toBool))) else some (.sc (.bool false))) (fun r25 => some (.sc (.bool r25.toBool))) = _
      simp only [if_pos c0, if_pos hs, e, bs, shb, if_true, tb]
      rw [bA]
      dsimp only [tb]
      simp only [Bool.and_assoc]
    · rw [show ((x :: y :: l).length == 1) = false by rw [beq_eq_false_iff_ne]; simp]
      simp only [Bool.and_false]; rfl
  rw [if_neg h5]
  refine im (by simpa using h5) ?_
  by_cases h6 : kind = 6
  · rw [if_pos h6]
    refine ip (by rw [h6]; rfl) ?_
    rw [bA]
    dsimp +instances only [tb]
    rw [bA]
    dsimp +instances only [tb]
    rw [bA]
    dsimp +instances only [tb]
    have hlen : ((((pvs l).length : Nat) : Int) == 2) = (l.length == 2) := by rw [pvs_len, Bool.eq_iff_iff, beq_iff_eq, beq_iff_eq]; omega
    rw [hlen]
    rcases l with _ | ⟨x, _ | ⟨y, _ | ⟨z, l⟩⟩⟩
    · rw [show (([] : List Nod).length == 2) = false from rfl]
      simp only [Bool.and_false]; rfl
    · rw [show ([x].length == 2) = false from rfl]
      simp only [Bool.and_false]; rfl
    · rw [show ([x, y].length == 2) = true from rfl, Bool.and_true]
      have e := hfa x (List.mem_cons_self ..)
      have e2 := hfa y (List.mem_cons_of_mem _ (List.mem_cons_self ..))
      have c0 : (0 : Int) < (((pvs [x, y]).length : Nat) : Int) := by rw [pvs_len]; simp
      have c1 : (1 : Int) < (((pvs [x, y]).length : Nat) : Int) := by rw [pvs_len]; simp
      have hs : hasSh shN ((pvs [x, y]).getD 0 .top) = true := sh_pv x
      have hs2 : hasSh shN ((pvs [x, y]).getD 1 .top) = true := sh_pv y
      show Option.bind (α := PV) (β := PV) (if _ = true then Option.bind (α := PV) (β := PV) (Option.bind (α := PV) (β := PV) (if 0 < (((pvs [x, y]).length : Nat) : Int) then if hasSh shN ((pvs [x, y]).getD 0 .top) = true then Option.bind (α := PV) (β := PV) (Option.bind (α := PV) (β := PV) ((D 116 [.sc (.int .u8 (((118 : UInt8).toNat : Nat) : Int)), rbN x.pv]).bind fun r20 => if hasSh .bool r20 = true then some (.sc (.bool r20.toBool)) else none) fun r21 => some (.sc (.bool r21.toBool))) (fun r22 => some (.sc (.bool r22.toBool))) else none else none) fun r23 => some (.sc (.bool r23.toBool))) (fun r24 => some (.sc (.bool r24.toBool))) else some (.sc (.bool false)))
        (fun r34 => Option.bind (α := PV) (β := PV) (if r34.toBool = true then Option.bind (α := PV) (β := PV) (Option.bind (α := PV) (β := PV) (if 1 < (((pvs [x, y]).length : Nat) : Int) then if hasSh shN ((pvs [x, y]).getD 1 .top) = true then Option.bind (α := PV) (β := PV) (Option.bind (α := PV) (β := PV) ((D 116 [.sc (.int .u8 (((118 : UInt8).toNat : Nat) : Int)), rbN y.pv]).bind fun r20 => if hasSh .bool r20 = true then some (.sc (.bool r20.toBool)) else none) fun r21 => some (.sc (.bool r21.toBool))) (fun r22 => some (.sc (.bool r22.toBool))) else none else none) fun r23 => some (.sc (.bool r23.toBool))) (fun r24 => some (.sc (.bool r24.toBool))) else some (.sc (.bool false))) fun r40 => some (.sc (.bool r40.toBool))) = _
      simp only [if_pos c0, if_pos c1, if_pos hs, if_pos hs2, e, e2, bs, shb, if_true, tb]
      rw [bA, bA]
      dsimp only [tb]
      congr 3
      show _ = (isZV v && isZR a && isZR b && decide (op ≥ 1) && decide (op ≤ 12) && (fitsA 118 x && fitsA 118 y))
      cases isZV v <;> cases isZR a <;> cases isZR b <;> cases decide (op ≥ 1) <;> cases decide (op ≤ 12) <;> simp
    · rw [show ((x :: y :: z :: l).length == 2) = false by rw [beq_eq_false_iff_ne]; simp]
      simp only [Bool.and_false]; rfl
  rw [if_neg h6]
  refine im (by simpa using h6) ?_
  by_cases h7 : kind = 7
  · rw [if_pos h7]
    refine ip (by rw [h7]; rfl) ?_
    have hfi := rfits_ev op (n := (pvs l).length) (by rw [pvs_len]; omega)
    simp only [hfi, bs, shb, if_true, tb]
    rw [bO]
    dsimp +instances only [tb]
    rw [pvs_len]
    by_cases hz : (isZV v && isZR a && isZR b) = true
    · rw [hz]
      by_cases hp : fitsF op l.length = true
      · rw [hp]
        refine im (by decide) ?_
        have := rcall_l kind op v a b l hp ht l.length 0 (Nat.zero_add _)
        rw [List.drop_zero, pvs_len] at this
        exact Eq.trans this rfl
      · have : fitsF op l.length = false := by simpa using hp
        rw [this]
        exact ip rfl rfl
    · have : (isZV v && isZR a && isZR b) = false := by simpa using hz
      rw [this]
      exact ip rfl rfl
  rw [if_neg h7]
  exact im (by simpa using h7) rfl
theorem list_all : ∀ n : Nod, n.list.all Nod.oneN = n.rightN
  | .mk kind op v a b l => by
    rw [Nod.list, List.all_cons, lists_all l, Nod.rightN, Bool.and_comm]; rfl
where lists_all : ∀ l : List Nod, (lists l).all Nod.oneN = rightsN l
  | [] => rfl
  | n :: l => by rw [lists, List.all_append, list_all n, lists_all l, rightsN]
def smallT (n : Nod) : Prop := ∀ x ∈ n.list, x.val.text.size ≤ 1000000000000000
theorem self_list (n : Nod) : n ∈ n.list := by
  obtain ⟨kind, op, v, a, b, l⟩ := n
  rw [Nod.list]; exact List.mem_cons_self ..
theorem child_list {kind op : Int} {v : Vl} {a b : Rf} {l : List Nod} {x : Nod} (h : x ∈ l) : x ∈ (Nod.mk kind op v a b l).list := by
  rw [Nod.list]
  refine List.mem_cons_of_mem _ ?_
  induction l with
  | nil => cases h
  | cons y l ih =>
    rw [lists]
    rcases List.mem_cons.1 h with rfl | h
    · exact List.mem_append_left _ (self_list _)
    · exact List.mem_append_right _ (ih h)
theorem sub_list : ∀ (N : Nat) (n : Nod), n.count ≤ N → ∀ x ∈ n.list, ∀ y ∈ x.list, y ∈ n.list
  | 0, .mk _ _ _ _ _ _, hN, _, _, _, _ => by rw [Nod.count] at hN; omega
  | N + 1, .mk kind op v a b l, hN, x, hx, y, hy => by
    rw [Nod.count] at hN
    rw [Nod.list] at hx
    rcases List.mem_cons.1 hx with rfl | hx
    · exact hy
    · rw [Nod.list]
      refine List.mem_cons_of_mem _ ?_
      have : ∀ l : List Nod, counts l ≤ N → x ∈ lists l → y ∈ lists l := by
        intro l
        induction l with
        | nil => intro _ h; cases h
        | cons m l ih =>
          intro hc h
          rw [counts] at hc
          rw [lists] at h ⊢
          rcases List.mem_append.1 h with h | h
          · exact List.mem_append_left _ (sub_list N m (by omega) x h y hy)
          · exact List.mem_append_right _ (ih (by omega) h)
      exact this l (by omega) hx
theorem ok_list : ∀ (N : Nat) (n : Nod), n.count ≤ N → n.ok → ∀ x ∈ n.list, x.ok
  | 0, .mk _ _ _ _ _ _, hN, _, _, _ => by rw [Nod.count] at hN; omega
  | N + 1, .mk kind op v a b l, hN, hk, x, hx => by
    rw [Nod.count] at hN
    have hk2 := hk
    rw [Nod.ok] at hk2
    rw [Nod.list] at hx
    rcases List.mem_cons.1 hx with rfl | hx
    · exact hk
    · have : ∀ l : List Nod, counts l ≤ N → oks l → x ∈ lists l → x.ok := by
        intro l
        induction l with
        | nil => intro _ _ h; cases h
        | cons m l ih =>
          intro hc ho h
          rw [counts] at hc
          rw [lists] at h
          rcases List.mem_append.1 h with h | h
          · exact ok_list N m (by omega) ho.1 x h
          · exact ih (by omega) ho.2 h
      exact this l (by omega) hk2.2.1 hx
theorem rright_l (L : List Nod) (hL : L.length ≤ 1000000) (h1 : ∀ x ∈ L, D 60 [x.pv] = some (.sc (.bool x.oneN))) : ∀ (d i : Nat), i + d = L.length → f26.l0a 0 (pvs L).length (fun i => (pvs L).getD i .top) (i : Int) = some (.sc (.bool ((L.drop i).all Nod.oneN))) := by
  intro d
  induction d with
  | zero =>
    intro i h
    rw [f26.l0a_eq]
    refine im (by rw [decide_eq_true_eq, pvs_len]; omega) ?_
    rw [List.drop_eq_nil_of_le (by omega)]; rfl
  | succ d ih =>
    intro i h
    have hi : i < L.length := by omega
    rw [f26.l0a_eq]
    rw [Int.toNat_natCast, pvs_get hi, List.drop_eq_getElem_cons hi, List.all_cons]
    have ho := h1 _ (List.getElem_mem hi)
    rw [← rb_pv] at ho
    refine ip (by rw [decide_eq_true_eq, pvs_len]; omega) (ip (by omega) (ip (by rw [pvs_len]; omega) (ip (sh_pv _) (cb ho rfl ?_))))
    by_cases hp : L[i].oneN = true
    · rw [hp, Bool.true_and]
      refine im (by decide) ?_
      rw [nx hi (by omega)]
      exact ih (i + 1) (by omega)
    · have : L[i].oneN = false := by simpa using hp
      rw [this, Bool.false_and]
      exact ip rfl rfl
theorem rright_ev (n : Nod) (hk : n.ok) (hc : n.count ≤ 1000000) (ht : smallT n) : D 26 [n.pv] = some (.sc (.bool n.rightN)) := by
  have hl := list_ev n.count n (Nat.le_refl _) hc
  have h1 : ∀ x ∈ n.list, D 60 [x.pv] = some (.sc (.bool x.oneN)) := by
    intro x hx
    refine rone_ev x (ok_list _ n (Nat.le_refl _) hk x hx) (ht x hx) ?_
    intro y hy
    refine ht y (sub_list _ n (Nat.le_refl _) x hx y ?_)
    obtain ⟨kind, op, v, a, b, l⟩ := x
    exact child_list hy
  have hlen := list_len n
  have := rright_l n.list (by omega) h1 n.list.length 0 (Nat.zero_add _)
  rw [List.drop_zero, list_all] at this
  obtain ⟨kind, op, v, a, b, l⟩ := n
  exact (f26_eq 0 _ _ _ _ _ _ _ _ _ _ _ _ _ _ _).trans (cb hl (frozen_sh _ _) this)
theorem rform_ev (n : Nod) (hk : n.ok) (hc : n.count ≤ 1000000) (ht : smallT n) : D 19 [n.pv] = some (.sc (.bool n.formN)) := by
  have hd := rdeep_ev n.count n (Nat.le_refl _) hc
  have hr := rright_ev n hk hc ht
  obtain ⟨kind, op, v, a, b, l⟩ := n
  refine (f19_eq 0 _ _ _ _ _ _ _ _ _ _ _ _ _ _ _).trans ?_
  have e : decide ((((Nod.mk kind op v a b l).deep : Nat) : Int) ≤ 12) = decide ((Nod.mk kind op v a b l).deep ≤ 12) := decide_eq_decide.2 (by omega)
  by_cases h4 : kind = 4
  · have hf : (Nod.mk kind op v a b l).formN = false := by
      unfold Nod.formN
      rw [show ((Nod.mk kind op v a b l).kind != 4) = false by rw [h4]; rfl]; rfl
    rw [hf]
    exact ob3 (b := false) (im (by rw [bne_iff_ne]; exact fun h => h h4) rfl) (ob3 (b := false) (im Bool.false_ne_true rfl) rfl)
  · have hk4 : ((Nod.mk kind op v a b l).kind != 4) = true := by rw [bne_iff_ne]; exact h4
    have hf : (Nod.mk kind op v a b l).formN = (decide ((Nod.mk kind op v a b l).deep ≤ 12) && (Nod.mk kind op v a b l).rightN) := by
      unfold Nod.formN; rw [hk4]; rfl
    rw [hf]
    refine ob3 (b := decide ((Nod.mk kind op v a b l).deep ≤ 12)) (ip (by rw [bne_iff_ne]; exact h4) (ob3 (b := decide ((Nod.mk kind op v a b l).deep ≤ 12)) (cb hd rfl ?_) rfl)) ?_
    · show some (PV.sc (.bool (decide ((((Nod.mk kind op v a b l).deep : Nat) : Int) ≤ 12)))) = _
      rw [e]
    · by_cases h12 : (Nod.mk kind op v a b l).deep ≤ 12
      · rw [decide_eq_true h12, Bool.true_and]
        exact ob3 (b := (Nod.mk kind op v a b l).rightN) (ip rfl (ob3 (b := (Nod.mk kind op v a b l).rightN) (cb hr rfl rfl) rfl)) rfl
      · rw [decide_eq_false h12, Bool.false_and]
        exact ob3 (b := false) (im Bool.false_ne_true rfl) rfl
end Go.Den.EF
/- What the cells of the laws' arguments are. -/
set_option linter.unusedVariables false
set_option maxRecDepth 100000
namespace Go.Den.EF
open Go Go.Proofs
-- ParseRight: function 5, types [9]
theorem on9 (x : PV) : ofCells Tryz.prog 9 [x] = x := by unfold ofCells; rw [Tryz.underlying9]; rfl
theorem of9 {xs : List PV} (h : Ty Tryz.prog 9 xs) : ∃ (a : ByteArray), xs = [.sc (.string a)] ∧ a.size ≤ 140737488351232 := by
  exact ty_str h Tryz.underlying9
end Go.Den.EF
/- Brackets around formulas: the plain part. -/
set_option linter.unusedVariables false
set_option linter.unusedSimpArgs false
namespace Go.Den
open Go Go.Proofs
theorem pX_kind (fnum : List UInt8 → Int) : ∀ (F : Nat) (g : Go1) (ts : List Tk) (n : Nod) (r : List Tk), g ≠ .G → (∀ k m, g = .L k m → m.kind ≠ 4) → pX fnum F g ts = some (n, r) → n.kind ≠ 4
  | 0, g, ts, n, r, _, _, h => by unfold pX at h; cases h
  | F + 1, .B level, ts, n, r, _, _, h => by
    have IH := pX_kind fnum F
    rw [pX] at h
    split at h
    · exact IH _ _ _ _ (by simp) (by intro k m e; cases e) h
    · split at h
      · cases h
      · rename_i m r' h'
        have := IH _ _ _ _ (by simp) (by intro k m e; cases e) h'
        exact IH _ _ _ _ (by simp) (by intro k m e; cases e; exact this) h
  | F + 1, .L level m, ts, n, r, _, hm, h => by
    have IH := pX_kind fnum F
    rw [pX.eq_def] at h
    dsimp only at h
    split at h
    · cases h
    · split at h
      · split at h
        · cases h
        · exact IH _ _ _ _ (by simp) (by intro k m e; cases e; exact (show ¬ (6 : Int) = 4 by decide)) h
      · cases h; exact hm _ _ rfl
  | F + 1, .S, ts, n, r, _, _, h => by
    have IH := pX_kind fnum F
    rw [pX] at h
    split at h
    · obtain ⟨x, h', e⟩ := Option.map_eq_some_iff.1 h
      cases e
      exact (show ¬ (5 : Int) = 4 by decide)
    · exact IH _ _ _ _ (by simp) (by intro k m e; cases e) h
  | F + 1, .A, ts, n, r, _, _, h => by
    have IH := pX_kind fnum F
    rw [pX.eq_def] at h
    dsimp only at h
    split at h
    · cases h
    · split at h
      · cases h; exact (show ¬ (1 : Int) = 4 by decide)
      split at h
      · cases h; exact (show ¬ (1 : Int) = 4 by decide)
      split at h
      · exact IH _ _ _ _ (by simp) (by intro k m e; cases e) h
      split at h
      · cases h; exact (show ¬ (2 : Int) = 4 by decide)
      split at h
      · split at h
        · cases h
        · rename_i m u h'
          split at h
          · cases h
            exact IH _ _ _ _ (by simp) (by intro k m e; cases e) h'
          · cases h
      · cases h
  | F + 1, .W w, ts, n, r, _, _, h => by
    have IH := pX_kind fnum F
    rw [pX] at h
    split at h
    · split at h
      · cases h
        exact (show ¬ (7 : Int) = 4 by decide)
      · exact IH _ _ _ _ (by simp) (by intro k m e; cases e) h
    split at h
    · cases h; exact (show ¬ (1 : Int) = 4 by decide)
    split at h
    · cases h; exact (show ¬ (1 : Int) = 4 by decide)
    obtain ⟨x, _, e⟩ := Option.map_eq_some_iff.1 h
    cases e
    exact (show ¬ (3 : Int) = 4 by decide)
  | F + 1, .R f l, ts, n, r, _, _, h => by
    have IH := pX_kind fnum F
    rw [pX] at h
    split at h
    · cases h
    · split at h
      · cases h
        exact (show ¬ (7 : Int) = 4 by decide)
      split at h
      · exact IH _ _ _ _ (by simp) (by intro k m e; cases e) h
      · cases h
  | F + 1, .G, ts, n, r, hg, _, h => absurd rfl hg
theorem all_kind {us : List Tk} {n : Nod} (h : allP fnumP us n) : n.kind ≠ 4 := by
  obtain ⟨F, e, h1, _⟩ := h
  exact pX_kind fnumP F _ _ _ _ (by simp) (by intro k m e; cases e) h1
end Go.Den
/- What is parsed is a formula: the law. -/
set_option linter.unusedVariables false
set_option linter.unusedSimpArgs false
set_option maxRecDepth 100000
namespace Go.Den.EF
open Go Go.Proofs
theorem al23 : ((D 11 []).bind fun r8 => if hasSh .bool r8 = true then some (PV.sc (.bool r8.toBool)) else none) = some (PV.sc (.bool true)) := cb alive23_ev rfl rfl
theorem parV_sh (r : Option Nod × Int) : hasSh (.tup [shN, (.int .i64)]) (parV r) = true := by
  obtain ⟨o, c⟩ := r
  cases o with
  | none => rfl
  | some n =>
    have := sh_pv n
    show (hasSh shN n.pv && (true && true)) = true
    rw [this]; rfl
theorem parE_none {s : List UInt8} {c : Int} (h : parE s = (none, c)) : c ≠ 0 := by
  unfold parE at h
  repeat' split at h
  all_goals (first | cases h | skip)
  all_goals decide
theorem parE_cases (s : List UInt8) : (∃ c, parE s = (none, c) ∧ c ≠ 0) ∨ (∃ n, parE s = (some n, 0)) := by
  rcases h : parE s with ⟨o, c⟩
  cases o with
  | none => exact .inl ⟨c, rfl, parE_none h⟩
  | some n => exact .inr ⟨n, by rw [(parE_some h).1]⟩
theorem parE_ok {s : List UInt8} {n : Nod} {c : Int} (h : parE s = (some n, c)) : n.ok := by
  obtain ⟨_, hl, _, _, us, hL, F, e, h1, _⟩ := parE_some h
  obtain ⟨k1, k2, _⟩ := lex_okk s.length 0 s us (Nat.le_refl _) (by omega) hL
  exact pX_ok fnumP F _ _ _ _ k1 (by omega) h1 (show us.length ≤ 1000000 by omega)
theorem right_sub {n x : Nod} (h : n.rightN = true) (hx : x ∈ n.list) : x.rightN = true := by
  rw [← list_all] at h ⊢
  rw [List.all_eq_true] at h ⊢
  intro y hy
  exact h y (sub_list _ n (Nat.le_refl _) x hx y hy)
theorem small_right {n : Nod} (h : n.rightN = true) : smallT n := fun x hx => by
  have := right_text (right_sub h hx)
  omega
theorem nform_ev (n : Nod) (hk : n.ok) (hd : n.deep ≤ 1000000) : D 18 [n.pv] = some (.sc (.bool n.formN)) := by
  have hd := ndeep_ev n.count n (Nat.le_refl _) hk (by omega)
  have hr := right_ev n.count n (Nat.le_refl _) hk
  obtain ⟨kind, op, v, a, b, l⟩ := n
  refine (f18_eq 0 _ _ _ _ _ _ _ _ _ _ _ _ _ _ _).trans ?_
  have e : decide ((((Nod.mk kind op v a b l).deep : Nat) : Int) ≤ 12) = decide ((Nod.mk kind op v a b l).deep ≤ 12) := decide_eq_decide.2 (by omega)
  by_cases h4 : kind = 4
  · have hf : (Nod.mk kind op v a b l).formN = false := by
      unfold Nod.formN
      rw [show ((Nod.mk kind op v a b l).kind != 4) = false by rw [h4]; rfl]; rfl
    rw [hf]
    exact ob3 (b := false) (im (by rw [bne_iff_ne]; exact fun h => h h4) rfl) (ob3 (b := false) (im Bool.false_ne_true rfl) rfl)
  · have hk4 : ((Nod.mk kind op v a b l).kind != 4) = true := by rw [bne_iff_ne]; exact h4
    have hf : (Nod.mk kind op v a b l).formN = (decide ((Nod.mk kind op v a b l).deep ≤ 12) && (Nod.mk kind op v a b l).rightN) := by
      unfold Nod.formN; rw [hk4]; rfl
    rw [hf]
    refine ob3 (b := decide ((Nod.mk kind op v a b l).deep ≤ 12)) (ip (by rw [bne_iff_ne]; exact h4) (ob3 (b := decide ((Nod.mk kind op v a b l).deep ≤ 12)) (cb hd rfl ?_) rfl)) ?_
    · show some (PV.sc (.bool (decide ((((Nod.mk kind op v a b l).deep : Nat) : Int) ≤ 12)))) = _
      rw [e]
    · by_cases h12 : (Nod.mk kind op v a b l).deep ≤ 12
      · rw [decide_eq_true h12, Bool.true_and]
        exact ob3 (b := (Nod.mk kind op v a b l).rightN) (ip rfl (ob3 (b := (Nod.mk kind op v a b l).rightN) (cb hr rfl rfl) rfl)) rfl
      · rw [decide_eq_false h12, Bool.false_and]
        exact ob3 (b := false) (im Bool.false_ne_true rfl) rfl
theorem parseRight (s : List UInt8) : D 5 [.sc (.string (B s))] = some (.sc (.bool true)) := by
  rw [f5_eq 0]
  by_cases hl : s.length ≤ 300
  · refine im (by rw [decide_eq_true_eq, B_size]; omega) ?_
    have hs := prs_ev s
    rcases parE_cases s with ⟨c, hc, hc0⟩ | ⟨n, hn⟩
    · rw [hc] at hs
      have h0 : D 16 [rbN (nilC 0 0 zV zR zR), nilC 0 0 zV zR zR] = some (.sc (.bool true)) := denI_of (k := 60) (by kernel_rfl)
      refine cb hs (parV_sh _) (ip ?_ (cb h0 rfl ?_))
      · show (c != 0) = true
        rw [bne_iff_ne]; exact hc0
      · exact ob3 (b := true) (ip rfl al23) rfl
    obtain ⟨_, h200, hr, hd, us, hL, hus⟩ := parE_some hn
    have hlen := tex_short hL hus
    have hk := all_kind hus
    have hc1 := count_tex hr
    have hok := parE_ok hn
    have hform : n.formN = true := by
      unfold Nod.formN
      rw [hr, decide_eq_true hd, show (n.kind != 4) = true by rw [bne_iff_ne]; exact hk]; rfl
    have f1 := nform_ev n hok (by omega)
    have f2 := rform_ev n hok (by omega) (small_right hr)
    rw [hform, ← rb_pv] at f1 f2
    rw [hn] at hs
    refine cb hs (parV_sh _) (im (show ¬ ((0 : Int) != 0) = true by decide) (cb f1 rfl ?_))
    exact ob3 (b := true) (ip rfl (ob3 (b := true) (cb f2 rfl rfl) rfl)) (ob3 (b := true) (ip rfl al23) rfl)
  · exact ip (by rw [decide_eq_true_eq, B_size]; omega) al23
theorem ParseRight_D (W : World) (vs : List Value) (xs : List PV) (h : Handed Tryz.prog W [9] vs xs) : D 5 xs = some (.sc (.bool true)) := by
  obtain ⟨x0, vs0, xs0, rfl, hx0, h⟩ := handed_cons h
  rw [handed_nil h]
  obtain ⟨e, rfl, _⟩ := of9 hx0
  obtain ⟨l, rfl⟩ := B_of e
  simp only [on9]
  exact parseRight l
end Go.Den.EF
set_option maxRecDepth 100000
namespace Go.Proofs.YtkhbkbkambflbaaGreatDoor.parseRight
open Go.ChangeShapes Go.WideShapes Go.ChangeAt Go.RowKit Go.Den
theorem own : ownKnob Tryz.prog.godebug = none := by kernel_rfl
theorem laidOut : laidOutB Tryz.prog = true := by kernel_rfl
theorem good : goodAll Tryz.prog [9] = true := by kernel_rfl
theorem follows : Tryz.prog.follows .mixedOrders = true := by kernel_rfl
theorem tabs_laid {W : World} (h : laidMet Tryz.prog Rows.parseRightRow.laid W) (hS : W.ShapedOpen Tryz.prog) : Tabs2 W := by
  refine ⟨⟨?_, ?_⟩, ?_⟩
  · exact Lib.tabIs_of_head (g := 2) (t := 276) (e := 160) (n := 20) (by kernel_rfl) (by kernel_rfl) (by kernel_rfl) (by kernel_rfl) (by kernel_rfl) (by kernel_rfl) (laidMet.tail (laidMet.tail h))
  · exact Go.Proofs.cell_of_shapedOpen_int (g := 3) (zero := #[.int .i64 0]) (t := 3) hS (of_decide_eq_true (by kernel_rfl)) (by kernel_rfl) rfl (by kernel_rfl) (by kernel_rfl) Tryz.underlying3
  · exact Lib.tabIs_of_head (g := 0) (t := 199) (e := 5) (n := 256) (by kernel_rfl) (by kernel_rfl) (by kernel_rfl) (by kernel_rfl) (by kernel_rfl) (by kernel_rfl) (laidMet.tail (laidMet.tail (laidMet.tail (laidMet.tail (laidMet.tail h)))))
theorem lifted (os : Os) (started : os.Started) (H : Type) (enc : TypeId × Value → H) :
    ReturnsInHanded {} Tryz.checked os 5 .any (fun w args => (Rows.parseRightSpec.pre enc Tryz.prog Tryz.f5 Rows.parseRightRow.domain false w args ∧ laidMetH Tryz.prog Rows.parseRightRow.laid w) ∧ sizedMet enc Tryz.prog Tryz.f5 (OpenSpec.ofChange Rows.parseRightSpec) false w args) (Rows.parseRightSpec.post enc Tryz.prog Tryz.f5 false true false false) := by
  refine returns_and_shaped (C := Tryz.checked) (X := fun w _ => laidMetH Tryz.prog Rows.parseRightRow.laid w) (fun _ _ _ hh h => h.of_heap hh) own started (by kernel_rfl) Tryz.func5
    (ChangeSpec.witness_shaped (enc := enc) (C := Tryz.checked) (os := os) (X := fun w _ => laidMetH Tryz.prog Rows.parseRightRow.laid w) false (World.laidAll Tryz.prog os Rows.parseRightRow.laid) #[.string ⟨#[]⟩] 8 (World.laidAll_os _ _ _)
      (World.shaped_of_ZipB (by kernel_rfl) (by kernel_rfl)) (by kernel_rfl) (by kernel_rfl) (by kernel_rfl)
      (by rw [MakeChecks.laidMetH_plain _ _ _ (by kernel_rfl)]; exact laidMet_laidAll _ (by kernel_rfl) (by kernel_rfl))) ?_
  intro W base args ds gs before hval0 hW hcnd hsz0 hL hS
  have hval : ∀ (j : Nat) t v, Tryz.f5.params[j]? = some t → args[j]? = some v → Value.okWide Tryz.prog W .any base t v := hval0
  have hW' := hW
  obtain ⟨p, q, hA0, hV, rfl, hfz, hnd⟩ := hW
  have hA : DataW.TrodAll enc Tryz.prog W 0 (fun _ => true) true [9] args.toList ds p := hA0
  obtain ⟨rfl, rfl⟩ := trodVars_none hV
  obtain ⟨xs, hH⟩ := open_all good [9] args.toList ds p (by decide) hA (fun j t v ht hv => hval j t v (by rw [Tryz.params5]; simpa using ht) (by simpa using hv)) fun n hn => by
    have hz : (DataW.weightsEach Tryz.prog (Tryz.f5.params.toList ++ Rows.parseRightSpec.plain.varTypes Tryz.prog) (ds ++ [])).all (· ≤ reachBytes) = true := hsz0
    rw [Tryz.params5] at hz
    have := List.all_eq_true.1 hz n (weights_app n hn)
    simpa using this
  have hD := EF.ParseRight_D W args.toList xs hH
  have hok := Den.denI_ok (T := Tabs2) follows Tabs2.below EF.ext_ok 5 xs _ hD
  refine (Den.law_calls hok (tabs_laid (by rw [MakeChecks.laidMetH_plain _ _ _ (by kernel_rfl)] at hL; exact hL) hS) hH).mono fun e W' ⟨he, bel⟩ => ?_
  subst he
  have hback := carry_all laidOut bel [9] args.toList ds p (by kernel_rfl) hA
  obtain ⟨v0, vs0, d0, ds0, p0, q0, hargs0, rfl, rfl, h0, r0⟩ := trodAll_cons hA
  obtain ⟨_, rfl, _⟩ := trodAll_nil r0
  exact ⟨_, rfl, _, _, _, [], _, [], hW', trodAll_mk1 (shut_bool Tryz.underlying4 _), hback, rfl, bel.frame _, fun h => by cases h⟩
theorem over : Rows.parseRightRow.holds Tryz.pinned (OpenSpec.ofChange Rows.parseRightSpec) :=
  OpenClaim.holds_of_wide 5 Tryz.f5 rfl rfl rfl rfl rfl rfl rfl ⟨rfl, rfl, rfl, rfl, rfl⟩ rfl rfl rfl rfl rfl (by kernel_rfl) Tryz.func5 (by kernel_rfl)
    (of_decide_eq_true (by kernel_rfl)) (by unfold Func.isWrapper; first | (rw [if_pos (by decide +kernel)]; kernel_rfl) | (rw [if_neg (by decide +kernel)]; exact ⟨rfl, rfl⟩))
    (fun os started H enc _ => lifted os started H enc)
theorem card : Rows.ParseRightCardSaid :=
  Claim7.holds_tied_plain_at .later [] [.data, .data, .data, .data, .listed, .data, .pinned] true (true, "b193ce7e6797a20116516223b4fe3daa35c7b810da3628f40d08a9d699ae8872") false over (fun _ h => by cases h) (by kernel_rfl) (fun _ h => by cases h) parseRight_row_tie rfl ⟨rfl, rfl⟩ (by kernel_rfl) rfl
    (fun f fn hf hfn => by
      obtain rfl : f = 5 := Option.some.inj ((show Tryz.prog.funcNamed Rows.parseRightRow.func = some 5 by kernel_rfl).symm.trans hf) |>.symm
      obtain rfl : fn = Tryz.f5 := (Option.some.inj (Tryz.func5.symm.trans hfn)).symm
      refine ⟨by kernel_rfl, fun j t ht => ?_⟩
      have hall : (Tryz.f5.params.toList.all fun u => !Tryz.prog.wantsStandIn u) = true := by kernel_rfl
      have hm : t ∈ Tryz.f5.params.toList := by simpa using Array.mem_of_getElem? ht
      exact (show Tryz.prog.wantsStandIn t = false by simpa using List.all_eq_true.1 hall t hm))
    (by kernel_rfl)
end Go.Proofs.YtkhbkbkambflbaaGreatDoor.parseRight
namespace Go.Proofs.YtkhbkbkambflbaaGreatDoor
theorem parseRight_holds : Rows.ParseRightCardSaid := parseRight.card
end Go.Proofs.YtkhbkbkambflbaaGreatDoor
