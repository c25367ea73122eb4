/- What a law is handed, taken apart; how trees are read. -/
import Derived.Test.YtkhbkbkambflbaaGreatDoorDenU
import Derived.KernelRfl
import Derived.Test.YtkhbkbkambflbaaGreatDoorProg
set_option linter.unusedVariables false
namespace Go.Den
open Go Go.Proofs
theorem w64 {x : Int} (h0 : -9223372036854775808 ≤ x) (h1 : x ≤ 9223372036854775807) : IntKind.i64.wrap x = x := by
  simp [IntKind.wrap, IntKind.bits, IntKind.signed]; omega
theorem sb {u : Option PV} {x : PV} {F : PV → Option PV} {r : Option PV} (h : u = some x) (h2 : F x = r) : u.bind F = r := by rw [h]; exact h2
theorem ip {c : Prop} [Decidable c] {a b r : Option PV} (h : c) (h2 : a = r) : (if c then a else b) = r := by rw [if_pos h]; exact h2
theorem im {c : Prop} [Decidable c] {a b r : Option PV} (h : ¬ c) (h2 : b = r) : (if c then a else b) = r := by rw [if_neg h]; exact h2
theorem gb {c : Prop} [Decidable c] {x y : Bool} {F : PV → Option PV} {r : Option PV} (h : F (.sc (.bool (if c then x else y))) = r) : Option.bind (if c then some (.sc (.bool x)) else some (.sc (.bool y))) F = r := by
  by_cases hc : c
  · rw [if_pos hc] at h ⊢; exact h
  · rw [if_neg hc] at h ⊢; exact h
@[simp] theorem bs (x : PV) (F : PV → Option PV) : Option.bind (some x) F = F x := rfl
@[simp] theorem bi {c : Prop} [Decidable c] (x y : PV) (F : PV → Option PV) : Option.bind (if c then some x else some y) F = if c then F x else F y := by split <;> rfl
@[simp] theorem tb (b : Bool) : PV.toBool (.sc (.bool b)) = b := rfl
@[simp] theorem ti (k : IntKind) (n : Int) : PV.toInt (.sc (.int k n)) = n := rfl
@[simp] theorem ts (t : ByteArray) : PV.toStr (.sc (.string t)) = t := rfl
@[simp] theorem shb (b : Bool) : hasSh .bool (.sc (.bool b)) = true := rfl
@[simp] theorem shi (n : Int) : hasSh (.int .i64) (.sc (.int .i64 n)) = true := rfl
@[simp] theorem shs (t : ByteArray) : hasSh .str (.sc (.string t)) = true := rfl
theorem bA (b x : Bool) (F : PV → Option PV) : Option.bind (if b = true then some (.sc (.bool x)) else some (.sc (.bool false))) F = F (.sc (.bool (b && x))) := by cases b <;> rfl
theorem bO (b x : Bool) (F : PV → Option PV) : Option.bind (if b = true then some (.sc (.bool true)) else some (.sc (.bool x))) F = F (.sc (.bool (b || x))) := by cases b <;> rfl
theorem it {a b : Option PV} : (if (true : Bool) = true then a else b) = a := rfl
theorem iff_ {a b : Option PV} : (if (false : Bool) = true then a else b) = b := rfl
theorem cb {u : Option PV} {x : PV} {s : Sh} {F : PV → Option PV} {r : Option PV} (h : u = some x) (hs : hasSh s x = true) (h2 : F x = r) : (u.bind fun y => if hasSh s y = true then F y else none) = r := by
  subst h
  simp only [bs, hs, if_true, h2]
/-- A turn of a loop over a slice; its end. -/
theorem lpc {n n2 i : Nat} {xs : List PV} {s : Sh} {X Y r : Option PV} (hi : i < n) (hi2 : i < n2) (hs : hasSh s (xs.getD i .top) = true) (h : X = r) :
    (if decide ((i : Int) < (n : Int)) = true then (if 0 ≤ (i : Int) then (if (i : Int) < (n2 : Int) then (if hasSh s (xs.getD (i : Int).toNat .top) = true then X else none) else none) else none) else Y) = r :=
  ip (by rw [decide_eq_true_eq]; omega) (ip (by omega) (ip (by omega) (ip (by rw [Int.toNat_natCast]; exact hs) h)))
theorem lpr {n i : Nat} {xs : List PV} {s : Sh} {X r : Option PV} (hi : i < n) (hs : hasSh s (xs.getD i .top) = true) (h : X = r) :
    (if 0 ≤ (i : Int) then (if (i : Int) < (n : Int) then (if hasSh s (xs.getD (i : Int).toNat .top) = true then X else none) else none) else none) = r :=
  ip (by omega) (ip (by omega) (ip (by rw [Int.toNat_natCast]; exact hs) h))
theorem lpe {n i : Nat} {X Y r : Option PV} (hi : ¬ i < n) (h : Y = r) : (if decide ((i : Int) < (n : Int)) = true then X else Y) = r :=
  im (by rw [decide_eq_true_eq]; omega) h
theorem nx {i n : Nat} (hi : i < n) (hn : (n : Int) ≤ 9223372036854775807) : IntKind.i64.wrap ((i : Int) + 1) = ((i + 1 : Nat) : Int) := by
  rw [w64 (by omega) (by omega)]; rfl
/-- A call that is handed memory. -/
theorem hb {P : Program} {u : Option PV} {objs : List PV} {ret : PV} {fo : List OF} {ts : List TypeId} {F : PV → Option PV} {r : Option PV} {c : Bool} (h : u = some (.tup [.hp objs, ret])) (hs : (c || objsOk fo objs) = true) (hr : retOk P 6 ts ret = true) (h2 : F (.tup [.hp objs, ret]) = r) :
    (u.bind fun y => if (isHand y && (c || objsOk fo (handObjs y)) && retOk P 6 ts (handRet y)) = true then F y else none) = r := by
  subst h
  have e : (isHand (.tup [.hp objs, ret]) && (c || objsOk fo (handObjs (.tup [.hp objs, ret]))) && retOk P 6 ts (handRet (.tup [.hp objs, ret]))) = true := by
    show (true && (c || objsOk fo objs) && retOk P 6 ts ret) = true
    rw [hs, hr]; rfl
  simp only [bs, if_pos e, h2]
section
variable {P : Program}
theorem ty_int {t : TypeId} {k : IntKind} {xs : List PV} (h : Ty P t xs) (hu : P.underlying t = some (.int k)) : ∃ n, xs = [.sc (.int k n)] ∧ (Lit.int k n).wf = true := by
  cases h with
  | int hu2 hw => rw [hu] at hu2; cases hu2; exact ⟨_, rfl, hw⟩
  | bool hu2 => rw [hu] at hu2; cases hu2
  | str hu2 => rw [hu] at hu2; cases hu2
  | slice hu2 => rw [hu] at hu2; cases hu2
  | struct hu2 => rw [hu] at hu2; cases hu2
  | array hu2 => rw [hu] at hu2; cases hu2
theorem wf64 {x : Int} (h : (Lit.int .i64 x).wf = true) : -9223372036854775808 ≤ x ∧ x ≤ 9223372036854775807 := by
  simp [Lit.wf, IntKind.min, IntKind.max, IntKind.bits, IntKind.signed] at h
  omega
theorem wf8 {x : Int} (h : (Lit.int .u8 x).wf = true) : 0 ≤ x ∧ x ≤ 255 := by
  simp [Lit.wf, IntKind.min, IntKind.max, IntKind.bits, IntKind.signed] at h
  omega
theorem wfu64 {x : Int} (h : (Lit.int .u64 x).wf = true) : 0 ≤ x ∧ x ≤ 18446744073709551615 := by
  simp [Lit.wf, IntKind.min, IntKind.max, IntKind.bits, IntKind.signed] at h
  omega
theorem ty_i64 {t : TypeId} {xs : List PV} (h : Ty P t xs) (hu : P.underlying t = some (.int .i64)) : ∃ n, xs = [.sc (.int .i64 n)] ∧ -9223372036854775808 ≤ n ∧ n ≤ 9223372036854775807 := by
  obtain ⟨n, e, w⟩ := ty_int h hu
  exact ⟨n, e, wf64 w⟩
theorem ty_u64 {t : TypeId} {xs : List PV} (h : Ty P t xs) (hu : P.underlying t = some (.int .u64)) : ∃ n, xs = [.sc (.int .u64 n)] ∧ 0 ≤ n ∧ n ≤ 18446744073709551615 := by
  obtain ⟨n, e, w⟩ := ty_int h hu
  exact ⟨n, e, wfu64 w⟩
theorem ty_u8 {t : TypeId} {xs : List PV} (h : Ty P t xs) (hu : P.underlying t = some (.int .u8)) : ∃ n, xs = [.sc (.int .u8 n)] ∧ 0 ≤ n ∧ n ≤ 255 := by
  obtain ⟨n, e, w⟩ := ty_int h hu
  exact ⟨n, e, wf8 w⟩
theorem ty_bool {t : TypeId} {xs : List PV} (h : Ty P t xs) (hu : P.underlying t = some .bool) : ∃ b, xs = [.sc (.bool b)] := by
  cases h with
  | bool hu2 => exact ⟨_, rfl⟩
  | int hu2 => rw [hu] at hu2; cases hu2
  | str hu2 => rw [hu] at hu2; cases hu2
  | slice hu2 => rw [hu] at hu2; cases hu2
  | struct hu2 => rw [hu] at hu2; cases hu2
  | array hu2 => rw [hu] at hu2; cases hu2
theorem ty_str {t : TypeId} {xs : List PV} (h : Ty P t xs) (hu : P.underlying t = some .string) : ∃ s : ByteArray, xs = [.sc (.string s)] ∧ s.size ≤ 140737488351232 := by
  cases h with
  | str hu2 hs => exact ⟨_, rfl, hs⟩
  | bool hu2 => rw [hu] at hu2; cases hu2
  | int hu2 => rw [hu] at hu2; cases hu2
  | slice hu2 => rw [hu] at hu2; cases hu2
  | struct hu2 => rw [hu] at hu2; cases hu2
  | array hu2 => rw [hu] at hu2; cases hu2
theorem ty_struct {t : TypeId} {fs : Array Field} {xs : List PV} (h : Ty P t xs) (hu : P.underlying t = some (.struct fs)) : xs.length = P.cellsOf t ∧ ∀ f, f ∈ fs.toList → Ty P f.type ((xs.drop f.offset).take (P.cellsOf f.type)) := by
  cases h with
  | struct hu2 hl hx => rw [hu] at hu2; cases hu2; exact ⟨hl, hx⟩
  | str hu2 => rw [hu] at hu2; cases hu2
  | bool hu2 => rw [hu] at hu2; cases hu2
  | int hu2 => rw [hu] at hu2; cases hu2
  | slice hu2 => rw [hu] at hu2; cases hu2
  | array hu2 => rw [hu] at hu2; cases hu2
theorem ty_array {t e : TypeId} {n : Nat} {xs : List PV} (h : Ty P t xs) (hu : P.underlying t = some (.array n e)) : xs.length = P.cellsOf t ∧ ∀ i, i < n → Ty P e ((xs.drop (i * P.cellsOf e)).take (P.cellsOf e)) := by
  cases h with
  | array hu2 hl hx => rw [hu] at hu2; cases hu2; exact ⟨hl, hx⟩
  | struct hu2 hl hx => rw [hu] at hu2; cases hu2
  | str hu2 => rw [hu] at hu2; cases hu2
  | bool hu2 => rw [hu] at hu2; cases hu2
  | int hu2 => rw [hu] at hu2; cases hu2
  | slice hu2 => rw [hu] at hu2; cases hu2
theorem ty_slice {t e : TypeId} {xs : List PV} (h : Ty P t xs) (hu : P.underlying t = some (.slice e)) : ∃ l : List PV, xs = [frozen (P.cellsOf e) l] ∧ l.length * P.bytesOf e ≤ 140737488351232 ∧ l.length ≤ 9223372036854775807 ∧ ∀ x, x ∈ l → Ty P e x.cells ∧ x = ofCells P e x.cells := by
  cases h with
  | slice hu2 hl hb hx hp =>
    rw [hu] at hu2; cases hu2
    exact ⟨_, rfl, hb, Nat.le_trans hl (by decide), fun x hm => ⟨hx x hm, (hp x hm).2.2.2⟩⟩
  | array hu2 hl hx => rw [hu] at hu2; cases hu2
  | struct hu2 hl hx => rw [hu] at hu2; cases hu2
  | str hu2 => rw [hu] at hu2; cases hu2
  | bool hu2 => rw [hu] at hu2; cases hu2
  | int hu2 => rw [hu] at hu2; cases hu2
theorem handed_cons {W : World} {t : TypeId} {ts : List TypeId} {vs : List Value} {xs : List PV} (h : Handed P W (t :: ts) vs xs) : ∃ a vs' xs', xs = ofCells P t a :: xs' ∧ Ty P t a ∧ Handed P W ts vs' xs' := by
  match vs, xs, h with
  | v :: vs, x :: xs, h =>
    obtain ⟨_, ⟨a, e, ha⟩, hr⟩ := h
    exact ⟨a, vs, xs, by rw [e], ha, hr⟩
  | [], _, h => simp [Handed] at h
  | _ :: _, [], h => simp [Handed] at h
theorem handed_nil {W : World} {vs : List Value} {xs : List PV} (h : Handed P W [] vs xs) : xs = [] := by
  match vs, xs, h with
  | [], [], _ => rfl
  | [], _ :: _, h => simp [Handed] at h
  | _ :: _, _, h => simp [Handed] at h
end
end Go.Den
