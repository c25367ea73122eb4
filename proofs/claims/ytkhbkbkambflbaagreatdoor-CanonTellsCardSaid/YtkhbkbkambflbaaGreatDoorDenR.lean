/- What 'den' answers is reached with finitely many calls and turns: it goes along with limits. -/
import Derived.Test.YtkhbkbkambflbaaGreatDoorDenN
namespace Go.Den
open Go Go.RowKit
set_option linter.unusedVariables false
/-- From some place on u is what v is, if v is anything. -/
def Ap (u : Nat → Option PV) (v : Option PV) : Prop := ∀ r, v = some r → ∃ k0, ∀ k, k0 ≤ k → u k = some r
theorem Ap.none {u : Nat → Option PV} : Ap u none := fun r h => by cases h
theorem Ap.const {v : Option PV} : Ap (fun _ => v) v := fun r h => ⟨0, fun _ _ => h⟩
theorem Ap.bind {u : Nat → Option PV} {v : Option PV} {f : Nat → PV → Option PV} {g : PV → Option PV} (h : Ap u v) (hf : ∀ x, Ap (fun k => f k x) (g x)) : Ap (fun k => (u k).bind (f k)) (v.bind g) := by
 intro r hr
 obtain ⟨x, hx, hg⟩ := Option.bind_eq_some_iff.1 hr
 obtain ⟨a, ha⟩ := h x hx
 obtain ⟨b, hb⟩ := hf x r hg
 exact ⟨max a b, fun k hk => by show (u k).bind (f k) = some r; rw [ha k (by omega)]; exact hb k (by omega)⟩
theorem Ap.congr {u u' : Nat → Option PV} {v : Option PV} (h : Ap u v) (k0 : Nat) (e : ∀ k, k0 ≤ k → u' k = u k) : Ap u' v := by
 intro r hr
 obtain ⟨a, ha⟩ := h r hr
 exact ⟨max a k0, fun k hk => by rw [e k (by omega)]; exact ha k (by omega)⟩
def ApK {α : Type} (K : Nat → α → Option PV) (K' : α → Option PV) : Prop := ∀ s, Ap (fun k => K k s) (K' s)
section
variable {P : Program}
theorem denBin_ap {op : BinOp} {t : TypeId} {x y : PV} {K : Nat → PV → Option PV} {K' : PV → Option PV} (hK : ApK K K') : Ap (fun k => denBin P op t x y (K k)) (denBin P op t x y K') := by
 unfold denBin
 repeat' split
 all_goals first | exact hK _ | exact Ap.none
theorem denOp_ap {ρ : Operand → PV} {h : Heap} {o : Op} {K : Nat → PV → Heap → Option PV} {K' : PV → Heap → Option PV} (hK : ∀ x h, Ap (fun k => K k x h) (K' x h)) : Ap (fun k => denOp P ρ h o (K k)) (denOp P ρ h o K') := by
 cases o
 all_goals
  simp only [denOp]
  repeat' split
  all_goals first | exact hK _ _ | exact Ap.none | exact denBin_ap fun v => hK v _
variable {d : Cf} {C : Nat → FuncId → List PV → Option PV} {C' : FuncId → List PV → Option PV}
theorem appendTo_ap {e : TypeId} {ys : List PV} {a : PV} {s : St} {dst : Option Tmp} {K : Nat → St → Option PV} {K' : St → Option PV} (hK : ApK K K') : Ap (fun k => appendTo P e ys a s dst (K k)) (appendTo P e ys a s dst K') := by
 unfold appendTo
 repeat' split
 all_goals first | exact hK _ | exact Ap.none
theorem denAppend_ap {ts : Array TypeId} {s : St} {dst : Option Tmp} {args : List PV} {K : Nat → St → Option PV} {K' : St → Option PV} (hK : ApK K K') : Ap (fun k => denAppend P ts s dst args (K k)) (denAppend P ts s dst args K') := by
 unfold denAppend
 repeat' split
 all_goals first | exact appendTo_ap hK | exact Ap.none
theorem denLit_ap {t : TypeId} {len : Nat} {ps : List (Nat × PV)} {s : St} {dst : Option Tmp} {K : Nat → St → Option PV} {K' : St → Option PV} (hK : ApK K K') : Ap (fun k => denLit P t len ps s dst (K k)) (denLit P t len ps s dst K') := by
 unfold denLit
 repeat' split
 all_goals first | exact hK _ | exact Ap.none
theorem denCall_ap (hC : ∀ g a, Ap (fun k => C k g a) (C' g a)) {g : FuncId} {s : St} {dst : Option Tmp} {args : List PV} {quiet : Bool} {K : Nat → St → Option PV} {K' : St → Option PV} (hK : ApK K K') : Ap (fun k => denCall P d (C k) g s dst args quiet (K k)) (denCall P d C' g s dst args quiet K') := by
 unfold denCall
 split
 ·exact Ap.none
 ·split
  ·split
   ·exact Ap.none
   ·split
    ·refine Ap.bind (hC _ _) fun x => ?_
     split
     ·exact hK _
     ·exact Ap.none
    ·exact Ap.none
  ·exact Ap.none
theorem denExec_ap (hC : ∀ g a, Ap (fun k => C k g a) (C' g a)) {quiet : Bool} {o : Oper} {s : St} {K : Nat → St → Option PV} {K' : St → Option PV} (hK : ApK K K') : Ap (fun k => denExec P d (C k) quiet o s (K k)) (denExec P d C' quiet o s K') := by
 unfold denExec
 split
 ·split
  ·split
   ·exact denCall_ap hC hK
   ·exact Ap.none
  ·split
   ·exact Ap.none
   ·exact denAppend_ap hK
  ·split
   ·exact hK _
   ·exact Ap.none
  ·exact Ap.none
 ·split
  ·exact Ap.none
  ·split
   ·exact denLit_ap hK
   ·exact denLit_ap hK
 ·exact denOp_ap fun x h => hK _
theorem denOper_ap (hC : ∀ g a, Ap (fun k => C k g a) (C' g a)) {quiet : Bool} {ops : Array Oper} {o : Oper} {s : St} {K : Nat → St → Option PV} {K' : St → Option PV} (hK : ApK K K') : Ap (fun k => denOper P d (C k) quiet ops o s (K k)) (denOper P d C' quiet ops o s K') := by
 unfold denOper
 repeat' split
 all_goals first | exact denExec_ap hC hK | exact hK _ | exact Ap.none
theorem denGive_ap (hC : ∀ g a, Ap (fun k => C k g a) (C' g a)) {o : Oper} {s : St} {K : Nat → St → Option PV} {K' : St → Option PV} (hK : ApK K K') : Ap (fun k => denGive P d (C k) o s (K k)) (denGive P d C' o s K') := by
 unfold denGive
 split
 ·split
  ·split
   ·split
    ·split
     ·split
      ·exact Ap.none
      ·refine Ap.bind (hC _ _) fun x => ?_
       split
       ·exact hK _
       ·exact Ap.none
     ·exact Ap.none
    ·exact Ap.none
   ·exact Ap.none
  ·exact Ap.none
 ·exact Ap.none
theorem denHand_ap (hC : ∀ g a, Ap (fun k => C k g a) (C' g a)) {o : Oper} {s : St} {K : Nat → St → Option PV} {K' : St → Option PV} (hK : ApK K K') : Ap (fun k => denHand P d (C k) o s (K k)) (denHand P d C' o s K') := by
 unfold denHand
 split
 ·split
  ·split
   ·split
    ·split
     ·split
      ·exact Ap.none
      ·split
       ·exact Ap.none
       ·refine Ap.bind (hC _ _) fun x => ?_
        split
        ·exact hK _
        ·exact Ap.none
     ·exact Ap.none
    ·exact Ap.none
   ·exact Ap.none
  ·exact Ap.none
 ·exact Ap.none
theorem denMem_ap {o : Oper} {s : St} {K : Nat → St → Option PV} {K' : St → Option PV} (hK : ApK K K') : Ap (fun k => denMem P o s (K k)) (denMem P o s K') := by
 unfold denMem
 split
 ·split
  ·unfold denElt
   repeat' split
   all_goals first | exact hK _ | exact Ap.none
  ·exact Ap.none
 ·unfold denConv
  repeat' split
  all_goals first | exact hK _ | exact Ap.none
 ·exact Ap.none
theorem guarded_ap {ops : Array Oper} {o : Oper} {s : St} {X K : Nat → St → Option PV} {X' K' : St → Option PV} (hX : ApK X X') (hK : ApK K K') : Ap (fun k => guarded ops o s (X k) (K k)) (guarded ops o s X' K') := by
 unfold guarded
 repeat' split
 all_goals first | exact hX _ | exact hK _ | exact Ap.none
theorem denOpsF_ap (hC : ∀ g a, Ap (fun k => C k g a) (C' g a)) {quiet : Bool} {ops : Array Oper} : ∀ (f : Nat) (l : List Oper) {K : Nat → St → Option PV} {K' : St → Option PV}, ApK K K' → ApK (fun k s => denOpsF P d (C k) quiet ops f l (K k) s) (fun s => denOpsF P d C' quiet ops f l K' s)
 | f, [], K, K', hK => fun s => by
  cases f <;> exact hK s
 | 0, _ :: _, K, K', hK => fun s => Ap.none
 | f + 1, o :: rest, K, K', hK => fun s => by
  show Ap (fun k => denOpsF P d (C k) quiet ops (f + 1) (o :: rest) (K k) s) (denOpsF P d C' quiet ops (f + 1) (o :: rest) K' s)
  simp only [denOpsF]
  split
  ·rename_i xs pd rest' hg
   refine Ap.bind (denOper_ap hC fun s2 => denOpsF_ap hC f xs (K := fun _ s3 => boolOf (s3.fr.getD pd .top)) (K' := fun s3 => boolOf (s3.fr.getD pd .top)) (fun s3 => Ap.const) s2) fun r => ?_
   exact denOpsF_ap hC f _ hK _
  ·split
   ·exact denHand_ap hC fun s2 => denOpsF_ap hC f _ hK s2
   ·split
    ·exact denGive_ap hC fun s2 => denOpsF_ap hC f _ hK s2
    ·split
     ·exact denMem_ap fun s2 => denOpsF_ap hC f _ hK s2
     ·exact denOper_ap hC fun s2 => denOpsF_ap hC f _ hK s2
theorem denOpsH_ap (hC : ∀ g a, Ap (fun k => C k g a) (C' g a)) {ops : Array Oper} : ∀ (l : List Oper) {K : Nat → St → Option PV} {K' : St → Option PV}, ApK K K' → ApK (fun k s => denOpsH P d (C k) ops l (K k) s) (fun s => denOpsH P d C' ops l K' s)
 | [], K, K', hK => hK
 | o :: rest, K, K', hK => fun s => by
  show Ap (fun k => denOpsH P d (C k) ops (o :: rest) (K k) s) (denOpsH P d C' ops (o :: rest) K' s)
  simp only [denOpsH]
  split
  ·exact denHand_ap hC fun s2 => denOpsH_ap hC rest hK s2
  ·split
   ·exact guarded_ap (fun s1 => denHand_ap hC fun s2 => denOpsH_ap hC rest hK s2) (fun s2 => denOpsH_ap hC rest hK s2)
   ·exact denOper_ap hC fun s2 => denOpsH_ap hC rest hK s2
theorem denOps_ap (hC : ∀ g a, Ap (fun k => C k g a) (C' g a)) {quiet : Bool} {ops : Array Oper} {l : List Oper} {K : Nat → St → Option PV} {K' : St → Option PV} (hK : ApK K K') : ApK (fun k s => denOps P d (C k) quiet ops l (K k) s) (fun s => denOps P d C' quiet ops l K' s) :=
 fun s => by
  unfold denOps
  split
  ·exact denOpsH_ap hC l hK s
  ·exact denOpsF_ap hC _ _ hK s
theorem denPlan_ap (hC : ∀ g a, Ap (fun k => C k g a) (C' g a)) {ops : Array Oper} : ∀ (l : List Nat) {K : Nat → St → Option PV} {K' : St → Option PV}, ApK K K' → ApK (fun k s => denPlan P d (C k) ops l (K k) s) (fun s => denPlan P d C' ops l K' s)
 | [], K, K', hK => hK
 | i :: l, K, K', hK => fun s => by
  show Ap (fun k => denPlan P d (C k) ops (i :: l) (K k) s) (denPlan P d C' ops (i :: l) K' s)
  simp only [denPlan]
  split
  ·exact denOper_ap hC fun s2 => denPlan_ap hC l hK s2
  ·exact Ap.none
theorem denAllocs_ap {ops : Array Oper} : ∀ (l : List Nat) {K : Nat → St → Option PV} {K' : St → Option PV}, ApK K K' → ApK (fun k s => denAllocs P ops l (K k) s) (fun s => denAllocs P ops l K' s)
 | [], K, K', hK => hK
 | i :: l, K, K', hK => fun s => by
  show Ap (fun k => denAllocs P ops (i :: l) (K k) s) (denAllocs P ops (i :: l) K' s)
  simp only [denAllocs]
  split
  ·exact denOp_ap fun x h => denAllocs_ap l hK _
  ·exact Ap.none
theorem denPlanW_ap (hC : ∀ g a, Ap (fun k => C k g a) (C' g a)) {ops : Array Oper} {W : List Nat} : ∀ (l : List Nat) {K : Nat → St → Option PV} {K' : St → Option PV}, ApK K K' → ApK (fun k s => denPlanW P d (C k) ops W l (K k) s) (fun s => denPlanW P d C' ops W l K' s)
 | [], K, K', hK => hK
 | i :: l, K, K', hK => fun s => by
  show Ap (fun k => denPlanW P d (C k) ops W (i :: l) (K k) s) (denPlanW P d C' ops W (i :: l) K' s)
  simp only [denPlanW]
  split
  ·split
   ·exact denExec_ap hC fun s2 => denPlanW_ap hC l hK s2
   ·exact Ap.none
  ·exact Ap.none
theorem denPlanR_ap (hC : ∀ g a, Ap (fun k => C k g a) (C' g a)) {ops : Array Oper} : ∀ (l : List (Nat × Bool)) (D : List (Nat × List Nat)) {K : Nat → St → Option PV} {K' : St → Option PV}, ApK K K' → ApK (fun k s => denPlanR P d (C k) ops l D (K k) s) (fun s => denPlanR P d C' ops l D K' s)
 | [], D, K, K', hK => hK
 | (i, e) :: l, D, K, K', hK => fun s => by
  show Ap (fun k => denPlanR P d (C k) ops ((i, e) :: l) D (K k) s) (denPlanR P d C' ops ((i, e) :: l) D K' s)
  simp only [denPlanR]
  split
  ·split
   ·exact denExec_ap hC fun s2 => denPlanR_ap hC l _ hK s2
   ·split
    ·exact denExec_ap hC fun s2 => denPlanR_ap hC l _ hK s2
    ·split
     ·split
      ·exact denHand_ap hC fun s2 => denPlanR_ap hC l _ hK s2
      ·exact Ap.none
     ·split
      ·exact denExec_ap hC fun s2 => denPlanR_ap hC l _ hK s2
      ·exact Ap.none
  ·exact Ap.none
theorem denRegion_ap (hC : ∀ g a, Ap (fun k => C k g a) (C' g a)) {ops : Array Oper} {draw : Bool} {K : Nat → St → Option PV} {K' : St → Option PV} (hK : ApK K K') (s : St) : Ap (fun k => denRegion P d (C k) ops draw (K k) s) (denRegion P d C' ops draw K' s) := by
 unfold denRegion
 split
 ·split
  ·exact denOps_ap hC hK s
  ·split
   ·exact denPlan_ap hC _ (denOps_ap hC hK) s
   ·split
    ·exact denPlan_ap hC _ (denOps_ap hC hK) s
    split
    ·split
     ·exact denPlanR_ap hC _ _ hK s
     ·exact Ap.none
    ·split
     ·split
      ·exact denPlanW_ap hC _ (denAllocs_ap _ (denPlanW_ap hC _ hK)) _
      ·exact Ap.none
     ·exact Ap.none
 ·exact denOps_ap hC hK s
variable {lp : Nat → Loops} {lp' : Loops}
theorem denC_ap (hC : ∀ g a, Ap (fun k => C k g a) (C' g a)) (hlp : ∀ (T : St → St) (F : Nat → (St → Option PV) → St → Option PV) (F' : (St → Option PV) → St → Option PV), (∀ K K', ApK K K' → ApK (fun k s => F k (K k) s) (fun s => F' K' s)) → ApK (fun k s => lp k T (F k) s) (fun s => lp' T F' s)) {hint : Nat → Option (List Nat × Nat)} {g : Nat → Nat} {g' : Nat} : ∀ (c : Code) {X : Nat → Nat → St → Option PV} {X' : Nat → St → Option PV} {R K : Nat → St → Option PV} {R' K' : St → Option PV}, (∀ j, ApK (fun k => X k j) (X' j)) → ApK R R' → ApK K K' →
   ApK (fun k s => denC P d (C k) hint (lp k) (g k) c (X k) (R k) (K k) s) (fun s => denC P d C' hint lp' g' c X' R' K' s) := by
 intro c
 induction c with
 | skip => intro X X' R K R' K' hX hR hK s; exact hK s
 | label l => intro X X' R K R' K' hX hR hK s; exact hK s
 | region id ops draw => intro X X' R K R' K' hX hR hK s; exact denRegion_ap hC hK s
 | seq x y ihx ihy =>
  intro X X' R K R' K' hX hR hK s
  simp only [denC]
  refine ihx hX hR (fun s2 => ?_) s
  simp only [gate_eq]
  exact ihy hX hR hK _
 | cond c t e iht ihe =>
  intro X X' R K R' K' hX hR hK s
  simp only [denC]
  repeat' split
  all_goals first | exact iht hX hR hK _ | exact ihe hX hR hK _ | exact Ap.none
 | block id c ih =>
  intro X X' R K R' K' hX hR hK s
  simp only [denC]
  refine ih (fun j s2 => ?_) hR hK s
  dsimp only
  split
  ·exact hK s2
  ·exact hX j s2
 | exit id => intro X X' R K R' K' hX hR hK s; exact hX id s
 | loop c ih =>
  intro X X' R K R' K' hX hR hK s
  simp only [denC]
  exact hlp _ _ _ (fun L L' hL s2 => ih hX hR hL s2) s
 | ret => intro X X' R K R' K' hX hR hK s; exact hR s
 | rangeFunc f ps as c iha ihc => intro X X' R K R' K' hX hR hK s; exact Ap.none
 | scope c ih => intro X X' R K R' K' hX hR hK s; exact Ap.none
 | goto l => intro X X' R K R' K' hX hR hK s; exact Ap.none
 | refuse why => intro X X' R K R' K' hX hR hK s; exact Ap.none
theorem denBody_ap (hC : ∀ g a, Ap (fun k => C k g a) (C' g a)) (hlp : ∀ (T : St → St) (F : Nat → (St → Option PV) → St → Option PV) (F' : (St → Option PV) → St → Option PV), (∀ K K', ApK K K' → ApK (fun k s => F k (K k) s) (fun s => F' K' s)) → ApK (fun k s => lp k T (F k) s) (fun s => lp' T F' s)) {hint : Nat → Option (List Nat × Nat)} {g : Nat → Nat} {g' : Nat} {fn : Func} {args : List PV} : Ap (fun k => denBody P d (C k) hint (lp k) (g k) fn args) (denBody P d C' hint lp' g' fn args) := by
 unfold denBody
 split
 ·exact Ap.none
 ·split
  all_goals exact denC_ap (X := fun _ _ _ => none) (X' := fun _ _ => none) (R := fun _ => retV P d fn) (R' := retV P d fn) (K := fun _ => retV P d fn) (K' := retV P d fn) hC hlp _ (fun _ _ => Ap.none) (fun _ => Ap.const) (fun _ => Ap.const) _
end
/-- Turns of a loop. -/
theorem loopN_ap {T : St → St} {F : Nat → (St → Option PV) → St → Option PV} {F' : (St → Option PV) → St → Option PV} (hF : ∀ K K', ApK K K' → ApK (fun k s => F k (K k) s) (fun s => F' K' s)) :
  ∀ (n : Nat) (j : Nat → Nat) (k0 : Nat), (∀ k, k0 ≤ k → n ≤ j k) → ∀ s, Ap (fun k => loopN T (F k) (j k) s) (loopN T F' n s)
 | 0, _, _, _, _ => Ap.none
 | n + 1, j, k0, hj, s => by
  refine Ap.congr (hF (fun k s2 => loopN T (F k) (j k - 1) (T s2)) (fun s2 => loopN T F' n (T s2)) (fun s2 => loopN_ap hF n (fun k => j k - 1) k0 (fun k hk => by have := hj k hk; omega) (T s2)) s) k0 fun k hk => ?_
  have := hj k hk
  show loopN T (F k) (j k) s = F k (fun s2 => loopN T (F k) (j k - 1) (T s2)) s
  rw [show j k = (j k - 1) + 1 by omega]
  rfl
open Classical in
/-- What u is from some place on. -/
noncomputable def lim (u : Nat → Option PV) : Option PV := if h : ∃ r, ∃ k0, ∀ k, k0 ≤ k → u k = some r then some h.choose else none
theorem lim_some {u : Nat → Option PV} {r : PV} : lim u = some r ↔ ∃ k0, ∀ k, k0 ≤ k → u k = some r := by
 unfold lim
 constructor
 ·intro h
  split at h
  ·rename_i hh
   have e := hh.choose_spec
   rw [Option.some.inj h] at e
   exact e
  ·cases h
 ·rintro ⟨k0, hk⟩
  have hh : ∃ r, ∃ k0, ∀ k, k0 ≤ k → u k = some r := ⟨r, k0, hk⟩
  rw [dif_pos hh]
  obtain ⟨k1, h1⟩ := hh.choose_spec
  have a := h1 (max k0 k1) (by omega)
  rw [hk _ (by omega)] at a
  exact a.symm
theorem lim_ap {u : Nat → Option PV} : Ap u (lim u) := fun _ h => lim_some.1 h
/-- A loop that may turn as often as it must. -/
noncomputable def loopI (T : St → St) (F : (St → Option PV) → St → Option PV) (s : St) : Option PV := lim fun n => loopN T F n s
noncomputable def lpI : Loops := fun T F s => loopI T F (T s)
def Good (F : (St → Option PV) → St → Option PV) : Prop := ∀ (K : Nat → St → Option PV) (K' : St → Option PV), ApK K K' → ApK (fun k s => F (K k) s) (fun s => F K' s)
theorem loopN_all {T : St → St} {F : Nat → (St → Option PV) → St → Option PV} {F' : (St → Option PV) → St → Option PV} (hF : ∀ K K', ApK K K' → ApK (fun k s => F k (K k) s) (fun s => F' K' s)) {n : Nat} {s : St} {r : PV} (h : loopN T F' n s = some r) :
  ∃ k0, ∀ k, k0 ≤ k → ∀ m, n ≤ m → loopN T (F k) m s = some r := by
 classical
 obtain ⟨k0, hk⟩ := loopN_ap hF n (fun k => if h : ∃ m, n ≤ m ∧ loopN T (F k) m s ≠ some r then h.choose else n) 0 (fun k _ => by
  split
  ·rename_i h; exact h.choose_spec.1
  ·exact Nat.le_refl _) s r h
 refine ⟨k0, fun k hk0 m hm => Classical.byContradiction fun hn => ?_⟩
 have hh : ∃ m, n ≤ m ∧ loopN T (F k) m s ≠ some r := ⟨m, hm, hn⟩
 have e : loopN T (F k) (if h : ∃ m, n ≤ m ∧ loopN T (F k) m s ≠ some r then h.choose else n) s = some r := hk k hk0
 rw [dif_pos hh] at e
 exact hh.choose_spec.2 e
theorem loopN_le {T : St → St} {F : (St → Option PV) → St → Option PV} (hF : Good F) {n : Nat} {s : St} {r : PV} (h : loopN T F n s = some r) : loopI T F s = some r := by
 obtain ⟨k0, hk⟩ := loopN_all (F := fun _ => F) hF h
 exact lim_some.2 ⟨n, fun m hm => hk k0 (Nat.le_refl _) m hm⟩
theorem loopI_eq {T : St → St} {F : (St → Option PV) → St → Option PV} (hF : Good F) (s : St) : loopI T F s = F (fun s2 => loopI T F (T s2)) s := by
 have h1 : ∀ r, loopI T F s = some r → F (fun s2 => loopI T F (T s2)) s = some r := by
  intro r hr
  obtain ⟨k0, hk⟩ := lim_some.1 hr
  have h := hk (k0 + 1) (by omega)
  obtain ⟨a, ha⟩ := hF (fun _ s2 => loopI T F (T s2)) (fun s2 => loopN T F k0 (T s2)) (fun s2 r2 h2 => ⟨0, fun _ _ => loopN_le hF h2⟩) s r h
  exact ha a (Nat.le_refl _)
 have h2 : ∀ r, F (fun s2 => loopI T F (T s2)) s = some r → loopI T F s = some r := by
  intro r hr
  obtain ⟨a, ha⟩ := hF (fun n s2 => loopN T F n (T s2)) (fun s2 => loopI T F (T s2)) (fun s2 => lim_ap) s r hr
  exact loopN_le (n := a + 1) hF (ha a (Nat.le_refl _))
 cases e : loopI T F s with
 | some r => exact (h1 r e).symm
 | none =>
  cases e2 : F (fun s2 => loopI T F (T s2)) s with
  | none => rfl
  | some r => rw [h2 r e2] at e; cases e
def LpOk (lp : Nat → Loops) (lp' : Loops) : Prop := ∀ (T : St → St) (F : Nat → (St → Option PV) → St → Option PV) (F' : (St → Option PV) → St → Option PV), (∀ K K', ApK K K' → ApK (fun k s => F k (K k) s) (fun s => F' K' s)) → ApK (fun k s => lp k T (F k) s) (fun s => lp' T F' s)
theorem lp_lim : LpOk (fun k => lpN k) lpI := by
 intro T F F' hF s r hr
 obtain ⟨n, hn⟩ := lim_some.1 hr
 obtain ⟨k0, hk⟩ := loopN_all hF (hn n (Nat.le_refl _))
 exact ⟨max k0 n, fun k h => hk k (by omega) k (by omega)⟩
theorem lp_self : LpOk (fun _ => lpI) lpI := by
 intro T F F' hF s r hr
 obtain ⟨n, hn⟩ := lim_some.1 hr
 obtain ⟨k0, hk⟩ := loopN_all hF (hn n (Nat.le_refl _))
 exact ⟨k0, fun k h => lim_some.2 ⟨n, fun m hm => hk k h m hm⟩⟩
theorem lp_le (n : Nat) : LpOk (fun _ => lpI) (lpN n) := by
 intro T F F' hF s r hr
 obtain ⟨k0, hk⟩ := loopN_all hF hr
 exact ⟨k0, fun k h => lim_some.2 ⟨n, fun m hm => hk k h m hm⟩⟩
theorem lp_next (n : Nat) : LpOk (fun _ => lpN (n + 1)) (lpN n) := by
 intro T F F' hF s r hr
 obtain ⟨k0, hk⟩ := loopN_all hF hr
 exact ⟨k0, fun k h => hk k h (n + 1) (by omega)⟩
section
variable (P : Program) (d : Cf) (ext : FuncId → Option (List PV → Option PV)) (hint : FuncId → Nat → Option (List Nat × Nat))
/-- What a function answers, whatever time it takes. -/
noncomputable def denI (f : FuncId) (args : List PV) : Option PV := lim fun k => den P d ext hint k f args
variable {P d ext hint}
theorem den_next : ∀ (k : Nat) (f : FuncId) (args : List PV) (r : PV), den P d ext hint k f args = some r → den P d ext hint (k + 1) f args = some r
 | 0, _, _, _, h => by cases h
 | k + 1, f, args, r, h => by
  rw [den] at h ⊢
  split at h
  ·rename_i g hg; (try simp only [hg]); exact h
  ·rename_i hg
   try simp only [hg]
   split at h
   ·rename_i fn hf
    try simp only [hf]
    obtain ⟨a, ha⟩ := denBody_ap (C := fun _ => den P d ext hint (k + 1)) (C' := den P d ext hint k) (g := fun _ => k + 1) (fun g a r h => ⟨0, fun _ _ => den_next k g a r h⟩) (lp_next k) r h
    exact ha a (Nat.le_refl _)
   ·cases h
theorem den_from {k : Nat} {f : FuncId} {args : List PV} {r : PV} (h : den P d ext hint k f args = some r) : ∀ k', k ≤ k' → den P d ext hint k' f args = some r := by
 intro k' hk
 induction hk with
 | refl => exact h
 | step _ ih => exact den_next _ _ _ _ ih
theorem denI_of {k : Nat} {f : FuncId} {args : List PV} {r : PV} (h : den P d ext hint k f args = some r) : denI P d ext hint f args = some r := lim_some.2 ⟨k, den_from h⟩
theorem denI_some {f : FuncId} {args : List PV} {r : PV} (h : denI P d ext hint f args = some r) : ∃ k, den P d ext hint k f args = some r := by
 obtain ⟨k, hk⟩ := lim_some.1 h
 exact ⟨k, hk k (Nat.le_refl _)⟩
theorem eq_of_some {u v : Option PV} (h1 : ∀ r, u = some r → v = some r) (h2 : ∀ r, v = some r → u = some r) : u = v := by
 cases u with
 | some r => exact (h1 r rfl).symm
 | none => cases v with
  | none => rfl
  | some r => exact absurd (h2 r rfl) (by simp)
/-- One step of it. k: any number. -/
noncomputable def stepI (P : Program) (d : Cf) (ext : FuncId → Option (List PV → Option PV)) (hint : FuncId → Nat → Option (List Nat × Nat)) (k : Nat) (f : FuncId) (args : List PV) : Option PV := match ext f with
 | some g => g args
 | none => match P.funcs[f]? with
  | some fn => denBody P d (denI P d ext hint) (hint f) lpI k fn args
  | none => none
theorem denI_eq (k : Nat) (f : FuncId) (args : List PV) : denI P d ext hint f args = stepI P d ext hint k f args := by
 refine eq_of_some (fun r h => ?_) (fun r h => ?_)
 ·obtain ⟨k1, h1⟩ := denI_some h
  cases k1 with
  | zero => cases h1
  | succ k1 =>
   rw [den] at h1
   unfold stepI
   split at h1
   ·rename_i g hg; (try simp only [hg]); exact h1
   ·rename_i hg
    try simp only [hg]
    split at h1
    ·rename_i fn hf
     try simp only [hf]
     obtain ⟨a, ha⟩ := denBody_ap (C := fun _ => denI P d ext hint) (C' := den P d ext hint k1) (g := fun _ => k) (fun g a r h => ⟨0, fun _ _ => denI_of h⟩) (lp_le k1) r h1
     exact ha a (Nat.le_refl _)
    ·cases h1
 ·unfold stepI at h
  split at h
  ·rename_i g hg
   exact denI_of (k := 1) (by rw [den]; simp only [hg]; exact h)
  ·rename_i hg
   split at h
   ·rename_i fn hf
    obtain ⟨a, ha⟩ := denBody_ap (C := fun k => den P d ext hint k) (C' := denI P d ext hint) (g := fun k => k) (fun g a => lim_ap) lp_lim r h
    exact denI_of (k := a + 1) (by rw [den]; simp only [hg, hf]; exact ha a (Nat.le_refl _))
   ·cases h
theorem body_good {hint : Nat → Option (List Nat × Nat)} {C : FuncId → List PV → Option PV} {k : Nat} {c : Code} {X : Nat → St → Option PV} {R : St → Option PV} : Good (fun L s2 => denC P d C hint lpI k c X R L s2) :=
 fun K K' hK => denC_ap (C := fun _ => C) (lp := fun _ => lpI) (g := fun _ => k) (fun _ _ => Ap.const) lp_self c (fun _ _ => Ap.const) (fun _ => Ap.const) hK
end
section
variable {P : Program} {T : World → Prop}
theorem denI_ok (hm : P.follows .mixedOrders = true) (hTb : ∀ w w', T w → Below w.heap.size w w' → T w') {d : Cf} {ext : FuncId → Option (List PV → Option PV)} (hext : ∀ f g args r, ext f = some g → g args = some r → FunOk P T f args r) {hint : FuncId → Nat → Option (List Nat × Nat)} (f : FuncId) (args : List PV) (r : PV) (h : denI P d ext hint f args = some r) : FunOk P T f args r := by
 obtain ⟨k, hk⟩ := denI_some h
 exact den_ok hm hTb hext k f args r hk
end
end Go.Den
