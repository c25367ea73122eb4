/- A place inside a function's code: what 'den' answers from there on. -/
import Derived.Test.YtkhbkbkambflbaaGreatDoorDenR
namespace Go.Den
open Go
noncomputable def codeAt (P : Program) (d : Cf) (C : FuncId → List PV → Option PV) (hint : Nat → Option (List Nat × Nat)) (k : Nat) (E : Code → (Nat → St → Option PV) → (St → Option PV) → (St → Option PV) → Option PV) : List Nat → Code → (Nat → St → Option PV) → (St → Option PV) → (St → Option PV) → Option PV
  | [], c, X, R, K => E c X R K
  | 0 :: p, .seq a b, X, R, K => codeAt P d C hint k E p a X R (gate (hint (1000000 + firstId b)) k (fun s' => denC P d C hint lpI k b X R K s'))
  | _ :: p, .seq _ b, X, R, K => codeAt P d C hint k E p b X R K
  | 0 :: p, .cond _ t _, X, R, K => codeAt P d C hint k E p t X R K
  | _ :: p, .cond _ _ e, X, R, K => codeAt P d C hint k E p e X R K
  | _ :: p, .block id c, X, R, K => codeAt P d C hint k E p c (fun j s' => if j = id then K s' else X j s') R K
  | _ :: p, .loop c, X, R, _ => codeAt P d C hint k E p c X R (fun s2 => loopI (tidy (hint (firstId c))) (fun L s2 => denC P d C hint lpI k c X R L s2) (tidy (hint (firstId c)) s2))
  | _, _, _, _, _ => none
noncomputable def atCode (P : Program) (d : Cf) (C : FuncId → List PV → Option PV) (hint : Nat → Option (List Nat × Nat)) (k : Nat) (s : St) (c : Code) (X : Nat → St → Option PV) (R K : St → Option PV) : Option PV := denC P d C hint lpI k c X R K s
noncomputable def atLoop (P : Program) (d : Cf) (C : FuncId → List PV → Option PV) (hint : Nat → Option (List Nat × Nat)) (k : Nat) (s : St) (c : Code) (X : Nat → St → Option PV) (R _K : St → Option PV) : Option PV := match c with
  | .loop c => loopI (tidy (hint (firstId c))) (fun L s2 => denC P d C hint lpI k c X R L s2) s
  | _ => none
/-- A loop, opened once. -/
noncomputable def atBody (P : Program) (d : Cf) (C : FuncId → List PV → Option PV) (hint : Nat → Option (List Nat × Nat)) (k : Nat) (s : St) (c : Code) (X : Nat → St → Option PV) (R _K : St → Option PV) : Option PV := match c with
  | .loop c => denC P d C hint lpI k c X R (fun s2 => loopI (tidy (hint (firstId c))) (fun L s2 => denC P d C hint lpI k c X R L s2) (tidy (hint (firstId c)) s2)) s
  | _ => none
theorem atLoop_eq {P : Program} {d : Cf} {C : FuncId → List PV → Option PV} {hint : Nat → Option (List Nat × Nat)} {k : Nat} {s : St} : atLoop P d C hint k s = atBody P d C hint k s := by
  funext c X R K
  unfold atLoop atBody
  split
  · exact loopI_eq body_good s
  · rfl
noncomputable def denAt (P : Program) (d : Cf) (ext : FuncId → Option (List PV → Option PV)) (hint : FuncId → Nat → Option (List Nat × Nat)) (k : Nat) (f : FuncId) (E : (FuncId → List PV → Option PV) → (Nat → Option (List Nat × Nat)) → St → Code → (Nat → St → Option PV) → (St → Option PV) → (St → Option PV) → Option PV) (p : List Nat) (s : St) : Option PV := match P.funcs[f]? with
  | some fn => match fn.body with
    | some c => codeAt P d (denI P d ext hint) (hint f) k (E (denI P d ext hint) (hint f) s) p c (fun _ _ => none) (retV P d fn) (retV P d fn)
    | none => none
  | none => none
noncomputable def placeAt (P : Program) (d : Cf) (ext : FuncId → Option (List PV → Option PV)) (hint : FuncId → Nat → Option (List Nat × Nat)) (k : Nat) (f : FuncId) (p : List Nat) (s : St) : Option PV := denAt P d ext hint k f (fun C h s => atCode P d C h k s) p s
noncomputable def loopAt (P : Program) (d : Cf) (ext : FuncId → Option (List PV → Option PV)) (hint : FuncId → Nat → Option (List Nat × Nat)) (k : Nat) (f : FuncId) (p : List Nat) (s : St) : Option PV := denAt P d ext hint k f (fun C h s => atLoop P d C h k s) p s
noncomputable def bodyAt (P : Program) (d : Cf) (ext : FuncId → Option (List PV → Option PV)) (hint : FuncId → Nat → Option (List Nat × Nat)) (k : Nat) (f : FuncId) (p : List Nat) (s : St) : Option PV := denAt P d ext hint k f (fun C h s => atBody P d C h k s) p s
theorem loopAt_eq {P : Program} {d : Cf} {ext : FuncId → Option (List PV → Option PV)} {hint : FuncId → Nat → Option (List Nat × Nat)} (k : Nat) (f : FuncId) (p : List Nat) (s : St) : loopAt P d ext hint k f p s = bodyAt P d ext hint k f p s := by
  unfold loopAt bodyAt
  have e : (fun C h s => atLoop P d C h k s) = (fun C h s => atBody P d C h k s) := by
    funext C h s
    exact atLoop_eq
  rw [e]
theorem gateK_open (k : Nat) (F : St → Option PV) (s : St) : gateK k F s = F s := by cases k <;> rfl
end Go.Den
