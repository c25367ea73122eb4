/- ShiftKeeps: whatever the input, the law returns true; each argument reads behind the call as it read before. No condition. -/
import Derived.Test.YtcncojlgapknpaaShiftG
import Derived.Test.YtcncojlgapknpaaDenU
import Derived.Test.YtcncojlgapknpaaRows
import Derived.Test.YtcncojlgapknpaaEAh
set_option maxRecDepth 100000
namespace Go.Proofs.Ytcncojlgapknpaa.shiftKeeps
open Go.ChangeShapes Go.WideShapes Go.ChangeAt Go.RowKit Go.Den
theorem own : ownKnob Try.prog.godebug = none := by kernel_rfl
theorem laidOut : laidOutB Try.prog = true := by kernel_rfl
theorem good : goodAll Try.prog [28, 3, 23, 2, 9, 25, 4, 26, 30] = true := by kernel_rfl
theorem follows : Try.prog.follows .mixedOrders = true := by kernel_rfl
theorem lifted (os : Os) (started : os.Started) (H : Type) (enc : TypeId × Value → H) :
    ReturnsInHanded {} Try.checked os 3 .any (Rows.shiftKeepsSpec.pre6 enc Try.prog Try.f3 Rows.shiftKeepsRow.domain false) (Rows.shiftKeepsSpec.post enc Try.prog Try.f3 false true false false) := by
  refine returnsInHanded_of_change_sized (C := Try.checked) own started (by kernel_rfl) Try.func3
    (ChangeSpec.witness6 (enc := enc) (C := Try.checked) false ⟨#[], #[.agg #[.int .i64 0, .int .i64 0, .int .i64 0, .int .i64 0, .string ⟨#[]⟩, .int .i64 0, .int .i64 0, .bool false, .bool false, .int .i64 0, .int .i64 0, .bool false, .bool false, .slice none 0 0], .agg #[.int .i64 0, .int .i64 0], .agg #[.int .i64 0, .int .i64 0]], []⟩ 8 (by kernel_rfl) (by kernel_rfl) (by kernel_rfl) (by kernel_rfl)) ?_
  intro W base args ds gs before hval0 hW hcnd hsz0 _
  have hval : ∀ (j : Nat) t v, Try.f3.params[j]? = some t → args[j]? = some v → Value.okWide Try.prog W .any base t v := hval0
  have hW' := hW
  obtain ⟨p, q, hA0, hV, rfl, hfz, hnd⟩ := hW
  have hA : DataW.TrodAll enc Try.prog W 0 (fun _ => true) true [28, 30, 30] args.toList ds p := hA0
  obtain ⟨rfl, rfl⟩ := trodVars_none hV
  obtain ⟨xs, hH⟩ := open_all good [28, 30, 30] args.toList ds p (by decide) hA (fun j t v ht hv => hval j t v (by rw [Try.params3]; simpa using ht) (by simpa using hv)) fun n hn => by
    have hz : (DataW.weightsEach Try.prog (Try.f3.params.toList ++ Rows.shiftKeepsSpec.plain.varTypes Try.prog) (ds ++ [])).all (· ≤ reachBytes) = true := hsz0
    rw [Try.params3] at hz
    have := List.all_eq_true.1 hz n (weights_app n hn)
    simpa using this
  have hD := Den.EA.shiftKeeps_D W args.toList xs hH
  have hok := Den.denI_ok (T := fun _ => True) follows (fun _ _ _ _ => trivial) (fun f g args r h => by cases h) 3 xs _ hD
  refine (Den.law_calls hok trivial hH).mono fun e W' ⟨he, bel⟩ => ?_
  subst he
  have hback := carry_all laidOut bel [28, 30, 30] args.toList ds p (by kernel_rfl) hA
  obtain ⟨v0, vs0, d0, ds0, p0, q0, hargs0, rfl, rfl, h0, r0⟩ := trodAll_cons hA
  obtain ⟨v1, vs1, d1, ds1, p1, q1, hargs1, rfl, rfl, h1, r1⟩ := trodAll_cons r0
  obtain ⟨v2, vs2, d2, ds2, p2, q2, hargs2, rfl, rfl, h2, r2⟩ := trodAll_cons r1
  obtain ⟨_, rfl, _⟩ := trodAll_nil r2
  exact ⟨_, rfl, _, _, _, [], _, [], hW', trodAll_mk1 (shut_bool Try.underlying4 _), hback, rfl, bel.frame _, fun h => by cases h⟩
theorem over : Rows.shiftKeepsRow.holds Try.pinned (OpenSpec.ofChange Rows.shiftKeepsSpec) :=
  OpenClaim.holds_of_wide 3 Try.f3 rfl rfl rfl rfl rfl rfl rfl ⟨rfl, rfl, rfl, rfl, rfl⟩ rfl rfl rfl rfl rfl (by kernel_rfl) Try.func3 (by kernel_rfl)
    (of_decide_eq_true (by kernel_rfl)) (by unfold Func.isWrapper; first | (rw [if_pos (by decide +kernel)]; kernel_rfl) | (rw [if_neg (by decide +kernel)]; exact ⟨rfl, rfl⟩))
    (fun os started H enc _ => lifted os started H enc)
end Go.Proofs.Ytcncojlgapknpaa.shiftKeeps
namespace Go.Proofs.Ytcncojlgapknpaa
theorem shiftKeeps_holds : Rows.ShiftKeepsSaid := shiftKeeps.over
end Go.Proofs.Ytcncojlgapknpaa
