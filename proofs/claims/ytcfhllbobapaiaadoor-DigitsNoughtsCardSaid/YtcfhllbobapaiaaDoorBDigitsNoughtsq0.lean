/- Noughts ahead, and behind, change nothing of what a text means: for every decimal and every count, without a condition. -/
import Derived.Test.YtcfhllbobapaiaaDoorRows
import Derived.Test.YtcfhllbobapaiaaDoorBDigitsNoughtsp2
import Derived.Shelf.Vars
import Derived.LaidMore
import Derived.Stop.LaidErr
import Derived.Handed
import Derived.Test.YtcfhllbobapaiaaDoorBDigitsNoughtsw
import Derived.Test.YtcfhllbobapaiaaDoorBDigitsNoughtsp1
import Derived.Test.YtcfhllbobapaiaaDoorBDigitsNoughtsp3
import Derived.Test.YtcfhllbobapaiaaDoorBDigitsNoughtsp0
import Derived.Test.YtcfhllbobapaiaaDoorBDigitsNoughtsp5
import Derived.Laws.Strings
import Derived.Test.YtcfhllbobapaiaaDoorBDigitsNoughtsp4
import Derived.Lib.IndexBytes
import Derived.Lib.IndexMore
import Derived.Test.YtcfhllbobapaiaaDoorBDigitsNoughtsp6
import Derived.Test.YtcfhllbobapaiaaDoorBDigitsNoughtsp7
import Derived.Test.YtcfhllbobapaiaaDoorTie
import Derived.Test.YtcfhllbobapaiaaDoorCards
import Derived.Lay
import Derived.SevenTiedAt
import Derived.Stop.Joined
import Derived.Handy
import Derived.WalkKit
import Derived.ProofKit
import Derived.OpenShut
import Derived.ShutString
import Derived.ChangeOld
import Derived.Below
import Derived.SizedLaws

namespace Go.Proofs.YtcfhllbobapaiaaDoor.Q
open Go
theorem returns_and_shaped {H : Type} {enc : TypeId × Value → H} {a : Assume} {C : Checked} {os : Os} {f : FuncId} {fn : Func} {s : ChangeSpec} {conds : List PathCond} {apart fresh handsOn again : Bool} {X : World → Array Value → Prop}
    (hX : ∀ (w w' : World) (args : Array Value), w.heap = w'.heap → X w args → X w' args)
    (own : ownKnob C.prog.godebug = none) (started : os.Started) (noInit : C.prog.inits.idxOf? f = none) (hfn : C.prog.funcs[f]? = some fn)
    (witness : ∃ (w : World) (tape : Tape) (i : Input), w.os = os ∧ (w.forCall tape i).Shaped C.prog ∧ i.vars = [] ∧ Input.okWide C.prog (w.forCall tape i) .any w.heap.size f i ∧
      ((s.pre enc C.prog fn conds apart (w.forCall tape i).memory i.args ∧ X (w.forCall tape i).memory i.args) ∧ sizedMet enc C.prog fn (OpenSpec.ofChange s) apart (w.forCall tape i).memory i.args) ∧ a.holds C.prog (lone (Frame.enter C.prog f i.args .normal) [] (w.forCall tape i)))
    (contract : ∀ (W : World) (base : Nat) (args : Array Value) (ds gs : List (DataW H)) (before : List MemPlace),
      (∀ (j : Nat) t v, fn.params[j]? = some t → args[j]? = some v → Value.okWide C.prog W .any base t v) →
      DataW.Whole enc C.prog fn.params.toList s.vars apart W args.toList ds gs before →
      conds.all (PathCond.test C.prog ⟨fn.params.toList, ds, s.plain.varTypes C.prog, gs⟩) = true →
      (DataW.weightsEach C.prog (fn.params.toList ++ s.plain.varTypes C.prog) (ds ++ gs)).all (· ≤ reachBytes) = true → X W args →
      W.ShapedOpen C.prog →
      Calls C.prog f args W fun e W' => ∃ v, e = .returned v ∧ s.post enc C.prog fn apart fresh handsOn again W args v W') :
    ReturnsInHanded a C os f .any (fun w args => (s.pre enc C.prog fn conds apart w args ∧ X w args) ∧ sizedMet enc C.prog fn (OpenSpec.ofChange s) apart w args) (s.post enc C.prog fn apart fresh handsOn again) := by
  refine returnsInHanded_of_calls own started noInit witness ?_
  intro w tape i _ hsh _ hok hpre hholds
  obtain ⟨_, _, _, fn', hfn', _, _, _, _, hval⟩ := hok
  have e : fn' = fn := Option.some.inj (hfn'.symm.trans hfn)
  subst e
  obtain ⟨⟨⟨ds, gs, before, hw, hc⟩, hx⟩, hz⟩ := hpre
  have hw' := DataW.Whole.of_heap (w' := w.forCall tape i) (by rfl) hw
  refine (contract (w.forCall tape i) w.heap.size i.args ds gs before hval hw' hc (hz.weights hw) (hX _ _ _ (by rfl) hx) hsh).mono fun e W' ⟨v, he, hp⟩ => ?_
  subst he
  exact ChangeSpec.post_blind hp
theorem tabs_laid {r : List (String × DataW Unit)} {a b : String × DataW Unit} {W : World} (h : laidMet Tryd.prog (a :: b :: ("internal/strconv.uint64pow10", Rows.laid_internal_strconv_uint64pow10) :: r) W) (hS : W.ShapedOpen Tryd.prog) : YtcfhllbobapaiaaDoorW.XTabs.Tabs W := by
  refine ⟨?_, ?_⟩
  · exact Lib.tabIs_of_head (rest := r) (g := 5) (t := 199) (e := 88) (n := 20) (by kernel_rfl) (by kernel_rfl) (by kernel_rfl) (by kernel_rfl) (by kernel_rfl) (by kernel_rfl) (laidMet.tail (laidMet.tail h))
  · exact Go.Proofs.cell_of_shapedOpen_int (g := 4) (zero := #[.int .i64 0]) (t := 3) hS (of_decide_eq_true (by kernel_rfl)) (by kernel_rfl) rfl (by kernel_rfl) (by kernel_rfl) Tryd.underlying3
end Go.Proofs.YtcfhllbobapaiaaDoor.Q

namespace Go.Proofs.YtcfhllbobapaiaaDoor.Q
open Go Go.RowKit Go.Proofs.YtcfhllbobapaiaaDoorW.PrintWords
theorem i64_of_wf {x : Int} (h : (Lit.int .i64 x).wf = true) : -9223372036854775808 ≤ x ∧ x ≤ 9223372036854775807 := by
  simp [Lit.wf, IntKind.min, IntKind.max, IntKind.bits, IntKind.signed] at h
  omega
theorem w64 {x : Int} (h0 : -9223372036854775808 ≤ x) (h1 : x ≤ 9223372036854775807) : wrap64 x = x := by
  unfold wrap64; omega
theorem u64w (x : Int) : IntKind.u64.wrap x = x % 18446744073709551616 := by
  simp [IntKind.wrap, IntKind.bits, IntKind.signed]
theorem u64i {x : Int} (h0 : 0 ≤ x) (h : x < 18446744073709551616) : IntKind.u64.wrap x = x := by
  rw [u64w]; omega
theorem and32 {a : Int} (h0 : 0 ≤ a) (h1 : a < 18446744073709551616) : Go.bits .and .u64 a 4294967295 = a % 4294967296 :=
  bits_mask .u64 64 (by decide) (fun n h0 h1 => u64i h0 (by simpa using h1)) 32 (by decide) a h0 (by simpa using h1)
theorem prodB {x y : Int} (hx0 : 0 ≤ x) (hx : x ≤ 4294967295) (hy0 : 0 ≤ y) (hy : y ≤ 4294967295) : 0 ≤ x * y ∧ x * y ≤ 18446744065119617025 :=
  ⟨Int.mul_nonneg hx0 hy0, Int.le_trans (Int.mul_le_mul hx hy hy0 (by decide)) (by decide)⟩
end Go.Proofs.YtcfhllbobapaiaaDoor.Q

namespace Go.Proofs.YtcfhllbobapaiaaDoor.Q
open Go Go.RowKit Go.Proofs.YtcfhllbobapaiaaDoorW.PrintWords Go.Proofs.YtcfhllbobapaiaaDoorW.PrintLast Go.Proofs.YtcfhllbobapaiaaDoorW.PrintMore
set_option linter.unusedVariables false
set_option linter.unusedSimpArgs false
theorem Ev.pos {α : Type} {c : Prop} {inst : Decidable c} {f g : Nat → Option α} {r : α} (h : c) (k : Ev f r) : Ev (fun n => if c then f n else g n) r := by
  simpa only [if_pos h] using k
theorem Ev.neg {α : Type} {c : Prop} {inst : Decidable c} {f g : Nat → Option α} {r : α} (h : ¬ c) (k : Ev g r) : Ev (fun n => if c then f n else g n) r := by
  simpa only [if_neg h] using k
theorem Ev.ite {α : Type} {c : Prop} {inst : Decidable c} {f g : Nat → Option α} {r : α} (h : c → Ev f r) (k : ¬ c → Ev g r) : Ev (fun n => if c then f n else g n) r := by
  by_cases hc : c
  · exact Ev.pos hc (h hc)
  · exact Ev.neg hc (k hc)
theorem Ev.some_bind {α β : Type} {a : α} {x : Option α} {f : Nat → α → Option β} {r : β} (h : x = some a) (k : Ev (fun n => f n a) r) : Ev (fun n => x.bind (f n)) r := by
  subst h; exact k
end Go.Proofs.YtcfhllbobapaiaaDoor.Q

namespace Go.Proofs.YtcfhllbobapaiaaDoor.Q
open Go Go.RowKit Go.Proofs.YtcfhllbobapaiaaDoor.PA Go.Proofs.YtcfhllbobapaiaaDoorW.PrintWords Go.Proofs.YtcfhllbobapaiaaDoorW.PrintLast Go.Proofs.YtcfhllbobapaiaaDoorW.PrintMore
set_option linter.unusedVariables false
set_option linter.unusedSimpArgs false
theorem divide_l0 {b : Int} (hb : 0 < b) (hb' : b ≤ 9223372036854775808) (d : Nat) : ∀ (i H L Q R q0 X S : Int), i = 128 - (d : Int) → d ≤ 128 →
    0 ≤ H → H < 18446744073709551616 → 0 ≤ L → L < 18446744073709551616 → H * 18446744073709551616 + L = X * S → 0 ≤ X → X < 2 ^ d → 0 < S → 2 ^ d * S = 340282366920938463463374607431768211456 →
    0 ≤ q0 → 0 ≤ R → R < b → (q0 < 18446744073709551616 → Q = q0) → 0 ≤ Q → Q < 18446744073709551616 →
    ∃ Q', Ev (fun k => oculusref08_Divide.l0 k b i H L Q R (decide (q0 < 18446744073709551616))) (Q', ((b * q0 + R) * 2 ^ d + X) % b, decide (((b * q0 + R) * 2 ^ d + X) / b < 18446744073709551616))
      ∧ (((b * q0 + R) * 2 ^ d + X) / b < 18446744073709551616 → Q' = ((b * q0 + R) * 2 ^ d + X) / b) ∧ 0 ≤ Q' ∧ Q' < 18446744073709551616 := by
  induction d with
  | zero =>
    intro i H L Q R q0 X S hi hd hH0 hH hL0 hL hHL hX0 hX hS hMS hq0 hR0 hR hQ hQ0 hQ1
    obtain rfl : X = 0 := by have : X < 1 := hX; omega
    have e : (b * q0 + R) * 2 ^ 0 + 0 = R + b * q0 := by rw [Int.pow_zero, Int.mul_one, Int.add_zero, Int.add_comm]
    have hu : (R + b * q0) / b = q0 ∧ (R + b * q0) % b = R := (Int.ediv_emod_unique hb).2 ⟨rfl, hR0, hR⟩
    rw [e, hu.1, hu.2]
    refine ⟨Q, ?_, hQ, hQ0, hQ1⟩
    refine Ev.step (fun k => by rw [oculusref08_Divide.l0]) ?_
    exact Ev.neg (by omega) (Ev.now _)
  | succ d ih =>
    intro i H L Q R q0 X S hi hd hH0 hH hL0 hL hHL hX0 hX hS hMS hq0 hR0 hR hQ hQ0 hQ1
    have hM2 : (2 : Int) ^ (d + 1) = 2 ^ d * 2 := Int.pow_succ ..
    have hMp : (0 : Int) < 2 ^ d := Int.pow_pos (by decide)
    rw [hM2] at hX hMS
    have hMS' : 2 ^ d * S = 170141183460469231731687303715884105728 := by
      rw [Int.mul_assoc, Int.mul_comm 2 S, ← Int.mul_assoc] at hMS
      omega
    obtain ⟨bit, X', hbit, hbX, hX'0, hX', hH63, hXS⟩ : ∃ bit X' : Int, (bit = 0 ∨ bit = 1) ∧ X = bit * 2 ^ d + X' ∧ 0 ≤ X' ∧ X' < 2 ^ d ∧ H / 9223372036854775808 = bit ∧ X' * (2 * S) = 2 * (H * 18446744073709551616 + L) - bit * 340282366920938463463374607431768211456 := by
      by_cases hc : 2 ^ d ≤ X
      · refine ⟨1, X - 2 ^ d, .inr rfl, by omega, by omega, by omega, ?_, ?_⟩
        · have := Int.mul_le_mul_of_nonneg_right hc (Int.le_of_lt hS)
          omega
        · rw [hHL, Int.sub_mul, Int.mul_left_comm X 2 S, Int.mul_left_comm (2 ^ d) 2 S, hMS']; omega
      · refine ⟨0, X, .inl rfl, by omega, by omega, by omega, ?_, ?_⟩
        · have := Int.mul_lt_mul_of_pos_right (Int.lt_of_not_ge hc) hS
          omega
        · rw [hHL, Int.mul_left_comm X 2 S]; omega
    have hbit01 : 0 ≤ bit ∧ bit ≤ 1 := by omega
    have hN : ∀ c : Int, (b * q0 + R) * 2 ^ (d + 1) + X = (b * (2 * q0 + c) + (2 * R + bit - c * b)) * 2 ^ d + X' := by
      intro c
      rw [hM2, hbX]
      generalize (2 : Int) ^ d = M
      grind
    have eH : IntKind.u64.wrap (IntKind.u64.wrap (H * 2) + IntKind.u64.wrap (Int.tdiv L 9223372036854775808)) = 2 * H - bit * 18446744073709551616 + L / 9223372036854775808 := by
      rw [Int.tdiv_eq_ediv_of_nonneg hL0]; simp only [u64w]; omega
    have eL : IntKind.u64.wrap (L * 2) = 2 * L % 18446744073709551616 := by rw [u64w, Int.mul_comm]
    have eR : IntKind.u64.wrap (IntKind.u64.wrap (R * 2) + IntKind.u64.wrap (Int.tdiv H 9223372036854775808)) = 2 * R + bit := by
      rw [Int.tdiv_eq_ediv_of_nonneg hH0, hH63]; simp only [u64w]; omega
    have hi1 : wrap64 (i + 1) = i + 1 := w64 (by omega) (by omega)
    have go : ∀ (c Q1 : Int), (c = 0 ∨ c = 1) → (c = 1 ↔ b ≤ 2 * R + bit) → Q1 = (if c = 1 then IntKind.u64.wrap (IntKind.u64.wrap (Q * 2) + 1) else IntKind.u64.wrap (Q * 2)) →
        ∃ Q', Ev (fun k => oculusref08_Divide.l0 k b (wrap64 (i + 1)) (2 * H - bit * 18446744073709551616 + L / 9223372036854775808) (2 * L % 18446744073709551616) Q1 (2 * R + bit - c * b) (decide (2 * q0 + c < 18446744073709551616)))
          (Q', ((b * q0 + R) * 2 ^ (d + 1) + X) % b, decide (((b * q0 + R) * 2 ^ (d + 1) + X) / b < 18446744073709551616)) ∧ (((b * q0 + R) * 2 ^ (d + 1) + X) / b < 18446744073709551616 → Q' = ((b * q0 + R) * 2 ^ (d + 1) + X) / b) ∧ 0 ≤ Q' ∧ Q' < 18446744073709551616 := by
      intro c Q1 hc hcb hQ1e
      rw [hN c, hi1]
      refine ih (i + 1) _ _ Q1 (2 * R + bit - c * b) (2 * q0 + c) X' (2 * S) (by omega) (by omega) ?_ ?_ (by omega) (by omega) ?_ hX'0 hX' (by omega) ?_ (by omega) ?_ ?_ ?_ ?_ ?_
      · omega
      · omega
      · rw [hXS]; omega
      · rw [Int.mul_left_comm, hMS']; decide
      · rcases hc with rfl | rfl <;> omega
      · rcases hc with rfl | rfl <;> omega
      · intro h
        have := hQ (by omega)
        subst this
        rcases hc with rfl | rfl
        · rw [hQ1e, if_neg (by decide), u64w]; omega
        · rw [hQ1e, if_pos rfl, u64w, u64w]; omega
      · rw [hQ1e]; split <;> rw [u64w] <;> omega
      · rw [hQ1e]; split <;> rw [u64w] <;> omega
    have fin : ∀ ok' : Bool, (∀ c : Int, (c = 0 ∨ c = 1) → ok' = decide (2 * q0 + c < 18446744073709551616)) → ∃ Q', Ev (fun k => if IntKind.u64.wrap (IntKind.u64.wrap (R * 2) + IntKind.u64.wrap (Int.tdiv H 9223372036854775808)) ≥ b
          then oculusref08_Divide.l0 k b (wrap64 (i + 1)) (IntKind.u64.wrap (IntKind.u64.wrap (H * 2) + IntKind.u64.wrap (Int.tdiv L 9223372036854775808))) (IntKind.u64.wrap (L * 2)) (IntKind.u64.wrap (IntKind.u64.wrap (Q * 2) + 1)) (IntKind.u64.wrap (IntKind.u64.wrap (IntKind.u64.wrap (R * 2) + IntKind.u64.wrap (Int.tdiv H 9223372036854775808)) - b)) ok'
          else oculusref08_Divide.l0 k b (wrap64 (i + 1)) (IntKind.u64.wrap (IntKind.u64.wrap (H * 2) + IntKind.u64.wrap (Int.tdiv L 9223372036854775808))) (IntKind.u64.wrap (L * 2)) (IntKind.u64.wrap (Q * 2)) (IntKind.u64.wrap (IntKind.u64.wrap (R * 2) + IntKind.u64.wrap (Int.tdiv H 9223372036854775808))) ok')
          (Q', ((b * q0 + R) * 2 ^ (d + 1) + X) % b, decide (((b * q0 + R) * 2 ^ (d + 1) + X) / b < 18446744073709551616)) ∧ (((b * q0 + R) * 2 ^ (d + 1) + X) / b < 18446744073709551616 → Q' = ((b * q0 + R) * 2 ^ (d + 1) + X) / b) ∧ 0 ≤ Q' ∧ Q' < 18446744073709551616 := by
      intro ok' hok
      rw [eH, eL, eR]
      by_cases hcb : 2 * R + bit ≥ b
      · obtain ⟨Q', h1, h2⟩ := go 1 _ (.inr rfl) ⟨fun _ => hcb, fun _ => rfl⟩ (by rw [if_pos rfl])
        refine ⟨Q', Ev.pos hcb ?_, h2⟩
        rw [u64i (x := 2 * R + bit - b) (by omega) (by omega), hok 1 (.inr rfl)]
        rw [Int.one_mul] at h1
        exact h1
      · obtain ⟨Q', h1, h2⟩ := go 0 _ (.inl rfl) ⟨fun h => by omega, fun h => absurd h hcb⟩ (by rw [if_neg (by decide)])
        refine ⟨Q', Ev.neg hcb ?_, h2⟩
        rw [hok 0 (.inl rfl)]
        rw [Int.zero_mul, Int.sub_zero] at h1
        exact h1
    by_cases hok : q0 < 18446744073709551616
    · have hQe := hQ hok
      obtain ⟨Q', h1, h2⟩ := fin (decide (Q < 9223372036854775808)) (fun c hc => by rw [hQe]; congr 1; apply propext; omega)
      refine ⟨Q', Ev.step (fun k => by rw [oculusref08_Divide.l0]) (Ev.pos (by omega) (Ev.pos (by rw [decide_eq_true hok]) h1)), h2⟩
    · obtain ⟨Q', h1, h2⟩ := fin false (fun c hc => by rw [decide_eq_false (by omega)])
      refine ⟨Q', Ev.step (fun k => by rw [oculusref08_Divide.l0]) (Ev.pos (by omega) (Ev.neg (by rw [decide_eq_false hok]; decide) h1)), h2⟩
theorem divide_ev {H L b : Int} (hb : 0 < b) (hb' : b ≤ 9223372036854775808) (hH0 : 0 ≤ H) (hH : H < 18446744073709551616) (hL0 : 0 ≤ L) (hL : L < 18446744073709551616) :
    ∃ Q', Ev (fun k => oculusref08_Divide.f k H L b) (Q', (H * 18446744073709551616 + L) % b, decide ((H * 18446744073709551616 + L) / b < 18446744073709551616))
      ∧ ((H * 18446744073709551616 + L) / b < 18446744073709551616 → Q' = (H * 18446744073709551616 + L) / b) ∧ 0 ≤ Q' ∧ Q' < 18446744073709551616 := by
  have := divide_l0 hb hb' 128 0 H L 0 0 0 (H * 18446744073709551616 + L) 1 (by decide) (by decide) hH0 hH hL0 hL (by rw [Int.mul_one]) (by omega) (by show _ < (340282366920938463463374607431768211456 : Int); omega) (by decide) (by decide) (by decide) (by decide) hb (fun _ => rfl) (by decide) (by decide)
  rw [show (b * 0 + 0) * 2 ^ 128 + (H * 18446744073709551616 + L) = H * 18446744073709551616 + L by omega] at this
  exact this
end Go.Proofs.YtcfhllbobapaiaaDoor.Q

namespace Go.Proofs.YtcfhllbobapaiaaDoor.Q
set_option linter.unusedVariables false
set_option linter.unusedSimpArgs false
theorem digit_stop {u d yn1 yn0 q rh : Int} (h1 : 0 < yn1 * 4294967296 + yn0) (hr : rh = u - q * yn1)
    (hc : q * yn0 ≤ 4294967296 * rh + d) : q ≤ (u * 4294967296 + d) / (yn1 * 4294967296 + yn0) := by
  refine Int.le_ediv_of_mul_le h1 ?_
  have e : q * (yn1 * 4294967296 + yn0) = (q * yn1) * 4294967296 + q * yn0 := by rw [Int.mul_add, ← Int.mul_assoc]
  rw [e]
  generalize q * yn1 = s at *
  generalize q * yn0 = t at *
  omega
theorem digit_more {u d yn1 yn0 q rh : Int} (hy1 : 0 < yn1) (hy0 : 0 ≤ yn0) (hd : d < 4294967296) (hu : u < yn1 * 4294967296 + yn0) (hr : rh = u - q * yn1)
    (hc : 4294967296 ≤ q ∨ 4294967296 * rh + d < q * yn0) : (u * 4294967296 + d) / (yn1 * 4294967296 + yn0) ≤ q - 1 := by
  have h1 : 0 < yn1 * 4294967296 + yn0 := by omega
  have key : (u * 4294967296 + d) / (yn1 * 4294967296 + yn0) < q := by
    refine Int.ediv_lt_of_lt_mul h1 ?_
    rcases hc with hc | hc
    · have := Int.mul_le_mul_of_nonneg_right hc (Int.le_of_lt h1)
      generalize q * (yn1 * 4294967296 + yn0) = z at *
      omega
    · have e : q * (yn1 * 4294967296 + yn0) = (q * yn1) * 4294967296 + q * yn0 := by rw [Int.mul_add, ← Int.mul_assoc]
      rw [e]
      generalize q * yn1 = s at *
      generalize q * yn0 = t at *
      omega
  omega
theorem digit_break {u d yn1 yn0 q rh : Int} (hy1 : 0 < yn1) (hy0 : 0 ≤ yn0) (hy0' : yn0 < 4294967296) (hd : 0 ≤ d) (hq0 : 1 ≤ q) (hq : q ≤ 4294967297) (hr : rh = u - q * yn1)
    (hb : 4294967296 ≤ rh + yn1) : q - 1 ≤ (u * 4294967296 + d) / (yn1 * 4294967296 + yn0) := by
  have h1 : 0 < yn1 * 4294967296 + yn0 := by omega
  refine Int.le_ediv_of_mul_le h1 ?_
  have e : (q - 1) * (yn1 * 4294967296 + yn0) = (q * yn1 - yn1) * 4294967296 + (q - 1) * yn0 := by
    rw [Int.mul_add, ← Int.mul_assoc, Int.sub_mul, Int.one_mul]
  have hm : (q - 1) * yn0 ≤ 4294967296 * 4294967295 := Int.mul_le_mul (by omega) (by omega) hy0 (by decide)
  rw [e]
  generalize q * yn1 = s at *
  generalize (q - 1) * yn0 = t at *
  omega
theorem digit_guess {u d yn1 yn0 : Int} (hy1 : 2147483648 ≤ yn1) (hy0 : 0 ≤ yn0) (hy0' : yn0 < 4294967296) (hu0 : 0 ≤ u) (hd0 : 0 ≤ d) (hd : d < 4294967296) (hu : u < yn1 * 4294967296 + yn0) :
    (u * 4294967296 + d) / (yn1 * 4294967296 + yn0) ≤ u / yn1 ∧ 0 ≤ u / yn1 ∧ u / yn1 ≤ 4294967297 ∧ 0 ≤ u - u / yn1 * yn1 ∧ u - u / yn1 * yn1 < yn1 := by
  have h1 : 0 < yn1 * 4294967296 + yn0 := by omega
  have hdm := Int.mul_ediv_add_emod u yn1
  have hm0 := Int.emod_nonneg u (b := yn1) (by omega)
  have hm1 := Int.emod_lt_of_pos u (b := yn1) (by omega)
  have hc : yn1 * (u / yn1) = u / yn1 * yn1 := Int.mul_comm ..
  refine ⟨?_, Int.ediv_nonneg hu0 (by omega), ?_, by omega, by omega⟩
  · refine Int.le_ediv_of_mul_le (by omega) ?_
    have h2 := Int.ediv_mul_le (u * 4294967296 + d) (b := yn1 * 4294967296 + yn0) (by omega)
    have hq0 : 0 ≤ (u * 4294967296 + d) / (yn1 * 4294967296 + yn0) := Int.ediv_nonneg (by omega) (by omega)
    generalize (u * 4294967296 + d) / (yn1 * 4294967296 + yn0) = Q at *
    have e : Q * (yn1 * 4294967296 + yn0) = (Q * yn1) * 4294967296 + Q * yn0 := by rw [Int.mul_add, ← Int.mul_assoc]
    have := Int.mul_nonneg hq0 hy0
    rw [e] at h2
    generalize Q * yn1 = s at *
    generalize Q * yn0 = t at *
    omega
  · have : u / yn1 < 4294967298 := by
      refine Int.ediv_lt_of_lt_mul (by omega) ?_
      omega
    omega
theorem two_digits {N U D1 D0 Y Q1 R1 Q0 R0 : Int} (hY : 0 < Y) (hN : N = (U * 4294967296 + D1) * 4294967296 + D0)
    (h1 : U * 4294967296 + D1 = Y * Q1 + R1) (h0 : R1 * 4294967296 + D0 = Y * Q0 + R0) (hr0 : 0 ≤ R0) (hr : R0 < Y) :
    N / Y = Q1 * 4294967296 + Q0 ∧ N % Y = R0 := by
  have e : N = R0 + Y * (Q1 * 4294967296 + Q0) := by
    have : Y * (Q1 * 4294967296 + Q0) = (Y * Q1) * 4294967296 + Y * Q0 := by rw [Int.mul_add, Int.mul_assoc]
    rw [this, hN]
    generalize Y * Q1 = s at *
    generalize Y * Q0 = t at *
    omega
  exact (Int.ediv_emod_unique hY).2 ⟨by rw [e], hr0, hr⟩
end Go.Proofs.YtcfhllbobapaiaaDoor.Q

namespace Go.Proofs.YtcfhllbobapaiaaDoor.Q
open Go Go.RowKit Go.Proofs.YtcfhllbobapaiaaDoor.PA Go.Proofs.YtcfhllbobapaiaaDoorW.PrintWords Go.Proofs.YtcfhllbobapaiaaDoorW.PrintLast Go.Proofs.YtcfhllbobapaiaaDoorW.PrintMore
set_option linter.unusedVariables false
set_option linter.unusedSimpArgs false
theorem mul64_math {a b : Int} (ha0 : 0 ≤ a) (ha : a < 18446744073709551616) (hb0 : 0 ≤ b) (hb : b < 18446744073709551616) :
    ∃ p11 p10 p01 p00 : Int, p11 = (a / 4294967296) * (b / 4294967296) ∧ p10 = (a / 4294967296) * (b % 4294967296) ∧ p01 = (a % 4294967296) * (b / 4294967296) ∧ p00 = (a % 4294967296) * (b % 4294967296)
      ∧ (0 ≤ p11 ∧ p11 ≤ 18446744065119617025) ∧ (0 ≤ p10 ∧ p10 ≤ 18446744065119617025) ∧ (0 ≤ p01 ∧ p01 ≤ 18446744065119617025) ∧ (0 ≤ p00 ∧ p00 ≤ 18446744065119617025)
      ∧ a * b = p11 * 18446744073709551616 + (p10 + p01) * 4294967296 + p00 := by
  refine ⟨_, _, _, _, rfl, rfl, rfl, rfl, prodB (by omega) (by omega) (by omega) (by omega), prodB (by omega) (by omega) (by omega) (by omega), prodB (by omega) (by omega) (by omega) (by omega), prodB (by omega) (by omega) (by omega) (by omega), ?_⟩
  have ea : a = a / 4294967296 * 4294967296 + a % 4294967296 := by omega
  have eb : b = b / 4294967296 * 4294967296 + b % 4294967296 := by omega
  generalize a / 4294967296 = x1 at *
  generalize a % 4294967296 = x0 at *
  generalize b / 4294967296 = y1 at *
  generalize b % 4294967296 = y0 at *
  subst ea eb
  grind
theorem mul64_f (a b : Int) (ha0 : 0 ≤ a) (ha : a < 18446744073709551616) (hb0 : 0 ≤ b) (hb : b < 18446744073709551616) :
    bits_Mul64.f a b = some (a * b / 18446744073709551616, a * b % 18446744073709551616) := by
  obtain ⟨p11, p10, p01, p00, e11, e10, e01, e00, h11, h10, h01, h00, e⟩ := mul64_math ha0 ha hb0 hb
  unfold bits_Mul64.f
  rw [and32 ha0 ha, and32 hb0 hb, ← e11, ← e10, ← e01, ← e00, u64i (x := p11) (by omega) (by omega), u64i (x := p10) (by omega) (by omega), u64i (x := p01) (by omega) (by omega), u64i (x := p00) (by omega) (by omega)]
  rw [u64i (x := p10 + p00 / 4294967296) (by omega) (by omega), and32 (by omega) (by omega), u64w (a * b)]
  rw [u64i (x := (p10 + p00 / 4294967296) % 4294967296 + p01) (by omega) (by omega), u64w, u64w]
  congr 2
  omega
theorem times_f (a b : Int) (ha0 : 0 ≤ a) (ha : a < 18446744073709551616) (hb0 : 0 ≤ b) (hb : b < 18446744073709551616) :
    oculusref08_Times.f a b = some (a * b / 18446744073709551616, a * b % 18446744073709551616) := by
  obtain ⟨p11, p10, p01, p00, e11, e10, e01, e00, h11, h10, h01, h00, e⟩ := mul64_math ha0 ha hb0 hb
  unfold oculusref08_Times.f
  simp only [Int.tdiv_eq_ediv_of_nonneg ha0, Int.tdiv_eq_ediv_of_nonneg hb0, Int.tmod_eq_emod_of_nonneg ha0, Int.tmod_eq_emod_of_nonneg hb0]
  rw [u64i (x := a / 4294967296) (by omega) (by omega), u64i (x := b / 4294967296) (by omega) (by omega)]
  rw [← e11, ← e10, ← e01, ← e00, u64i (x := p11) (by omega) (by omega), u64i (x := p10) (by omega) (by omega), u64i (x := p01) (by omega) (by omega), u64i (x := p00) (by omega) (by omega)]
  rw [Int.tdiv_eq_ediv_of_nonneg h00.1, Int.tmod_eq_emod_of_nonneg h00.1, u64i (x := p00 / 4294967296) (by omega) (by omega)]
  rw [u64i (x := p10 + p00 / 4294967296) (by omega) (by omega), Int.tdiv_eq_ediv_of_nonneg (a := p10 + p00 / 4294967296) (by omega), Int.tmod_eq_emod_of_nonneg (a := p10 + p00 / 4294967296) (by omega)]
  rw [u64i (x := (p10 + p00 / 4294967296) / 4294967296) (by omega) (by omega)]
  rw [u64i (x := p01 + (p10 + p00 / 4294967296) % 4294967296) (by omega) (by omega), Int.tdiv_eq_ediv_of_nonneg (a := p01 + (p10 + p00 / 4294967296) % 4294967296) (by omega), Int.tmod_eq_emod_of_nonneg (a := p01 + (p10 + p00 / 4294967296) % 4294967296) (by omega)]
  simp only [u64w]
  congr 2
  · omega
  · omega
theorem size_f (x : Int) (h0 : -9223372036854775808 < x) (h1 : x ≤ 9223372036854775807) : dec_size.f x = some (x.natAbs : Int) := by
  unfold dec_size.f
  split
  · rw [w64 (by omega) (by omega), u64i (by omega) (by omega)]; congr 1; omega
  · rw [u64i (by omega) (by omega)]; congr 1; omega
theorem abs_f (x : Int) (h0 : -9223372036854775808 < x) (h1 : x ≤ 9223372036854775807) : oculusref08_Abs.f x = some (x.natAbs : Int) := by
  unfold oculusref08_Abs.f
  split
  · rw [w64 (by omega) (by omega), u64i (by omega) (by omega)]; congr 1; omega
  · rw [u64i (by omega) (by omega)]; congr 1; omega
end Go.Proofs.YtcfhllbobapaiaaDoor.Q

namespace Go.Proofs.YtcfhllbobapaiaaDoor.Q
open Go Go.RowKit Go.Proofs.YtcfhllbobapaiaaDoor.PA Go.Proofs.YtcfhllbobapaiaaDoorW.PrintWords Go.Proofs.YtcfhllbobapaiaaDoorW.PrintLast Go.Proofs.YtcfhllbobapaiaaDoorW.PrintMore
set_option linter.unusedVariables false
set_option linter.unusedSimpArgs false
section
variable {y s yn1 yn0 u d e : Int} {r : Int × Int}
theorem div_l0 (hY1 : 2147483648 ≤ yn1) (hY1' : yn1 < 4294967296) (hy0 : 0 ≤ yn0) (hy0' : yn0 < 4294967296) (hu0 : 0 ≤ u) (hu : u < yn1 * 4294967296 + yn0) (hd0 : 0 ≤ d) (hd : d < 4294967296)
    (hj : Ev (fun k => bits_Div64.j2 k y s yn1 yn0 u d e ((u * 4294967296 + d) / (yn1 * 4294967296 + yn0))) r) (n : Nat) :
    ∀ q rh : Int, q - (u * 4294967296 + d) / (yn1 * 4294967296 + yn0) ≤ n → (u * 4294967296 + d) / (yn1 * 4294967296 + yn0) ≤ q → 0 ≤ q → q ≤ 4294967297 → rh = u - q * yn1 → 0 ≤ rh → rh < 4294967296 →
      Ev (fun k => bits_Div64.l0 k y s yn1 yn0 u d e q rh) r := by
  induction n with
  | zero =>
    intro q rh h1 h2 hq0 hq hr hr0 hrB
    have hn : ¬ (4294967296 ≤ q ∨ 4294967296 * rh + d < q * yn0) := fun hc => by
      have := digit_more (by omega) hy0 hd hu hr hc
      omega
    have hs := digit_stop (yn0 := yn0) (d := d) (by omega) hr (by omega)
    obtain rfl : q = (u * 4294967296 + d) / (yn1 * 4294967296 + yn0) := by omega
    have hp : 0 ≤ (u * 4294967296 + d) / (yn1 * 4294967296 + yn0) * yn0 := Int.mul_nonneg hq0 hy0
    refine Ev.step (fun k => by rw [bits_Div64.l0]) ?_
    refine Ev.neg (by omega) ?_
    rw [u64i (x := 4294967296 * rh) (by omega) (by omega), u64i (x := 4294967296 * rh + d) (by omega) (by omega), u64i (x := _ * yn0) hp (by omega), decide_eq_false (by omega)]
    refine Ev.step (fun k => by rw [bits_Div64.j1]) ?_
    exact Ev.neg (by decide) hj
  | succ n ih =>
    intro q rh h1 h2 hq0 hq hr hr0 hrB
    have hp : 0 ≤ q * yn0 := Int.mul_nonneg hq0 hy0
    have hp' : q * yn0 ≤ 4294967297 * 4294967295 := Int.mul_le_mul hq (by omega) hy0 (by decide)
    by_cases hn : 4294967296 ≤ q ∨ 4294967296 * rh + d < q * yn0
    · have hm := digit_more (by omega) hy0 hd hu hr hn
      have hq1 : 1 ≤ q := by
        rcases hn with h | h
        · omega
        · by_cases h0 : q = 0
          · subst h0; omega
          · omega
      have step : Ev (fun k => bits_Div64.j1 k y s yn1 yn0 u d e q rh true) r := by
        refine Ev.step (fun k => by rw [bits_Div64.j1]) ?_
        refine Ev.pos rfl ?_
        rw [u64i (x := rh + yn1) (by omega) (by omega), u64i (x := q - 1) (by omega) (by omega)]
        by_cases hb : rh + yn1 ≥ 4294967296
        · have := digit_break (by omega) hy0 hy0' hd0 hq1 hq hr hb
          obtain e' : q - 1 = (u * 4294967296 + d) / (yn1 * 4294967296 + yn0) := by omega
          refine Ev.pos hb ?_
          rw [e']; exact hj
        · refine Ev.neg hb ?_
          exact ih (q - 1) (rh + yn1) (by omega) hm (by omega) (by omega) (by rw [hr, Int.sub_mul, Int.one_mul]; omega) (by omega) (by omega)
      refine Ev.step (fun k => by rw [bits_Div64.l0]) ?_
      by_cases hB : q ≥ 4294967296
      · exact Ev.pos hB step
      · refine Ev.neg hB ?_
        rw [u64i (x := 4294967296 * rh) (by omega) (by omega), u64i (x := 4294967296 * rh + d) (by omega) (by omega), u64i (x := q * yn0) hp (by omega), decide_eq_true (by omega)]
        exact step
    · have hs := digit_stop (yn0 := yn0) (d := d) (by omega) hr (by omega)
      obtain e' : q = (u * 4294967296 + d) / (yn1 * 4294967296 + yn0) := by omega
      refine Ev.step (fun k => by rw [bits_Div64.l0]) ?_
      refine Ev.neg (by omega) ?_
      rw [u64i (x := 4294967296 * rh) (by omega) (by omega), u64i (x := 4294967296 * rh + d) (by omega) (by omega), u64i (x := q * yn0) hp (by omega), decide_eq_false (by omega)]
      refine Ev.step (fun k => by rw [bits_Div64.j1]) ?_
      refine Ev.neg (by decide) ?_
      rw [e']; exact hj
theorem div_l1 (t : Int) (hY1 : 2147483648 ≤ yn1) (hY1' : yn1 < 4294967296) (hy0 : 0 ≤ yn0) (hy0' : yn0 < 4294967296) (hu0 : 0 ≤ u) (hu : u < yn1 * 4294967296 + yn0) (hd0 : 0 ≤ d) (hd : d < 4294967296) (hs0 : 0 ≤ s) (n : Nat) :
    ∀ q rh : Int, q - (u * 4294967296 + d) / (yn1 * 4294967296 + yn0) ≤ n → (u * 4294967296 + d) / (yn1 * 4294967296 + yn0) ≤ q → 0 ≤ q → q ≤ 4294967297 → rh = u - q * yn1 → 0 ≤ rh → rh < 4294967296 →
      Ev (fun k => bits_Div64.l1 k y s yn1 yn0 d t rh u q) (IntKind.u64.wrap (IntKind.u64.wrap (t * 4294967296) + (u * 4294967296 + d) / (yn1 * 4294967296 + yn0)),
        shr .u64 (IntKind.u64.wrap (IntKind.u64.wrap (IntKind.u64.wrap (u * 4294967296) + d) - IntKind.u64.wrap ((u * 4294967296 + d) / (yn1 * 4294967296 + yn0) * y))) s) := by
  induction n with
  | zero =>
    intro q rh h1 h2 hq0 hq hr hr0 hrB
    have hn : ¬ (4294967296 ≤ q ∨ 4294967296 * rh + d < q * yn0) := fun hc => by
      have := digit_more (by omega) hy0 hd hu hr hc
      omega
    have hs := digit_stop (yn0 := yn0) (d := d) (by omega) hr (by omega)
    obtain rfl : q = (u * 4294967296 + d) / (yn1 * 4294967296 + yn0) := by omega
    have hp : 0 ≤ (u * 4294967296 + d) / (yn1 * 4294967296 + yn0) * yn0 := Int.mul_nonneg hq0 hy0
    refine Ev.step (fun k => by rw [bits_Div64.l1]) ?_
    refine Ev.neg (by omega) ?_
    rw [u64i (x := 4294967296 * rh) (by omega) (by omega), u64i (x := 4294967296 * rh + d) (by omega) (by omega), u64i (x := _ * yn0) hp (by omega), decide_eq_false (by omega)]
    refine Ev.step (fun k => by rw [bits_Div64.j4]) ?_
    exact Ev.neg (by decide) (Ev.pos hs0 (Ev.now _))
  | succ n ih =>
    intro q rh h1 h2 hq0 hq hr hr0 hrB
    have hp : 0 ≤ q * yn0 := Int.mul_nonneg hq0 hy0
    have hp' : q * yn0 ≤ 4294967297 * 4294967295 := Int.mul_le_mul hq (by omega) hy0 (by decide)
    by_cases hn : 4294967296 ≤ q ∨ 4294967296 * rh + d < q * yn0
    · have hm := digit_more (by omega) hy0 hd hu hr hn
      have hq1 : 1 ≤ q := by
        rcases hn with h | h
        · omega
        · by_cases h0 : q = 0
          · subst h0; omega
          · omega
      have step : Ev (fun k => bits_Div64.j4 k y s yn1 yn0 d t rh u q true) (IntKind.u64.wrap (IntKind.u64.wrap (t * 4294967296) + (u * 4294967296 + d) / (yn1 * 4294967296 + yn0)),
          shr .u64 (IntKind.u64.wrap (IntKind.u64.wrap (IntKind.u64.wrap (u * 4294967296) + d) - IntKind.u64.wrap ((u * 4294967296 + d) / (yn1 * 4294967296 + yn0) * y))) s) := by
        refine Ev.step (fun k => by rw [bits_Div64.j4]) ?_
        refine Ev.pos rfl ?_
        rw [u64i (x := rh + yn1) (by omega) (by omega), u64i (x := q - 1) (by omega) (by omega)]
        by_cases hb : rh + yn1 ≥ 4294967296
        · have := digit_break (by omega) hy0 hy0' hd0 hq1 hq hr hb
          obtain e' : q - 1 = (u * 4294967296 + d) / (yn1 * 4294967296 + yn0) := by omega
          refine Ev.pos hb (Ev.pos hs0 ?_)
          rw [e']; exact Ev.now _
        · refine Ev.neg hb ?_
          exact ih (q - 1) (rh + yn1) (by omega) hm (by omega) (by omega) (by rw [hr, Int.sub_mul, Int.one_mul]; omega) (by omega) (by omega)
      refine Ev.step (fun k => by rw [bits_Div64.l1]) ?_
      by_cases hB : q ≥ 4294967296
      · exact Ev.pos hB step
      · refine Ev.neg hB ?_
        rw [u64i (x := 4294967296 * rh) (by omega) (by omega), u64i (x := 4294967296 * rh + d) (by omega) (by omega), u64i (x := q * yn0) hp (by omega), decide_eq_true (by omega)]
        exact step
    · have hs := digit_stop (yn0 := yn0) (d := d) (by omega) hr (by omega)
      obtain e' : q = (u * 4294967296 + d) / (yn1 * 4294967296 + yn0) := by omega
      refine Ev.step (fun k => by rw [bits_Div64.l1]) ?_
      refine Ev.neg (by omega) ?_
      rw [u64i (x := 4294967296 * rh) (by omega) (by omega), u64i (x := 4294967296 * rh + d) (by omega) (by omega), u64i (x := q * yn0) hp (by omega), decide_eq_false (by omega)]
      refine Ev.step (fun k => by rw [bits_Div64.j4]) ?_
      refine Ev.neg (by decide) (Ev.pos hs0 ?_)
      rw [e']; exact Ev.now _
end
end Go.Proofs.YtcfhllbobapaiaaDoor.Q

namespace Go.Proofs.YtcfhllbobapaiaaDoor.Q
open Go Go.RowKit Go.Proofs.YtcfhllbobapaiaaDoor.PA Go.Proofs.YtcfhllbobapaiaaDoorW.PrintWords Go.Proofs.YtcfhllbobapaiaaDoorW.PrintLast Go.Proofs.YtcfhllbobapaiaaDoorW.PrintMore
set_option linter.unusedVariables false
set_option linter.unusedSimpArgs false
theorem len8 (T : ByteArray) (hT : ∀ i : Fin 256, bt T (i.val : Int) = if i.val = 0 then 0 else (Nat.log2 i.val : Int) + 1) {x : Int} (h0 : 0 < x) (h1 : x < 256) :
    0 < bt T x ∧ bt T x ≤ 8 ∧ 2 ^ (bt T x - 1).toNat ≤ x ∧ x < 2 ^ (bt T x).toNat := by
  obtain ⟨n, rfl⟩ := Int.eq_ofNat_of_zero_le (Int.le_of_lt h0)
  have hn : n < 256 := by omega
  have hn0 : n ≠ 0 := by omega
  have h := hT ⟨n, hn⟩
  dsimp only at h
  rw [if_neg hn0] at h
  rw [h]
  have h8 : Nat.log2 n < 8 := (Nat.log2_lt hn0).2 (by omega)
  have a := Nat.log2_self_le hn0
  have b := @Nat.lt_log2_self n
  refine ⟨by omega, by omega, ?_, ?_⟩
  · rw [show ((Nat.log2 n : Int) + 1 - 1).toNat = Nat.log2 n by omega]; exact_mod_cast a
  · rw [show ((Nat.log2 n : Int) + 1).toNat = Nat.log2 n + 1 by omega]; exact_mod_cast b
def lenT : ByteArray := ⟨#[0, 1, 2, 2, 3, 3, 3, 3, 4, 4, 4, 4, 4, 4, 4, 4, 5, 5, 5, 5, 5, 5, 5, 5, 5, 5, 5, 5, 5, 5, 5, 5, 6, 6, 6, 6, 6, 6, 6, 6, 6, 6, 6, 6, 6, 6, 6, 6, 6, 6, 6, 6, 6, 6, 6, 6, 6, 6, 6, 6, 6, 6, 6, 6, 7, 7, 7, 7, 7, 7, 7, 7, 7, 7, 7, 7, 7, 7, 7, 7, 7, 7, 7, 7, 7, 7, 7, 7, 7, 7, 7, 7, 7, 7, 7, 7, 7, 7, 7, 7, 7, 7, 7, 7, 7, 7, 7, 7, 7, 7, 7, 7, 7, 7, 7, 7, 7, 7, 7, 7, 7, 7, 7, 7, 7, 7, 7, 7, 8, 8, 8, 8, 8, 8, 8, 8, 8, 8, 8, 8, 8, 8, 8, 8, 8, 8, 8, 8, 8, 8, 8, 8, 8, 8, 8, 8, 8, 8, 8, 8, 8, 8, 8, 8, 8, 8, 8, 8, 8, 8, 8, 8, 8, 8, 8, 8, 8, 8, 8, 8, 8, 8, 8, 8, 8, 8, 8, 8, 8, 8, 8, 8, 8, 8, 8, 8, 8, 8, 8, 8, 8, 8, 8, 8, 8, 8, 8, 8, 8, 8, 8, 8, 8, 8, 8, 8, 8, 8, 8, 8, 8, 8, 8, 8, 8, 8, 8, 8, 8, 8, 8, 8, 8, 8, 8, 8, 8, 8, 8, 8, 8, 8, 8, 8, 8, 8, 8, 8, 8, 8, 8, 8, 8, 8, 8, 8]⟩
theorem lenT_ok : ∀ i : Fin 256, bt lenT (i.val : Int) = if i.val = 0 then 0 else (Nat.log2 i.val : Int) + 1 := by decide +kernel
theorem len_body (k : Nat) (x0 x2 : Int) : bits_Len64.j0 (k + 1) x0 x2 = (if x0 ≥ 65536 then (if (x0 / 65536) ≥ 256 then (if 0 ≤ (((x0 / 65536) / 256) % 256) then (if (((x0 / 65536) / 256) % 256) < 256 then (some (wrap64 ((wrap64 ((wrap64 (x2 + 16)) + 8)) + (wrap64 (bt lenT (((x0 / 65536) / 256) % 256)))))) else (none)) else (none)) else (if 0 ≤ ((x0 / 65536) % 256) then (if ((x0 / 65536) % 256) < 256 then (some (wrap64 ((wrap64 (x2 + 16)) + (wrap64 (bt lenT ((x0 / 65536) % 256)))))) else (none)) else (none))) else (if x0 ≥ 256 then (if 0 ≤ ((x0 / 256) % 256) then (if ((x0 / 256) % 256) < 256 then (some (wrap64 ((wrap64 (x2 + 8)) + (wrap64 (bt lenT ((x0 / 256) % 256)))))) else (none)) else (none)) else (if 0 ≤ ((x0) % 256) then (if ((x0) % 256) < 256 then (some (wrap64 (x2 + (wrap64 (bt lenT ((x0) % 256)))))) else (none)) else (none)))) := rfl
theorem pow_shift {t : Int} (ht : 0 ≤ t) (c : Nat) : (2 : Int) ^ (t + c).toNat = 2 ^ t.toNat * 2 ^ c := by
  rw [show (t + c).toNat = t.toNat + c by omega, Int.pow_add]
theorem len_shift {x t : Int} (c : Nat) (ht : 0 < t) (h0 : 2 ^ (t - 1).toNat ≤ x / 2 ^ c) (h1 : x / 2 ^ c < 2 ^ t.toNat) : 2 ^ (t + c - 1).toNat ≤ x ∧ x < 2 ^ (t + c).toNat := by
  have hc : (0 : Int) < 2 ^ c := Int.pow_pos (by decide)
  rw [show t + c - 1 = (t - 1) + c by omega, pow_shift (by omega), pow_shift (by omega)]
  exact ⟨(Int.le_ediv_iff_mul_le hc).1 h0, (Int.ediv_lt_iff_lt_mul hc).1 h1⟩
theorem len_j0 {x b : Int} (h0 : 0 < x) (h1 : x < 4294967296) (hb0 : 0 ≤ b) (hb : b ≤ 32) :
    ∃ n, Ev (fun k => bits_Len64.j0 k x b) (b + n) ∧ 0 < n ∧ n ≤ 32 ∧ 2 ^ (n - 1).toNat ≤ x ∧ x < 2 ^ n.toNat := by
  by_cases c1 : x ≥ 65536
  · by_cases c2 : x / 65536 ≥ 256
    · obtain ⟨a1, a2, a3, a4⟩ := len8 lenT lenT_ok (x := x / 65536 / 256 % 256) (by omega) (by omega)
      rw [show x / 65536 / 256 % 256 = x / 2 ^ 24 by simp; omega] at *
      obtain ⟨d1, d2⟩ := len_shift 24 a1 a3 a4
      refine ⟨bt lenT (x / 2 ^ 24) + 24, Ev.step (fun k => by rw [len_body]) (Ev.pos c1 (Ev.pos c2 ?_)), by omega, by omega, d1, d2⟩
      rw [show x / 65536 / 256 % 256 = x / 2 ^ 24 by simp; omega]
      refine Ev.pos (by simp; omega) (Ev.pos (by simp; omega) ?_)
      rw [w64 (x := bt lenT (x / 2 ^ 24)) (by omega) (by omega), w64 (x := b + 16) (by omega) (by omega), w64 (x := b + 16 + 8) (by omega) (by omega), w64 (by omega) (by omega)]
      rw [show b + 16 + 8 + bt lenT (x / 2 ^ 24) = b + (bt lenT (x / 2 ^ 24) + 24) by omega]; exact Ev.now _
    · obtain ⟨a1, a2, a3, a4⟩ := len8 lenT lenT_ok (x := x / 65536 % 256) (by omega) (by omega)
      rw [show x / 65536 % 256 = x / 2 ^ 16 by simp; omega] at *
      obtain ⟨d1, d2⟩ := len_shift 16 a1 a3 a4
      refine ⟨bt lenT (x / 2 ^ 16) + 16, Ev.step (fun k => by rw [len_body]) (Ev.pos c1 (Ev.neg c2 ?_)), by omega, by omega, d1, d2⟩
      rw [show x / 65536 % 256 = x / 2 ^ 16 by simp; omega]
      refine Ev.pos (by simp; omega) (Ev.pos (by simp; omega) ?_)
      rw [w64 (x := bt lenT (x / 2 ^ 16)) (by omega) (by omega), w64 (x := b + 16) (by omega) (by omega), w64 (by omega) (by omega)]
      rw [show b + 16 + bt lenT (x / 2 ^ 16) = b + (bt lenT (x / 2 ^ 16) + 16) by omega]; exact Ev.now _
  · by_cases c2 : x ≥ 256
    · obtain ⟨a1, a2, a3, a4⟩ := len8 lenT lenT_ok (x := x / 256 % 256) (by omega) (by omega)
      rw [show x / 256 % 256 = x / 2 ^ 8 by simp; omega] at *
      obtain ⟨d1, d2⟩ := len_shift 8 a1 a3 a4
      refine ⟨bt lenT (x / 2 ^ 8) + 8, Ev.step (fun k => by rw [len_body]) (Ev.neg c1 (Ev.pos c2 ?_)), by omega, by omega, d1, d2⟩
      rw [show x / 256 % 256 = x / 2 ^ 8 by simp; omega]
      refine Ev.pos (by simp; omega) (Ev.pos (by simp; omega) ?_)
      rw [w64 (x := bt lenT (x / 2 ^ 8)) (by omega) (by omega), w64 (x := b + 8) (by omega) (by omega), w64 (by omega) (by omega)]
      rw [show b + 8 + bt lenT (x / 2 ^ 8) = b + (bt lenT (x / 2 ^ 8) + 8) by omega]; exact Ev.now _
    · obtain ⟨a1, a2, a3, a4⟩ := len8 lenT lenT_ok (x := x % 256) (by omega) (by omega)
      rw [show x % 256 = x by omega] at *
      refine ⟨bt lenT x, Ev.step (fun k => by rw [len_body]) (Ev.neg c1 (Ev.neg c2 ?_)), by omega, by omega, a3, a4⟩
      rw [show x % 256 = x by omega]
      refine Ev.pos (by omega) (Ev.pos (by omega) ?_)
      rw [w64 (x := bt lenT x) (by omega) (by omega), w64 (by omega) (by omega)]
      exact Ev.now _
theorem len_f {x : Int} (h0 : 0 < x) (h1 : x < 18446744073709551616) : ∃ n, Ev (fun k => bits_Len64.f k x) n ∧ 0 < n ∧ n ≤ 64 ∧ 2 ^ (n - 1).toNat ≤ x ∧ x < 2 ^ n.toNat := by
  by_cases c : x ≥ 4294967296
  · obtain ⟨n, hn, a1, a2, a3, a4⟩ := len_j0 (x := x / 4294967296) (b := 32) (by omega) (by omega) (by omega) (by omega)
    obtain ⟨d1, d2⟩ := len_shift (x := x) 32 a1 (by simpa using a3) (by simpa using a4)
    exact ⟨n + 32, Ev.congr (fun k => by rw [bits_Len64.f]) (Ev.pos c (by rw [Int.add_comm]; exact hn)), by omega, by omega, d1, d2⟩
  · obtain ⟨n, hn, a1, a2, a3, a4⟩ := len_j0 (x := x) (b := 0) (by omega) (by omega) (by omega) (by omega)
    rw [Int.zero_add] at hn
    exact ⟨n, Ev.congr (fun k => by rw [bits_Len64.f]) (Ev.neg c hn), by omega, by omega, a3, a4⟩
theorem lead_f {y : Int} (h0 : 0 < y) (h1 : y < 18446744073709551616) : ∃ s : Int, Ev (fun k => bits_LeadingZeros64.f k y) s ∧ 0 ≤ s ∧ s ≤ 63 ∧ 9223372036854775808 ≤ y * 2 ^ s.toNat ∧ y * 2 ^ s.toNat < 18446744073709551616 := by
  obtain ⟨n, hn, a1, a2, a3, a4⟩ := len_f h0 h1
  refine ⟨64 - n, Ev.congr (fun k => by rw [bits_LeadingZeros64.f]) (Ev.bind hn ?_), by omega, by omega, ?_, ?_⟩
  · rw [w64 (by omega) (by omega)]; exact Ev.now _
  · have e : (2 : Int) ^ (n - 1).toNat * 2 ^ (64 - n).toNat = 9223372036854775808 := by
      rw [← Int.pow_add, show (n - 1).toNat + (64 - n).toNat = 63 by omega]; decide
    have := Int.mul_le_mul_of_nonneg_right a3 (c := 2 ^ (64 - n).toNat) (Int.le_of_lt (Int.pow_pos (by decide)))
    omega
  · have e : (2 : Int) ^ n.toNat * 2 ^ (64 - n).toNat = 18446744073709551616 := by
      rw [← Int.pow_add, show n.toNat + (64 - n).toNat = 64 by omega]; decide
    have := Int.mul_lt_mul_of_pos_right a4 (c := 2 ^ (64 - n).toNat) (Int.pow_pos (by decide))
    omega
end Go.Proofs.YtcfhllbobapaiaaDoor.Q

namespace Go.Proofs.YtcfhllbobapaiaaDoor.Q
open Go Go.RowKit Go.Proofs.YtcfhllbobapaiaaDoor.PA Go.Proofs.YtcfhllbobapaiaaDoorW.PrintWords Go.Proofs.YtcfhllbobapaiaaDoorW.PrintLast Go.Proofs.YtcfhllbobapaiaaDoorW.PrintMore
set_option linter.unusedVariables false
set_option linter.unusedSimpArgs false
theorem div_j2 {Y s u d e : Int} (hY : 9223372036854775808 ≤ Y) (hY' : Y < 18446744073709551616) (hs0 : 0 ≤ s) (hu0 : 0 ≤ u) (hu : u < Y) (hd0 : 0 ≤ d) (hd : d < 4294967296) (he0 : 0 ≤ e) (he : e < 4294967296) :
    Ev (fun k => bits_Div64.j2 k Y s (Y / 4294967296) (Y % 4294967296) u d e ((u * 4294967296 + d) / Y))
      (((u * 4294967296 + d) * 4294967296 + e) / Y, ((u * 4294967296 + d) * 4294967296 + e) % Y / 2 ^ min s.toNat 64) := by
  have hY0 : 0 < Y := by omega
  have hYe : Y / 4294967296 * 4294967296 + Y % 4294967296 = Y := by omega
  have hm := Int.mul_ediv_add_emod (u * 4294967296 + d) Y
  have hr0 := Int.emod_nonneg (u * 4294967296 + d) (b := Y) (by omega)
  have hr1 := Int.emod_lt_of_pos (u * 4294967296 + d) hY0
  have hq0 : 0 ≤ (u * 4294967296 + d) / Y := Int.ediv_nonneg (by omega) (by omega)
  have hq1 : (u * 4294967296 + d) / Y < 4294967296 := Int.ediv_lt_of_lt_mul hY0 (by omega)
  generalize hQ1 : (u * 4294967296 + d) / Y = Q1 at *
  generalize hR1 : (u * 4294967296 + d) % Y = R1 at *
  have hm2 := Int.mul_ediv_add_emod (R1 * 4294967296 + e) Y
  have hs0' := Int.emod_nonneg (R1 * 4294967296 + e) (b := Y) (by omega)
  have hs1' := Int.emod_lt_of_pos (R1 * 4294967296 + e) hY0
  have hp0 : 0 ≤ (R1 * 4294967296 + e) / Y := Int.ediv_nonneg (by omega) (by omega)
  have hp1 : (R1 * 4294967296 + e) / Y < 4294967296 := Int.ediv_lt_of_lt_mul hY0 (by omega)
  obtain ⟨f1, f2⟩ := two_digits (N := (u * 4294967296 + d) * 4294967296 + e) (U := u) (D1 := d) (D0 := e) (Y := Y) (Q1 := Q1) (R1 := R1) hY0 rfl hm.symm hm2.symm hs0' hs1'
  have un21 : IntKind.u64.wrap (IntKind.u64.wrap (IntKind.u64.wrap (u * 4294967296) + d) - IntKind.u64.wrap (Q1 * Y)) = R1 := by
    rw [Int.mul_comm Q1 Y]; simp only [u64w]; omega
  obtain ⟨g1, g2, g3, g4, g5⟩ := digit_guess (u := R1) (d := e) (yn1 := Y / 4294967296) (yn0 := Y % 4294967296) (by omega) (by omega) (by omega) hr0 he0 he (by omega)
  refine Ev.step (fun k => by rw [bits_Div64.j2]) (Ev.neg (by omega) ?_)
  rw [un21, Int.tdiv_eq_ediv_of_nonneg hr0, u64i (x := R1 / (Y / 4294967296)) g2 (by omega)]
  rw [u64i (x := R1 / (Y / 4294967296) * (Y / 4294967296)) (Int.mul_nonneg g2 (by omega)) (by omega), u64i (x := R1 - _) g4 (by omega)]
  have h := div_l1 (y := Y) (s := s) (yn1 := Y / 4294967296) (yn0 := Y % 4294967296) (u := R1) (d := e) Q1 (by omega) (by omega) (by omega) (by omega) hr0 (by omega) he0 he hs0
    (R1 / (Y / 4294967296) - (R1 * 4294967296 + e) / (Y / 4294967296 * 4294967296 + Y % 4294967296)).toNat (R1 / (Y / 4294967296)) (R1 - R1 / (Y / 4294967296) * (Y / 4294967296)) (by omega) g1 g2 g3 rfl g4 (by omega)
  rw [hYe] at h
  rw [f1, f2]
  have e1 : IntKind.u64.wrap (IntKind.u64.wrap (Q1 * 4294967296) + (R1 * 4294967296 + e) / Y) = Q1 * 4294967296 + (R1 * 4294967296 + e) / Y := by
    rw [u64i (x := Q1 * 4294967296) (by omega) (by omega), u64i (by omega) (by omega)]
  have e2 : IntKind.u64.wrap (IntKind.u64.wrap (IntKind.u64.wrap (R1 * 4294967296) + e) - IntKind.u64.wrap ((R1 * 4294967296 + e) / Y * Y)) = (R1 * 4294967296 + e) % Y := by
    rw [Int.mul_comm _ Y]; simp only [u64w]; omega
  rw [e1, e2] at h
  exact h
theorem div64_ev {hi lo y : Int} (hy : 0 < y) (hy' : y < 18446744073709551616) (h0 : 0 ≤ hi) (h1 : hi < y) (l0 : 0 ≤ lo) (l1 : lo < 18446744073709551616) :
    Ev (fun k => bits_Div64.f k hi lo y) ((hi * 18446744073709551616 + lo) / y, (hi * 18446744073709551616 + lo) % y) := by
  refine Ev.congr (fun k => by rw [bits_Div64.f]) (Ev.neg (by omega) (Ev.neg (by omega) ?_))
  by_cases hz : hi = 0
  · subst hz
    refine Ev.pos rfl ?_
    rw [Int.tdiv_eq_ediv_of_nonneg l0, Int.tmod_eq_emod_of_nonneg l0, Int.zero_mul, Int.zero_add]
    have a := Int.ediv_nonneg l0 (Int.le_of_lt hy)
    have b : lo / y ≤ lo := Int.ediv_le_self _ l0
    rw [u64i a (by omega)]
    exact Ev.now _
  · obtain ⟨s, hs, hs0, hs63, hp0, hp1⟩ := lead_f hy hy'
    refine Ev.neg hz (Ev.bind hs ?_)
    have es : IntKind.u64.wrap s = s := u64i hs0 (by omega)
    have es' : IntKind.u64.wrap (64 - s) = 64 - s := u64i (by omega) (by omega)
    have hpp : (2 : Int) ^ s.toNat * 2 ^ (64 - s).toNat = 18446744073709551616 := by
      rw [← Int.pow_add, show s.toNat + (64 - s).toNat = 64 by omega]; decide
    have hpp0 : (0 : Int) < 2 ^ s.toNat := Int.pow_pos (by decide)
    have hpp1 : (0 : Int) < 2 ^ (64 - s).toNat := Int.pow_pos (by decide)
    have hmin : min s.toNat 64 = s.toNat := Nat.min_eq_left (by omega)
    have eY : shl .u64 y s = y * 2 ^ s.toNat := by
      unfold shl; rw [show IntKind.bits .u64 = 64 from rfl, hmin, u64i (by omega) hp1]
    have hhp : (hi + 1) * 2 ^ s.toNat ≤ y * 2 ^ s.toNat := Int.mul_le_mul_of_nonneg_right (by omega) (Int.le_of_lt hpp0)
    rw [Int.add_mul, Int.one_mul] at hhp
    have hhp0 : 0 ≤ hi * 2 ^ s.toNat := Int.mul_nonneg h0 (Int.le_of_lt hpp0)
    have eH : shl .u64 hi s = hi * 2 ^ s.toNat := by
      unfold shl; rw [show IntKind.bits .u64 = 64 from rfl, hmin, u64i hhp0 (by omega)]
    have eL : shl .u64 lo s = lo * 2 ^ s.toNat % 18446744073709551616 := by
      unfold shl; rw [show IntKind.bits .u64 = 64 from rfl, hmin, u64w]
    have eR : shr .u64 lo (64 - s) = lo / 2 ^ (64 - s).toNat := by
      unfold shr; rw [show IntKind.bits .u64 = 64 from rfl, Nat.min_eq_left (by omega)]
    have hlo0 : 0 ≤ lo / 2 ^ (64 - s).toNat := Int.ediv_nonneg l0 (Int.le_of_lt hpp1)
    have hlo1 : lo / 2 ^ (64 - s).toNat < 2 ^ s.toNat := Int.ediv_lt_of_lt_mul hpp1 (by rw [hpp]; exact l1)
    have hps : (2 : Int) ^ s.toNat ≤ 9223372036854775808 := by
      have : (2 : Int) ^ s.toNat ≤ 2 ^ 63 := by
        have h := Nat.pow_le_pow_right (n := 2) (by decide) (show s.toNat ≤ 63 by omega)
        exact_mod_cast h
      simpa using this
    have eU : Go.bits .or .u64 (hi * 2 ^ s.toNat) (lo / 2 ^ (64 - s).toNat) = hi * 2 ^ s.toNat + lo / 2 ^ (64 - s).toNat :=
      bits_join .u64 64 (by decide) (fun n a b => u64i a (by simpa using b)) s.toNat _ _ hhp0 (Int.mul_emod_left ..) (by show _ < (18446744073709551616 : Int); omega) hlo0 hlo1 (by show _ < (18446744073709551616 : Int); omega)
    simp only [es, es', eY, eH, eL, eR, eU]
    generalize hYd : y * 2 ^ s.toNat = Y at *
    have hloe : lo * 2 ^ s.toNat = lo / 2 ^ (64 - s).toNat * 18446744073709551616 + lo * 2 ^ s.toNat % 18446744073709551616 := by
      have d := Int.mul_ediv_add_emod lo (2 ^ (64 - s).toNat)
      have m0 := Int.emod_nonneg lo (b := 2 ^ (64 - s).toNat) (by omega)
      have m1 := Int.emod_lt_of_pos lo hpp1
      have ee : lo * 2 ^ s.toNat = lo / 2 ^ (64 - s).toNat * 18446744073709551616 + lo % 2 ^ (64 - s).toNat * 2 ^ s.toNat := by
        have : (2 ^ (64 - s).toNat * (lo / 2 ^ (64 - s).toNat) + lo % 2 ^ (64 - s).toNat) * 2 ^ s.toNat = lo * 2 ^ s.toNat := by rw [d]
        rw [← this, Int.add_mul, Int.mul_comm (2 ^ (64 - s).toNat) _, Int.mul_assoc, Int.mul_comm (2 ^ (64 - s).toNat) _, hpp]
      have m2 : 0 ≤ lo % 2 ^ (64 - s).toNat * 2 ^ s.toNat := Int.mul_nonneg m0 (Int.le_of_lt hpp0)
      have m3 : lo % 2 ^ (64 - s).toNat * 2 ^ s.toNat < 18446744073709551616 := by
        have := Int.mul_lt_mul_of_pos_right m1 hpp0
        rw [Int.mul_comm (2 ^ (64 - s).toNat) _, hpp] at this
        exact this
      omega
    have hU1 : hi * 2 ^ s.toNat + lo / 2 ^ (64 - s).toNat < Y := by omega
    generalize hUd : hi * 2 ^ s.toNat + lo / 2 ^ (64 - s).toNat = U at *
    have hU0 : 0 ≤ U := by omega
    have a0 : 0 ≤ lo * 2 ^ s.toNat % 18446744073709551616 := Int.emod_nonneg _ (by decide)
    have a1 : lo * 2 ^ s.toNat % 18446744073709551616 < 18446744073709551616 := Int.emod_lt_of_pos _ (by decide)
    generalize hun : lo * 2 ^ s.toNat % 18446744073709551616 = un10 at *
    refine Ev.pos hs0 (Ev.pos (by omega) (Ev.neg (by omega) ?_))
    rw [and32 (by omega) hp1, and32 a0 a1, Int.tdiv_eq_ediv_of_nonneg hU0]
    obtain ⟨g1, g2, g3, g4, g5⟩ := digit_guess (u := U) (d := un10 / 4294967296) (yn1 := Y / 4294967296) (yn0 := Y % 4294967296) (by omega) (by omega) (by omega) hU0 (by omega) (by omega) (by omega)
    rw [u64i (x := U / (Y / 4294967296)) g2 (by omega), u64i (x := U / (Y / 4294967296) * (Y / 4294967296)) (Int.mul_nonneg g2 (by omega)) (by omega), u64i (x := U - _) g4 (by omega)]
    have hYe : Y / 4294967296 * 4294967296 + Y % 4294967296 = Y := by omega
    have j := div_j2 (Y := Y) (s := s) (u := U) (d := un10 / 4294967296) (e := un10 % 4294967296) hp0 hp1 hs0 hU0 hU1 (by omega) (by omega) (by omega) (by omega)
    have hN : (U * 4294967296 + un10 / 4294967296) * 4294967296 + un10 % 4294967296 = (hi * 18446744073709551616 + lo) * 2 ^ s.toNat := by
      rw [Int.add_mul (hi * 18446744073709551616) lo, hloe, Int.mul_right_comm hi]
      generalize hi * 2 ^ s.toNat = z at *
      omega
    rw [hN, hmin] at j
    have e1 : (hi * 18446744073709551616 + lo) * 2 ^ s.toNat / Y = (hi * 18446744073709551616 + lo) / y := by rw [← hYd, Int.mul_ediv_mul_of_pos_left _ _ hpp0]
    have e2 : (hi * 18446744073709551616 + lo) * 2 ^ s.toNat % Y = 2 ^ s.toNat * ((hi * 18446744073709551616 + lo) % y) := by rw [← hYd, Int.mul_comm _ (2 ^ s.toNat), Int.mul_comm y, Int.mul_emod_mul_of_pos _ _ hpp0]
    rw [e1, e2, Int.mul_ediv_cancel_left _ (by omega)] at j
    refine div_l0 (by omega) (by omega) (by omega) (by omega) hU0 (by omega) (by omega) (by omega) (by rw [hYe]; exact j) (U / (Y / 4294967296) - (U * 4294967296 + un10 / 4294967296) / (Y / 4294967296 * 4294967296 + Y % 4294967296)).toNat (U / (Y / 4294967296)) (U - U / (Y / 4294967296) * (Y / 4294967296)) (by omega) g1 g2 g3 rfl g4 (by omega)
end Go.Proofs.YtcfhllbobapaiaaDoor.Q

namespace Go.Proofs.YtcfhllbobapaiaaDoor.Q
open Go Go.RowKit Go.Proofs.YtcfhllbobapaiaaDoor.PA Go.Proofs.YtcfhllbobapaiaaDoorW.PrintWords Go.Proofs.YtcfhllbobapaiaaDoorW.PrintLast Go.Proofs.YtcfhllbobapaiaaDoorW.PrintMore
set_option linter.unusedVariables false
set_option linter.unusedSimpArgs false
def May (x : Int) : Prop := -9223372036854775808 < x ∧ x ≤ 9223372036854775807
instance (x : Int) : Decidable (May x) := by unfold May; infer_instance
theorem may_f {x : Int} (h0 : -9223372036854775808 ≤ x) (h1 : x ≤ 9223372036854775807) : dec_May.f x = some (decide (May x)) := by
  unfold dec_May.f
  congr 1
  rw [Bool.eq_iff_iff, bne_iff_ne, decide_eq_true_iff]
  unfold May; omega
theorem rmay_f {x : Int} (h0 : -9223372036854775808 ≤ x) (h1 : x ≤ 9223372036854775807) : oculusref08_May.f x = some (decide (May x)) := by
  unfold oculusref08_May.f May
  congr 2
  apply propext; omega
def sg (a b c q : Int) : Int := if ((decide (a < 0) != decide (b < 0)) != decide (c < 0)) = true then -q else q
theorem sign_f (x : Int) : dec_Sign.f x = some (if x < 0 then -1 else if x > 0 then 1 else 0) := by
  unfold dec_Sign.f
  split
  · rfl
  · split <;> rfl
def upP (n m : Int) : Int := if m - n % m ≤ n % m then (n / m + 1) % 18446744073709551616 else n / m
def scaledP (a b c : Int) : Int × Bool :=
  if May a ∧ May b ∧ May c ∧ c ≠ 0 then
    (if a.natAbs * b.natAbs / 18446744073709551616 ≥ (c.natAbs : Int) then (0, false)
     else if upP (a.natAbs * b.natAbs) c.natAbs > 9223372036854775807 then (0, false) else (sg a b c (upP (a.natAbs * b.natAbs) c.natAbs), true))
  else (0, false)
def upR (n m : Int) : Int := if m - n % m ≤ n % m then n / m + 1 else n / m
def scaledR (a b c : Int) : Int × Bool :=
  if May a ∧ May b ∧ May c ∧ c ≠ 0 then
    (if (a.natAbs * b.natAbs : Int) / c.natAbs > 9223372036854775807 then (0, false)
     else if upR (a.natAbs * b.natAbs) c.natAbs > 9223372036854775807 then (0, false) else (sg a b c (upR (a.natAbs * b.natAbs) c.natAbs), true))
  else (0, false)
theorem scaled_j1 {a b c q : Int} (hc : c ≠ 0) (h0 : 0 ≤ q) (h1 : q ≤ 9223372036854775807) (hz : a = 0 ∨ b = 0 → q = 0) : Ev (fun k => dec_Scaled.j1 k a b c q) (sg a b c q, true) := by
  refine Ev.step (fun k => by rw [dec_Scaled.j1]) ?_
  refine Ev.neg (by omega) ?_
  simp only [sign_f, Option.bind_some]
  rw [w64 (x := q) (by omega) (by omega), w64 (x := -q) (by omega) (by omega)]
  unfold sg
  rcases Int.lt_trichotomy a 0 with ha | ha | ha
  · rcases Int.lt_trichotomy b 0 with hb | hb | hb
    · rcases Int.lt_trichotomy c 0 with h | h | h
      · simp only [if_pos ha, if_pos hb, if_pos h, decide_eq_true ha, decide_eq_true hb, decide_eq_true h]; exact ⟨0, fun _ _ => by simp [wrap64]⟩
      · omega
      · simp only [if_pos ha, if_pos hb, if_neg (show ¬ c < 0 by omega), if_pos (show c > 0 from h), decide_eq_true ha, decide_eq_true hb, decide_eq_false (show ¬ c < 0 by omega)]; exact ⟨0, fun _ _ => by simp [wrap64]⟩
    · obtain rfl := hz (.inr hb); simp only [Int.neg_zero, ite_self]; exact ⟨0, fun _ _ => by simp [wrap64]⟩
    · rcases Int.lt_trichotomy c 0 with h | h | h
      · simp only [if_pos ha, if_neg (show ¬ b < 0 by omega), if_pos (show b > 0 from hb), if_pos h, decide_eq_true ha, decide_eq_false (show ¬ b < 0 by omega), decide_eq_true h]; exact ⟨0, fun _ _ => by simp [wrap64]⟩
      · omega
      · simp only [if_pos ha, if_neg (show ¬ b < 0 by omega), if_pos (show b > 0 from hb), if_neg (show ¬ c < 0 by omega), if_pos (show c > 0 from h), decide_eq_true ha, decide_eq_false (show ¬ b < 0 by omega), decide_eq_false (show ¬ c < 0 by omega)]; exact ⟨0, fun _ _ => by simp [wrap64]⟩
  · obtain rfl := hz (.inl ha); simp only [Int.neg_zero, ite_self]; exact ⟨0, fun _ _ => by simp [wrap64]⟩
  · rcases Int.lt_trichotomy b 0 with hb | hb | hb
    · rcases Int.lt_trichotomy c 0 with h | h | h
      · simp only [if_neg (show ¬ a < 0 by omega), if_pos (show a > 0 from ha), if_pos hb, if_pos h, decide_eq_false (show ¬ a < 0 by omega), decide_eq_true hb, decide_eq_true h]; exact ⟨0, fun _ _ => by simp [wrap64]⟩
      · omega
      · simp only [if_neg (show ¬ a < 0 by omega), if_pos (show a > 0 from ha), if_pos hb, if_neg (show ¬ c < 0 by omega), if_pos (show c > 0 from h), decide_eq_false (show ¬ a < 0 by omega), decide_eq_true hb, decide_eq_false (show ¬ c < 0 by omega)]; exact ⟨0, fun _ _ => by simp [wrap64]⟩
    · obtain rfl := hz (.inr hb); simp only [Int.neg_zero, ite_self]; exact ⟨0, fun _ _ => by simp [wrap64]⟩
    · rcases Int.lt_trichotomy c 0 with h | h | h
      · simp only [if_neg (show ¬ a < 0 by omega), if_pos (show a > 0 from ha), if_neg (show ¬ b < 0 by omega), if_pos (show b > 0 from hb), if_pos h, decide_eq_false (show ¬ a < 0 by omega), decide_eq_false (show ¬ b < 0 by omega), decide_eq_true h]; exact ⟨0, fun _ _ => by simp [wrap64]⟩
      · omega
      · simp only [if_neg (show ¬ a < 0 by omega), if_pos (show a > 0 from ha), if_neg (show ¬ b < 0 by omega), if_pos (show b > 0 from hb), if_neg (show ¬ c < 0 by omega), if_pos (show c > 0 from h), decide_eq_false (show ¬ a < 0 by omega), decide_eq_false (show ¬ b < 0 by omega), decide_eq_false (show ¬ c < 0 by omega)]; exact ⟨0, fun _ _ => by simp [wrap64]⟩
theorem natAbs_lt {x : Int} (h : May x) : 0 ≤ (x.natAbs : Int) ∧ (x.natAbs : Int) ≤ 9223372036854775807 := by unfold May at h; omega
theorem abs_prod {a b : Int} (ha : May a) (hb : May b) : 0 ≤ (a.natAbs : Int) * b.natAbs ∧ (a.natAbs : Int) * b.natAbs ≤ 85070591730234615847396907784232501249 :=
  ⟨Int.mul_nonneg (natAbs_lt ha).1 (natAbs_lt hb).1, Int.le_trans (Int.mul_le_mul (natAbs_lt ha).2 (natAbs_lt hb).2 (natAbs_lt hb).1 (by decide)) (by decide)⟩
theorem scaled_ev {a b c : Int} (ha0 : -9223372036854775808 ≤ a) (ha1 : a ≤ 9223372036854775807) (hb0 : -9223372036854775808 ≤ b) (hb1 : b ≤ 9223372036854775807) (hc0 : -9223372036854775808 ≤ c) (hc1 : c ≤ 9223372036854775807) :
    Ev (fun k => dec_Scaled.f k a b c) (scaledP a b c) := by
  have no : Ev (fun k => dec_Scaled.j0 k a b c true) (0, false) := Ev.step (fun k => by rw [dec_Scaled.j0]) (Ev.pos rfl (Ev.now _))
  refine Ev.congr (fun k => by rw [dec_Scaled.f, may_f ha0 ha1, Option.bind_some]) ?_
  by_cases ha : May a
  · refine Ev.pos (decide_eq_true ha) ?_
    refine Ev.congr (fun k => by rw [may_f hb0 hb1, Option.bind_some]) ?_
    by_cases hb : May b
    · refine Ev.pos (decide_eq_true hb) ?_
      refine Ev.congr (fun k => by rw [may_f hc0 hc1, Option.bind_some]) ?_
      by_cases hc : May c
      · refine Ev.pos (decide_eq_true hc) ?_
        by_cases hz : c = 0
        · rw [show (c == 0) = true from beq_iff_eq.mpr hz, show scaledP a b c = (0, false) from if_neg (fun h => h.2.2.2 hz)]; exact no
        · rw [show (c == 0) = false from beq_eq_false_iff_ne.mpr hz, show scaledP a b c = _ from if_pos ⟨ha, hb, hc, hz⟩]
          refine Ev.step (fun k => by rw [dec_Scaled.j0]) (Ev.neg (by decide) ?_)
          unfold May at ha hb hc
          simp only [size_f c hc.1 hc.2, size_f a ha.1 ha.2, size_f b hb.1 hb.2, Option.bind_some]
          rw [mul64_f _ _ (by omega) (by omega) (by omega) (by omega)]
          simp only [Option.bind_some]
          have hp := abs_prod ha hb
          have hm : 0 < (c.natAbs : Int) := by omega
          by_cases ho : (a.natAbs : Int) * b.natAbs / 18446744073709551616 ≥ (c.natAbs : Int)
          · rw [if_pos ho]; exact Ev.pos ho (Ev.now _)
          · rw [if_neg ho]
            refine Ev.neg ho ?_
            have hd := div64_ev (hi := (a.natAbs : Int) * b.natAbs / 18446744073709551616) (lo := (a.natAbs : Int) * b.natAbs % 18446744073709551616) (y := (c.natAbs : Int)) (by omega) (by omega) (by omega) (by omega) (by omega) (by omega)
            rw [show (a.natAbs : Int) * b.natAbs / 18446744073709551616 * 18446744073709551616 + (a.natAbs : Int) * b.natAbs % 18446744073709551616 = (a.natAbs : Int) * b.natAbs by omega] at hd
            refine Ev.bind hd ?_
            dsimp only
            have hr0 := Int.emod_nonneg ((a.natAbs : Int) * b.natAbs) (b := (c.natAbs : Int)) (by omega)
            have hr1 := Int.emod_lt_of_pos ((a.natAbs : Int) * b.natAbs) hm
            have hq0 : 0 ≤ (a.natAbs : Int) * b.natAbs / (c.natAbs : Int) := Int.ediv_nonneg hp.1 (by omega)
            have hz' : a = 0 ∨ b = 0 → upP (a.natAbs * b.natAbs) c.natAbs = 0 := by
              intro h
              have : (a.natAbs : Int) * b.natAbs = 0 := by
                rcases h with rfl | rfl <;> simp
              unfold upP
              rw [this, Int.zero_ediv, Int.zero_emod, if_neg (by omega)]
            have key : Ev (fun k => dec_Scaled.j1 k a b c (upP (a.natAbs * b.natAbs) c.natAbs)) (if upP (a.natAbs * b.natAbs) c.natAbs > 9223372036854775807 then (0, false) else (sg a b c (upP (a.natAbs * b.natAbs) c.natAbs), true)) := by
              by_cases hq : upP (a.natAbs * b.natAbs) c.natAbs > 9223372036854775807
              · rw [if_pos hq]; exact Ev.step (fun k => by rw [dec_Scaled.j1]) (Ev.pos hq (Ev.now _))
              · rw [if_neg hq]
                refine scaled_j1 hz ?_ (by omega) hz'
                unfold upP; split <;> omega
            rw [u64i (x := (c.natAbs : Int) - (a.natAbs : Int) * b.natAbs % (c.natAbs : Int)) (by omega) (by omega)]
            by_cases hu : (a.natAbs : Int) * b.natAbs % (c.natAbs : Int) ≥ (c.natAbs : Int) - (a.natAbs : Int) * b.natAbs % (c.natAbs : Int)
            · refine Ev.pos hu ?_
              rw [u64w]
              have e : upP (a.natAbs * b.natAbs) c.natAbs = ((a.natAbs : Int) * b.natAbs / (c.natAbs : Int) + 1) % 18446744073709551616 := if_pos hu
              rw [← e]; exact key
            · refine Ev.neg hu ?_
              have e : upP (a.natAbs * b.natAbs) c.natAbs = (a.natAbs : Int) * b.natAbs / (c.natAbs : Int) := if_neg hu
              rw [← e]; exact key
      · rw [show scaledP a b c = (0, false) from if_neg (fun h => hc h.2.2.1)]
        exact Ev.neg (by rw [decide_eq_false hc]; decide) no
    · rw [show scaledP a b c = (0, false) from if_neg (fun h => hb h.2.1)]
      exact Ev.neg (by rw [decide_eq_false hb]; decide) no
  · rw [show scaledP a b c = (0, false) from if_neg (fun h => ha h.1)]
    exact Ev.neg (by rw [decide_eq_false ha]; decide) no
theorem rscaled_j2 {a b c q : Int} (h0 : 0 ≤ q) (h1 : q ≤ 9223372036854775807) : Ev (fun k => oculusref08_Scaled.j2 k a b c q) (sg a b c q, true) := by
  refine Ev.step (fun k => by rw [oculusref08_Scaled.j2]) ?_
  refine Ev.neg (by omega) ?_
  rw [w64 (x := q) (by omega) (by omega), w64 (x := -q) (by omega) (by omega), w64 (x := - -q) (by omega) (by omega)]
  unfold sg
  by_cases hx : (decide (a < 0) != decide (b < 0)) = true
  · refine Ev.pos hx ?_
    rw [hx]
    by_cases hc : c < 0
    · refine Ev.pos hc ?_
      rw [decide_eq_true hc, Int.neg_neg]; exact Ev.now _
    · refine Ev.neg hc ?_
      rw [decide_eq_false hc]; exact Ev.now _
  · refine Ev.neg hx ?_
    rw [Bool.eq_false_iff.mpr hx]
    by_cases hc : c < 0
    · refine Ev.pos hc ?_
      rw [decide_eq_true hc]; exact Ev.now _
    · refine Ev.neg hc ?_
      rw [decide_eq_false hc]; exact Ev.now _
theorem rscaled_ev {a b c : Int} (ha0 : -9223372036854775808 ≤ a) (ha1 : a ≤ 9223372036854775807) (hb0 : -9223372036854775808 ≤ b) (hb1 : b ≤ 9223372036854775807) (hc0 : -9223372036854775808 ≤ c) (hc1 : c ≤ 9223372036854775807) :
    Ev (fun k => oculusref08_Scaled.f k a b c) (scaledR a b c) := by
  have no : Ev (fun k => oculusref08_Scaled.j0 k a b c true) (0, false) := Ev.step (fun k => by rw [oculusref08_Scaled.j0]) (Ev.pos rfl (Ev.now _))
  refine Ev.congr (fun k => by rw [oculusref08_Scaled.f, rmay_f ha0 ha1, Option.bind_some]) ?_
  by_cases ha : May a
  · refine Ev.pos (decide_eq_true ha) ?_
    refine Ev.congr (fun k => by rw [rmay_f hb0 hb1, Option.bind_some]) ?_
    by_cases hb : May b
    · refine Ev.pos (decide_eq_true hb) ?_
      refine Ev.congr (fun k => by rw [rmay_f hc0 hc1, Option.bind_some]) ?_
      by_cases hc : May c
      · refine Ev.pos (decide_eq_true hc) ?_
        by_cases hz : c = 0
        · rw [show (c == 0) = true from beq_iff_eq.mpr hz, show scaledR a b c = (0, false) from if_neg (fun h => h.2.2.2 hz)]; exact no
        · rw [show (c == 0) = false from beq_eq_false_iff_ne.mpr hz, show scaledR a b c = _ from if_pos ⟨ha, hb, hc, hz⟩]
          refine Ev.step (fun k => by rw [oculusref08_Scaled.j0]) (Ev.neg (by decide) ?_)
          unfold May at ha hb hc
          simp only [abs_f c hc.1 hc.2, abs_f a ha.1 ha.2, abs_f b hb.1 hb.2, Option.bind_some]
          rw [times_f _ _ (by omega) (by omega) (by omega) (by omega)]
          simp only [Option.bind_some]
          have hp := abs_prod ha hb
          have hm : 0 < (c.natAbs : Int) := by omega
          obtain ⟨Q', hd, hQ, hQ0, hQ1⟩ := divide_ev (H := (a.natAbs : Int) * b.natAbs / 18446744073709551616) (L := (a.natAbs : Int) * b.natAbs % 18446744073709551616) (b := (c.natAbs : Int)) hm (by omega) (by omega) (by omega) (by omega) (by omega)
          rw [show (a.natAbs : Int) * b.natAbs / 18446744073709551616 * 18446744073709551616 + (a.natAbs : Int) * b.natAbs % 18446744073709551616 = (a.natAbs : Int) * b.natAbs by omega] at hd hQ
          refine Ev.bind hd ?_
          dsimp only
          have hr0 := Int.emod_nonneg ((a.natAbs : Int) * b.natAbs) (b := (c.natAbs : Int)) (by omega)
          have hr1 := Int.emod_lt_of_pos ((a.natAbs : Int) * b.natAbs) hm
          have hq0 : 0 ≤ (a.natAbs : Int) * b.natAbs / (c.natAbs : Int) := Int.ediv_nonneg hp.1 (by omega)
          have stop : ∀ Q R ok, Ev (fun k => oculusref08_Scaled.j1 k a b c (c.natAbs : Int) true Q R ok) (0, false) := fun Q R ok => Ev.step (fun k => by rw [oculusref08_Scaled.j1]) (Ev.pos rfl (Ev.now _))
          generalize hdd : decide ((a.natAbs : Int) * b.natAbs / (c.natAbs : Int) < 18446744073709551616) = dd
          by_cases h64 : (a.natAbs : Int) * b.natAbs / (c.natAbs : Int) < 18446744073709551616
          · obtain rfl : dd = true := by rw [← hdd]; exact decide_eq_true h64
            refine Ev.pos rfl ?_
            have eQ := hQ h64
            rw [eQ]
            by_cases ho : (a.natAbs : Int) * b.natAbs / (c.natAbs : Int) > 9223372036854775807
            · rw [if_pos ho, decide_eq_true ho]; exact stop _ _ _
            · rw [if_neg ho, decide_eq_false ho]
              refine Ev.step (fun k => by rw [oculusref08_Scaled.j1]) (Ev.neg (by decide) ?_)
              have key : Ev (fun k => oculusref08_Scaled.j2 k a b c (upR (a.natAbs * b.natAbs) c.natAbs)) (if upR (a.natAbs * b.natAbs) c.natAbs > 9223372036854775807 then (0, false) else (sg a b c (upR (a.natAbs * b.natAbs) c.natAbs), true)) := by
                by_cases hq : upR (a.natAbs * b.natAbs) c.natAbs > 9223372036854775807
                · rw [if_pos hq]; exact Ev.step (fun k => by rw [oculusref08_Scaled.j2]) (Ev.pos hq (Ev.now _))
                · rw [if_neg hq]
                  refine rscaled_j2 ?_ (by omega)
                  unfold upR; split <;> omega
              rw [u64i (x := (c.natAbs : Int) - (a.natAbs : Int) * b.natAbs % (c.natAbs : Int)) (by omega) (by omega)]
              by_cases hu : (c.natAbs : Int) - (a.natAbs : Int) * b.natAbs % (c.natAbs : Int) ≤ (a.natAbs : Int) * b.natAbs % (c.natAbs : Int)
              · refine Ev.pos hu ?_
                rw [u64i (x := (a.natAbs : Int) * b.natAbs / (c.natAbs : Int) + 1) (by omega) (by omega)]
                have e : upR (a.natAbs * b.natAbs) c.natAbs = (a.natAbs : Int) * b.natAbs / (c.natAbs : Int) + 1 := if_pos hu
                rw [← e]; exact key
              · refine Ev.neg hu ?_
                have e : upR (a.natAbs * b.natAbs) c.natAbs = (a.natAbs : Int) * b.natAbs / (c.natAbs : Int) := if_neg hu
                rw [← e]; exact key
          · rw [if_pos (by omega)]
            obtain rfl : dd = false := by rw [← hdd]; exact decide_eq_false h64
            refine Ev.neg (by decide) ?_
            exact stop _ _ _
      · rw [show scaledR a b c = (0, false) from if_neg (fun h => hc h.2.2.1)]
        exact Ev.neg (by rw [decide_eq_false hc]; decide) no
    · rw [show scaledR a b c = (0, false) from if_neg (fun h => hb h.2.1)]
      exact Ev.neg (by rw [decide_eq_false hb]; decide) no
  · rw [show scaledR a b c = (0, false) from if_neg (fun h => ha h.1)]
    exact Ev.neg (by rw [decide_eq_false ha]; decide) no
theorem scaled_eq {a b c : Int} (h : ¬ ((a.natAbs : Int) * b.natAbs / c.natAbs = 18446744073709551615 ∧ (c.natAbs : Int) - (a.natAbs : Int) * b.natAbs % c.natAbs ≤ (a.natAbs : Int) * b.natAbs % c.natAbs)) : scaledP a b c = scaledR a b c := by
  unfold scaledP scaledR
  by_cases hc : May a ∧ May b ∧ May c ∧ c ≠ 0
  · rw [if_pos hc, if_pos hc]
    have hp := abs_prod hc.1 hc.2.1
    have hm : 0 < (c.natAbs : Int) := by omega
    have hq0 : 0 ≤ (a.natAbs : Int) * b.natAbs / (c.natAbs : Int) := Int.ediv_nonneg hp.1 (by omega)
    have hiff : (a.natAbs : Int) * b.natAbs / 18446744073709551616 ≥ (c.natAbs : Int) ↔ ¬ (a.natAbs : Int) * b.natAbs / (c.natAbs : Int) < 18446744073709551616 := by
      rw [Int.ediv_lt_iff_lt_mul hm, Int.not_lt, ge_iff_le, Int.le_ediv_iff_mul_le (by decide), Int.mul_comm]
    unfold upP upR
    by_cases h64 : (a.natAbs : Int) * b.natAbs / (c.natAbs : Int) < 18446744073709551616
    · rw [if_neg (fun hh => hiff.1 hh h64)]
      by_cases hu : (c.natAbs : Int) - (a.natAbs : Int) * b.natAbs % (c.natAbs : Int) ≤ (a.natAbs : Int) * b.natAbs % (c.natAbs : Int)
      · simp only [if_pos hu]
        have : (a.natAbs : Int) * b.natAbs / (c.natAbs : Int) ≠ 18446744073709551615 := fun e => h ⟨e, hu⟩
        rw [show ((a.natAbs : Int) * b.natAbs / (c.natAbs : Int) + 1) % 18446744073709551616 = (a.natAbs : Int) * b.natAbs / (c.natAbs : Int) + 1 by omega]
        by_cases ho : (a.natAbs : Int) * b.natAbs / (c.natAbs : Int) > 9223372036854775807
        · rw [if_pos ho, if_pos (by omega)]
        · rw [if_neg ho]
      · simp only [if_neg hu]
        by_cases ho : (a.natAbs : Int) * b.natAbs / (c.natAbs : Int) > 9223372036854775807
        · simp only [if_pos ho]
        · simp only [if_neg ho]
    · rw [if_pos (hiff.2 h64), if_pos (by omega)]
  · rw [if_neg hc, if_neg hc]
end Go.Proofs.YtcfhllbobapaiaaDoor.Q

namespace Go.Proofs.YtcfhllbobapaiaaDoor.Q
open Go Go.RowKit Go.Proofs.YtcfhllbobapaiaaDoor.PA Go.Proofs.YtcfhllbobapaiaaDoorW.PrintWords Go.Proofs.YtcfhllbobapaiaaDoorW.PrintLast Go.Proofs.YtcfhllbobapaiaaDoorW.PrintMore
set_option linter.unusedVariables false
set_option linter.unusedSimpArgs false
def I64 (x : Int) : Prop := -9223372036854775808 ≤ x ∧ x ≤ 9223372036854775807
theorem May.i {x : Int} (h : May x) : I64 x := by unfold May at h; unfold I64; omega
def addS (a b : Int) : Int × Bool := if May a ∧ May b ∧ May (a + b) then (a + b, true) else (0, false)
def negS (a : Int) : Int × Bool := if May a then (-a, true) else (0, false)
def subS (a b : Int) : Int × Bool := if May a ∧ May b ∧ May (a - b) then (a - b, true) else (0, false)
theorem addS_yes {a b : Int} (h : May a ∧ May b ∧ May (a + b)) : addS a b = (a + b, true) := if_pos h
theorem addS_no {a b : Int} (h : ¬ May (a + b)) : addS a b = (0, false) := if_neg (fun hh => h hh.2.2)
theorem add_f {a b : Int} (ha : I64 a) (hb : I64 b) : dec_Add.f a b = some (addS a b) := by
  unfold I64 at ha hb
  unfold dec_Add.f
  rw [may_f ha.1 ha.2, may_f hb.1 hb.2, Option.bind_some]
  by_cases h1 : May a
  · rw [if_pos (decide_eq_true h1), Option.bind_some]
    by_cases h2 : May b
    · rw [if_pos (decide_eq_true h2)]
      have hw := show -9223372036854775808 ≤ wrap64 (a + b) ∧ wrap64 (a + b) ≤ 9223372036854775807 by unfold wrap64; omega
      rw [may_f hw.1 hw.2, Option.bind_some]
      have m1 := h1; have m2 := h2
      unfold May at m1 m2
      by_cases h3 : May (a + b)
      · have m3 := h3
        unfold May at m3
        have ew : wrap64 (a + b) = a + b := w64 (by omega) (by omega)
        rw [show addS a b = (a + b, true) from if_pos ⟨h1, h2, h3⟩, ew, if_pos (decide_eq_true h3)]
        repeat' split
        all_goals first | rfl | (exfalso; omega)
      · rw [show addS a b = (0, false) from if_neg (fun h => h3 h.2.2)]
        by_cases h4 : May (wrap64 (a + b))
        · rw [if_pos (decide_eq_true h4)]
          unfold May at h3 h4
          unfold wrap64 at h4 ⊢
          repeat' split
          all_goals first | rfl | (exfalso; omega)
        · rw [if_neg (by rw [decide_eq_false h4]; decide)]
    · rw [if_neg (by rw [decide_eq_false h2]; decide), show addS a b = (0, false) from if_neg (fun h => h2 h.2.1)]
  · rw [if_neg (by rw [decide_eq_false h1]; decide), show addS a b = (0, false) from if_neg (fun h => h1 h.1)]
theorem radd_f {a b : Int} (ha : I64 a) (hb : I64 b) : oculusref08_Add.f a b = some (addS a b) := by
  unfold I64 at ha hb
  unfold oculusref08_Add.f
  rw [rmay_f ha.1 ha.2, rmay_f hb.1 hb.2, Option.bind_some]
  by_cases h1 : May a
  · rw [if_pos (decide_eq_true h1), Option.bind_some]
    by_cases h2 : May b
    · rw [if_pos (decide_eq_true h2)]
      have m1 := h1; have m2 := h2
      unfold May at m1 m2
      by_cases h3 : May (a + b)
      · have m3 := h3
        unfold May at m3
        rw [show addS a b = (a + b, true) from if_pos ⟨h1, h2, h3⟩, w64 (x := a + b) (by omega) (by omega)]
        unfold wrap64
        repeat' split
        all_goals first | rfl | (exfalso; omega)
      · rw [show addS a b = (0, false) from if_neg (fun h => h3 h.2.2)]
        unfold May at h3
        unfold wrap64
        repeat' split
        all_goals first | rfl | (exfalso; omega)
    · rw [if_neg (by rw [decide_eq_false h2]; decide), show addS a b = (0, false) from if_neg (fun h => h2 h.2.1)]
  · rw [if_neg (by rw [decide_eq_false h1]; decide), show addS a b = (0, false) from if_neg (fun h => h1 h.1)]
theorem neg_f {a : Int} (ha : I64 a) : dec_Neg.f a = some (negS a) := by
  unfold I64 at ha
  unfold dec_Neg.f negS
  rw [may_f ha.1 ha.2, Option.bind_some]
  by_cases h1 : May a
  · rw [if_pos (decide_eq_true h1), if_pos h1]; have m1 := h1; unfold May at m1; rw [w64 (by omega) (by omega)]
  · rw [if_neg (by rw [decide_eq_false h1]; decide), if_neg h1]
theorem addS_neg {a b : Int} (hb : May b) : addS a (-b) = subS a b := by
  unfold addS subS
  by_cases h : May a ∧ May b ∧ May (a - b)
  · rw [if_pos h, if_pos ⟨h.1, by unfold May at *; omega, by rw [← Int.sub_eq_add_neg]; exact h.2.2⟩, Int.sub_eq_add_neg]
  · rw [if_neg h, if_neg (fun hh => h ⟨hh.1, hb, by rw [Int.sub_eq_add_neg]; exact hh.2.2⟩)]
theorem tdm (a : Int) {m : Int} (hm : 0 < m) : a = a.tdiv m * m + a.tmod m ∧ (0 ≤ a → 0 ≤ a.tmod m ∧ a.tmod m < m) ∧ (a ≤ 0 → -m < a.tmod m ∧ a.tmod m ≤ 0) := by
  refine ⟨(Int.tdiv_mul_add_tmod a m).symm, fun h => ⟨Int.tmod_nonneg _ h, Int.tmod_lt_of_pos _ hm⟩, fun h => ?_⟩
  have h1 := Int.tmod_nonneg m (a := -a) (by omega)
  have h2 := Int.tmod_lt_of_pos (-a) hm
  rw [Int.neg_tmod] at h1 h2
  omega
theorem tdlow (a : Int) {m : Int} (hm : 0 < m) : (0 ≤ a → 0 ≤ a.tdiv m * m) ∧ (a ≤ 0 → a.tdiv m * m ≤ 0) := by
  refine ⟨fun h => Int.mul_nonneg (Int.tdiv_nonneg h (Int.le_of_lt hm)) (Int.le_of_lt hm), fun h => ?_⟩
  have := Int.mul_nonneg (Int.tdiv_nonneg (a := -a) (by omega) (Int.le_of_lt hm)) (Int.le_of_lt hm)
  rw [Int.neg_tdiv, Int.neg_mul] at this
  omega
theorem units_f {a : Int} (ha : I64 a) : dec_Units.f a = some (if May a then a.tdiv 10000 else 0) := by
  have t := tdm a (m := 10000) (by decide)
  unfold I64 at ha
  unfold dec_Units.f
  rw [may_f ha.1 ha.2, Option.bind_some]
  by_cases h1 : May a
  · rw [if_pos (decide_eq_true h1), if_pos h1, w64 (by omega) (by omega)]
  · rw [if_neg (by rw [decide_eq_false h1]; decide), if_neg h1]
end Go.Proofs.YtcfhllbobapaiaaDoor.Q

namespace Go.Proofs.YtcfhllbobapaiaaDoor.Q
open Go Go.RowKit Go.Proofs.YtcfhllbobapaiaaDoor.PA Go.Proofs.YtcfhllbobapaiaaDoorW.PrintWords Go.Proofs.YtcfhllbobapaiaaDoorW.PrintLast Go.Proofs.YtcfhllbobapaiaaDoorW.PrintMore
set_option linter.unusedVariables false
set_option linter.unusedSimpArgs false
def mulS (a b : Int) : Int × Bool := if May a ∧ May b ∧ May (a * b) then (a * b, true) else (0, false)
theorem mulS_yes {a b : Int} (h : May a ∧ May b ∧ May (a * b)) : mulS a b = (a * b, true) := if_pos h
theorem mulS_no {a b : Int} (h : ¬ May (a * b)) : mulS a b = (0, false) := if_neg (fun hh => h hh.2.2)
theorem sg_one (a b : Int) : sg a b 1 ((a.natAbs : Int) * b.natAbs) = a * b := by
  unfold sg
  rcases (by omega : a < 0 ∨ 0 ≤ a) with ha | ha <;> rcases (by omega : b < 0 ∨ 0 ≤ b) with hb | hb
  · rw [decide_eq_true ha, decide_eq_true hb, Int.ofNat_natAbs_of_nonpos (by omega), Int.ofNat_natAbs_of_nonpos (by omega)]
    simp [Int.neg_mul_neg]
  · rw [decide_eq_true ha, decide_eq_false (by omega), Int.ofNat_natAbs_of_nonpos (by omega), Int.natAbs_of_nonneg hb]
    simp [Int.neg_mul]
  · rw [decide_eq_false (by omega), decide_eq_true hb, Int.natAbs_of_nonneg ha, Int.ofNat_natAbs_of_nonpos (by omega)]
    simp [Int.mul_neg]
  · rw [decide_eq_false (by omega), decide_eq_false (by omega), Int.natAbs_of_nonneg ha, Int.natAbs_of_nonneg hb]
    simp
theorem scaledR_one (a b : Int) : scaledR a b 1 = mulS a b := by
  unfold scaledR mulS upR
  have e1 : ((1 : Int).natAbs : Int) = 1 := rfl
  rw [e1, Int.ediv_one, Int.emod_one, if_neg (show ¬ (1 : Int) - 0 ≤ 0 by decide), sg_one]
  have hab : (a.natAbs : Int) * b.natAbs = ((a * b).natAbs : Int) := by rw [Int.natAbs_mul]; simp
  rw [hab]
  by_cases h : May a ∧ May b ∧ May (a * b)
  · have h3 := h.2.2
    unfold May at h3
    rw [if_pos ⟨h.1, h.2.1, by decide, by decide⟩, if_pos h, if_neg (by omega), if_neg (by omega)]
  · rw [if_neg h]
    by_cases h2 : May a ∧ May b ∧ May 1 ∧ (1 : Int) ≠ 0
    · rw [if_pos h2]
      have h3 : ¬ May (a * b) := fun hh => h ⟨h2.1, h2.2.1, hh⟩
      unfold May at h3
      rw [if_pos (by omega)]
    · rw [if_neg h2]
theorem scaledP_one (a b : Int) : scaledP a b 1 = mulS a b := by
  rw [scaled_eq, scaledR_one]
  have e1 : ((1 : Int).natAbs : Int) = 1 := rfl
  rw [e1, Int.emod_one]
  omega
end Go.Proofs.YtcfhllbobapaiaaDoor.Q

namespace Go.Proofs.YtcfhllbobapaiaaDoor.Q
open Go Go.RowKit Go.Proofs.YtcfhllbobapaiaaDoorW.PrintWords Go.Proofs.YtcfhllbobapaiaaDoorW.PrintLast Go.Proofs.YtcfhllbobapaiaaDoorW.PrintMore
set_option linter.unusedVariables false
set_option linter.unusedSimpArgs false
def B (l : List UInt8) : ByteArray := ⟨l.toArray⟩
theorem B_of (s : ByteArray) : ∃ l, s = B l := ⟨s.data.toList, by rcases s with ⟨⟨l⟩⟩; rfl⟩
theorem B_data (l : List UInt8) : (B l).data.toList = l := rfl
theorem B_size (l : List UInt8) : (B l).size = l.length := rfl
theorem B_append (l m : List UInt8) : B l ++ B m = B (l ++ m) := by
  apply ByteArray.ext
  simp [B]
theorem B_toList (l : List UInt8) : (B l).toList = l := by
  exact ByteArray.toList_eq _
theorem B_inj {l m : List UInt8} : B l = B m ↔ l = m := ⟨fun h => by have := congrArg (fun s : ByteArray => s.data.toList) h; exact this, fun h => by rw [h]⟩
theorem B_extract (l : List UInt8) (i j : Nat) : (B l).extract i j = B ((l.drop i).take (j - i)) := by
  apply ByteArray.ext
  simp [B]
theorem B_bt {l : List UInt8} {i : Nat} (h : i < l.length) : bt (B l) (i : Int) = (l[i].toNat : Int) := by
  unfold bt
  rw [dif_pos (show ((i : Int)).toNat < (B l).size by rw [Int.toNat_natCast]; exact h)]
  rfl
end Go.Proofs.YtcfhllbobapaiaaDoor.Q

namespace Go.Proofs.YtcfhllbobapaiaaDoor.Q
open Go Go.RowKit Go.Proofs.YtcfhllbobapaiaaDoor.PA Go.Proofs.YtcfhllbobapaiaaDoorW.PrintWords Go.Proofs.YtcfhllbobapaiaaDoorW.PrintLast Go.Proofs.YtcfhllbobapaiaaDoorW.PrintMore
set_option linter.unusedVariables false
set_option linter.unusedSimpArgs false
def dc (n : Nat) : UInt8 := UInt8.ofNat (48 + n)
theorem dd_small {n : Nat} (h : n < 10) : Lib.decDigits n = [dc n] := by rw [Lib.decDigits, dif_pos h]; rfl
theorem dd_big {n : Nat} (h : ¬ n < 10) : Lib.decDigits n = Lib.decDigits (n / 10) ++ [dc (n % 10)] := by rw [Lib.decDigits, dif_neg h]; rfl
def dg (n : Nat) : List UInt8 := if n = 0 then [] else Lib.decDigits n
theorem dg_step (n : Nat) : dg (n / 10) ++ [dc (n % 10)] = Lib.decDigits n := by
  by_cases h : n < 10
  · rw [dd_small h, dg, if_pos (by omega), List.nil_append, Nat.mod_eq_of_lt h]
  · rw [dd_big h, dg, if_neg (by omega)]
theorem dd_len (d : Nat) : ∀ n, n < 10 ^ (d + 1) → (Lib.decDigits n).length ≤ d + 1 := by
  induction d with
  | zero => intro n h; rw [dd_small (by simpa using h)]; simp
  | succ d ih =>
    intro n h
    by_cases h1 : n < 10
    · rw [dd_small h1]; simp
    · rw [dd_big h1, List.length_append]
      have := ih (n / 10) (by rw [Nat.pow_succ] at h; omega)
      simp
      omega
theorem digit_str (n : Nat) : strOfNums [(IntKind.u64.wrap (48 + Int.tmod (n : Int) 10)) % 256] = B [dc (n % 10)] := by
  have e : Int.tmod (n : Int) 10 = ((n % 10 : Nat) : Int) := by rw [Int.tmod_eq_emod_of_nonneg (by omega)]; omega
  have h : n % 10 < 10 := Nat.mod_lt _ (by decide)
  rw [e, u64i (by omega) (by omega), show ((48 : Int) + ((n % 10 : Nat) : Int)) % 256 = ((48 + n % 10 : Nat) : Int) by omega]
  rfl
theorem tens (n : Nat) (h : (n : Int) ≤ 18446744073709551615) : IntKind.u64.wrap (Int.tdiv (n : Int) 10) = ((n / 10 : Nat) : Int) := by
  rw [Int.tdiv_eq_ediv_of_nonneg (by omega), u64i (by omega) (by omega)]
  omega
theorem whole_l0 (d : Nat) : ∀ (n : Nat) (l : List UInt8), n < 10 ^ d → (n : Int) ≤ 18446744073709551615 → l.length + d ≤ 100 → Ev (fun k => oculusref11_whole.l0 k (n : Int) (B l)) (B (dg n ++ l)) := by
  induction d with
  | zero =>
    intro n l h _ hl
    obtain rfl : n = 0 := by simpa using h
    refine Ev.step (fun k => by rw [oculusref11_whole.l0]) ?_
    exact Ev.neg (by decide) (Ev.now _)
  | succ d ih =>
    intro n l h hu hl
    refine Ev.step (fun k => by rw [oculusref11_whole.l0]) ?_
    by_cases h0 : n = 0
    · subst h0
      exact Ev.neg (by decide) (Ev.now _)
    · refine Ev.pos (by omega) (Ev.some_bind rfl ?_)
      rw [digit_str, B_append, B_size, B_size, tens n hu]
      refine Ev.pos (by simp; omega) ?_
      have := ih (n / 10) ([dc (n % 10)] ++ l) (by rw [Nat.pow_succ] at h; omega) (by omega) (by simp; omega)
      rw [← List.append_assoc, dg_step] at this
      rw [show dg n = Lib.decDigits n from if_neg h0]
      exact this
theorem whole_ev {n : Nat} (hu : (n : Int) ≤ 18446744073709551615) : Ev (fun k => oculusref11_whole.f k (n : Int)) (B (Lib.decDigits n)) := by
  refine Ev.congr (fun k => by rw [oculusref11_whole.f]) ?_
  rw [digit_str, tens n hu]
  have := whole_l0 20 (n / 10) [dc (n % 10)] (by omega) (by omega) (by simp)
  rw [dg_step] at this
  exact this
def fracL : Nat → Nat → List UInt8
  | 0, _ => []
  | d + 1, r => if r = 0 then [] else dc (r / 1000) :: fracL d (r % 1000 * 10)
theorem rest_l0 (d : Nat) : ∀ (r : Nat) (l : List UInt8), r < 10000 → r % 10 ^ (4 - d) = 0 → d ≤ 4 → l.length + d ≤ 100 → Ev (fun k => oculusref11_Text.l0 k (B l) (r : Int)) (B (l ++ fracL d r)) := by
  induction d with
  | zero =>
    intro r l h hz _ hl
    obtain rfl : r = 0 := by omega
    refine Ev.step (fun k => by rw [oculusref11_Text.l0]) (Ev.neg (by decide) ?_)
    rw [fracL, List.append_nil]
    exact Ev.now _
  | succ d ih =>
    intro r l h hz hd hl
    refine Ev.step (fun k => by rw [oculusref11_Text.l0]) ?_
    by_cases h0 : r = 0
    · subst h0
      refine Ev.neg (by decide) ?_
      rw [fracL, if_pos rfl, List.append_nil]
      exact Ev.now _
    · have e1 : IntKind.u64.wrap (Int.tdiv (r : Int) 1000) = ((r / 1000 : Nat) : Int) := by
        rw [Int.tdiv_eq_ediv_of_nonneg (by omega), u64i (by omega) (by omega)]; omega
      have e2 : IntKind.u64.wrap ((Int.tmod (r : Int) 1000) * 10) = ((r % 1000 * 10 : Nat) : Int) := by
        rw [Int.tmod_eq_emod_of_nonneg (by omega), u64i (by omega) (by omega)]; omega
      refine Ev.pos (by omega) ?_
      rw [e1, e2]
      refine Ev.bind (whole_ev (by omega)) ?_
      rw [dd_small (show r / 1000 < 10 by omega), B_append, B_size, B_size]
      refine Ev.pos (by simp; omega) ?_
      have hz2 : r % 1000 * 10 % 10 ^ (4 - d) = 0 := by
        have hd' : d = 0 ∨ d = 1 ∨ d = 2 ∨ d = 3 := by omega
        rcases hd' with rfl | rfl | rfl | rfl <;> simp at hz ⊢ <;> omega
      have := ih (r % 1000 * 10) (l ++ [dc (r / 1000)]) (by omega) hz2 (by omega) (by simp; omega)
      rw [List.append_assoc] at this
      rw [fracL, if_neg h0]
      exact this
def fracS (r : Nat) : List UInt8 := if r = 0 then [] else 46 :: fracL 4 r
def texL (x : Int) : List UInt8 := (if x < 0 then [45] else []) ++ Lib.decDigits (x.natAbs / 10000) ++ fracS (x.natAbs % 10000)
def texS (x : Int) : List UInt8 := if May x then texL x else []
theorem head_len {x : Int} (h : May x) : ((if x < 0 then [45] else []) ++ Lib.decDigits (x.natAbs / 10000) : List UInt8).length ≤ 17 := by
  have h1 := dd_len 15 (x.natAbs / 10000) (by unfold May at h; omega)
  rw [List.length_append]
  split <;> simp <;> omega
theorem rtext_j0 {x : Int} (h : May x) : Ev (fun k => oculusref11_Text.j0 k (x.natAbs : Int) (B ((if x < 0 then [45] else []) ++ Lib.decDigits (x.natAbs / 10000)))) (B (texL x)) := by
  have hl := head_len h
  have e : Int.tmod (x.natAbs : Int) 10000 = ((x.natAbs % 10000 : Nat) : Int) := by rw [Int.tmod_eq_emod_of_nonneg (by omega)]; omega
  refine Ev.step (fun k => by rw [oculusref11_Text.j0]) ?_
  rw [e]
  have hr : x.natAbs % 10000 < 10000 := Nat.mod_lt _ (by decide)
  unfold texL fracS
  generalize x.natAbs % 10000 = r at *
  generalize (if x < 0 then [45] else []) ++ Lib.decDigits (x.natAbs / 10000) = l at *
  by_cases h0 : r = 0
  · subst h0
    refine Ev.neg (by decide) (Ev.step (fun k => by rw [oculusref11_Text.j1]) ?_)
    have := rest_l0 4 0 l (by decide) (by decide) (by decide) (by omega)
    rw [if_pos rfl]
    exact this
  · refine Ev.pos (by omega) (Ev.pos (by rw [B_size]; omega) (Ev.step (fun k => by rw [oculusref11_Text.j1]) ?_))
    have := rest_l0 4 r (l ++ [46]) hr (by simp; omega) (by decide) (by simp; omega)
    rw [if_neg h0]
    rw [List.append_assoc] at this
    exact this
theorem rtext_ev {x : Int} (hx : I64 x) : Ev (fun k => oculusref11_Text.f k x) (B (texS x)) := by
  refine Ev.congr (fun k => by rw [oculusref11_Text.f]) (Ev.some_bind (rmay_f hx.1 hx.2) ?_)
  unfold texS
  by_cases h : May x
  · rw [if_pos h]
    have hm := h
    unfold May at hm
    unfold I64 at hx
    refine Ev.pos (decide_eq_true h) (Ev.some_bind (abs_f x (by omega) (by omega)) ?_)
    have e : IntKind.u64.wrap (Int.tdiv (x.natAbs : Int) 10000) = ((x.natAbs / 10000 : Nat) : Int) := by
      rw [Int.tdiv_eq_ediv_of_nonneg (by omega), u64i (by omega) (by omega)]; omega
    rw [e]
    refine Ev.bind (whole_ev (by omega)) ?_
    have j := rtext_j0 h
    have hl := head_len h
    refine Ev.ite (fun h0 => ?_) (fun h0 => ?_)
    · rw [if_pos h0] at j hl
      refine Ev.pos (by rw [B_size]; simp at hl ⊢; omega) ?_
      exact j
    · rw [if_neg h0, List.nil_append] at j
      exact j
  · rw [if_neg h]
    exact Ev.neg (by rw [decide_eq_false h]; decide) (Ev.now _)
end Go.Proofs.YtcfhllbobapaiaaDoor.Q

namespace Go.Proofs.YtcfhllbobapaiaaDoor.Q
open Go Go.RowKit Go.Proofs.YtcfhllbobapaiaaDoor.PA Go.Proofs.YtcfhllbobapaiaaDoorW.PrintWords Go.Proofs.YtcfhllbobapaiaaDoorW.PrintLast Go.Proofs.YtcfhllbobapaiaaDoorW.PrintMore
set_option linter.unusedVariables false
set_option linter.unusedSimpArgs false
theorem format_f {n : Int} (h : I64 n) : strconv_FormatInt.f n 10 = some (B (Lib.itoa n)) := by
  unfold strconv_FormatInt.f YtcfhllbobapaiaaDoorW.XTabs.formatInt
  exact if_pos ⟨rfl, h.1, h.2⟩
theorem itoa_nat (n : Nat) : Lib.itoa (n : Int) = Lib.decDigits n := by
  unfold Lib.itoa
  rw [if_neg (by omega), Int.toNat_natCast]
theorem itoa_neg {n : Nat} (h : 0 < n) : Lib.itoa (-(n : Int)) = 45 :: Lib.decDigits n := by
  unfold Lib.itoa
  rw [if_pos (by omega), Int.natAbs_neg, Int.natAbs_natCast]
theorem four {r : Nat} (h : r < 10000) : Lib.decDigits (10000 + r) = [49, dc (r / 1000), dc (r / 100 % 10), dc (r / 10 % 10), dc (r % 10)] := by
  rw [dd_big (by omega), dd_big (by omega), dd_big (by omega), dd_big (by omega), dd_small (by omega)]
  rw [show (10000 + r) / 10 / 10 / 10 / 10 = 1 by omega, show (10000 + r) / 10 / 10 / 10 % 10 = r / 1000 by omega, show (10000 + r) / 10 / 10 % 10 = r / 100 % 10 by omega, show (10000 + r) / 10 % 10 = r / 10 % 10 by omega, show (10000 + r) % 10 = r % 10 by omega]
  rfl
theorem dc_eq {n : Nat} (h : n < 10) : (dc n == 48) = decide (n = 0) := by
  have : ∀ m : Fin 10, (dc m.val == 48) = decide (m.val = 0) := by decide
  exact this ⟨n, h⟩
theorem trim_eq {r : Nat} (h : r < 10000) (h0 : r ≠ 0) : Lib.trimRightB [dc (r / 1000), dc (r / 100 % 10), dc (r / 10 % 10), dc (r % 10)] 48 = fracL 4 r := by
  have e1 := dc_eq (n := r / 1000) (by omega)
  have e2 := dc_eq (n := r / 100 % 10) (by omega)
  have e3 := dc_eq (n := r / 10 % 10) (by omega)
  have e4 := dc_eq (n := r % 10) (by omega)
  have s1 : fracL 4 r = dc (r / 1000) :: fracL 3 (r % 1000 * 10) := by rw [fracL, if_neg h0]
  have s2 : r % 1000 * 10 ≠ 0 → fracL 3 (r % 1000 * 10) = dc (r / 100 % 10) :: fracL 2 (r % 100 * 100) := fun hh => by
    rw [fracL, if_neg hh, show r % 1000 * 10 / 1000 = r / 100 % 10 by omega, show r % 1000 * 10 % 1000 * 10 = r % 100 * 100 by omega]
  have s3 : r % 100 * 100 ≠ 0 → fracL 2 (r % 100 * 100) = dc (r / 10 % 10) :: fracL 1 (r % 10 * 1000) := fun hh => by
    rw [fracL, if_neg hh, show r % 100 * 100 / 1000 = r / 10 % 10 by omega, show r % 100 * 100 % 1000 * 10 = r % 10 * 1000 by omega]
  have s4 : r % 10 * 1000 ≠ 0 → fracL 1 (r % 10 * 1000) = [dc (r % 10)] := fun hh => by
    rw [fracL, if_neg hh, show r % 10 * 1000 / 1000 = r % 10 by omega]; rfl
  have z : ∀ d, fracL d 0 = [] := fun d => by cases d <;> simp [fracL]
  rw [s1]
  unfold Lib.trimRightB
  simp only [List.reverse_cons, List.reverse_nil, List.nil_append, List.cons_append]
  by_cases h4 : r % 10 = 0
  · rw [List.dropWhile_cons_of_pos (by rw [e4]; exact decide_eq_true h4)]
    by_cases h3 : r / 10 % 10 = 0
    · rw [List.dropWhile_cons_of_pos (by rw [e3]; exact decide_eq_true h3)]
      by_cases h2 : r / 100 % 10 = 0
      · rw [List.dropWhile_cons_of_pos (by rw [e2]; exact decide_eq_true h2), List.dropWhile_cons_of_neg (by rw [e1]; simp; omega), show r % 1000 * 10 = 0 by omega, z]
        rfl
      · rw [List.dropWhile_cons_of_neg (by rw [e2]; simp; omega), s2 (by omega), show r % 100 * 100 = 0 by omega, z]
        rfl
    · rw [List.dropWhile_cons_of_neg (by rw [e3]; simp; omega), s2 (by omega), s3 (by omega), show r % 10 * 1000 = 0 by omega, z]
      rfl
  · rw [List.dropWhile_cons_of_neg (by rw [e4]; simp; omega), s2 (by omega), s3 (by omega), s4 (by omega)]
    rfl
theorem trimr_f {l : List UInt8} (h : l.length ≤ 1000000) : strings_TrimRight.f (B l) (⟨#[48]⟩ : ByteArray) = some (B (Lib.trimRightB l 48)) := by
  unfold strings_TrimRight.f YtcfhllbobapaiaaDoorW.XTabs.trimRight
  exact if_pos ⟨rfl, by decide, by rw [B_size]; omega⟩
theorem rest_of {x : Int} (h : May x) : x.tmod 10000 = (if x < 0 then -((x.natAbs % 10000 : Nat) : Int) else ((x.natAbs % 10000 : Nat) : Int)) := by
  have t := tdm x (m := 10000) (by decide)
  split <;> omega
theorem text_j1 {x : Int} (h : May x) {l : List UInt8} (hl : l.length ≤ 17) : Ev (fun k => digits_Text.j1 k x (B l)) (B (l ++ fracS (x.natAbs % 10000))) := by
  refine Ev.step (fun k => by rw [digits_Text.j1]) ?_
  have e := rest_of h
  have hr : x.natAbs % 10000 < 10000 := Nat.mod_lt _ (by decide)
  generalize x.natAbs % 10000 = r at *
  have em : wrap64 (10000 + mx (x.tmod 10000) (wrap64 (-(x.tmod 10000)))) = ((10000 + r : Nat) : Int) := by
    rw [e]
    split
    · rw [w64 (x := -(-(r : Int))) (by omega) (by omega)]
      unfold mx
      rw [w64 (by split <;> omega) (by split <;> omega)]
      split <;> omega
    · rw [w64 (x := -(r : Int)) (by omega) (by omega)]
      unfold mx
      rw [w64 (by split <;> omega) (by split <;> omega)]
      split <;> omega
  unfold fracS
  by_cases h0 : r = 0
  · refine Ev.pos (by rw [e]; split <;> omega) ?_
    rw [if_pos h0, List.append_nil]
    exact Ev.now _
  · refine Ev.neg (by rw [e]; split <;> omega) ?_
    rw [em, if_neg h0]
    refine Ev.some_bind (format_f (by unfold I64; omega)) ?_
    rw [itoa_nat, four hr]
    refine Ev.pos (by rw [B_size]; simp only [List.length_cons, List.length_nil]; omega) (Ev.pos (by rw [B_size]; omega) ?_)
    rw [B_extract]
    refine Ev.some_bind (trimr_f (by rw [List.length_take, List.length_drop]; simp only [List.length_cons, List.length_nil]; omega)) ?_
    rw [show (List.take ((B [49, dc (r / 1000), dc (r / 100 % 10), dc (r / 10 % 10), dc (r % 10)]).size - 1) (List.drop 1 [49, dc (r / 1000), dc (r / 100 % 10), dc (r / 10 % 10), dc (r % 10)])) = [dc (r / 1000), dc (r / 100 % 10), dc (r / 10 % 10), dc (r % 10)] from rfl, trim_eq hr h0]
    have hf : (fracL 4 r).length ≤ 4 := by
      have : ∀ d r, (fracL d r).length ≤ d := by
        intro d
        induction d with
        | zero => intro r; exact Nat.le_refl _
        | succ d ih =>
          intro r
          rw [fracL]
          split
          · exact Nat.zero_le _
          · have := ih (r % 1000 * 10); simp; omega
      exact this 4 r
    rw [show (⟨#[46]⟩ : ByteArray) = B [46] from rfl, B_append, B_append, B_size, B_size]
    refine Ev.pos (by simp; omega) ?_
    rw [List.append_assoc]
    exact Ev.now _
theorem text_ev {x : Int} (hx : I64 x) : Ev (fun k => digits_Text.f k x) (B (texS x)) := by
  refine Ev.congr (fun k => by rw [digits_Text.f]) (Ev.some_bind (may_f hx.1 hx.2) ?_)
  unfold texS
  by_cases h : May x
  · rw [if_pos h]
    have hm := h
    unfold May at hm
    have t := tdm x (m := 10000) (by decide)
    refine Ev.pos (decide_eq_true h) (Ev.some_bind (units_f hx) ?_)
    rw [if_pos h]
    refine Ev.some_bind (format_f (by unfold I64 at *; omega)) ?_
    have hl := head_len h
    unfold texL
    refine Ev.ite (fun h0 => ?_) (fun h0 => ?_)
    · rw [if_pos h0] at hl ⊢
      by_cases h1 : x > -10000
      · rw [show x.tdiv 10000 = ((0 : Nat) : Int) by omega, itoa_nat, decide_eq_true h1, show x.natAbs / 10000 = 0 by omega]
        rw [show x.natAbs / 10000 = 0 by omega] at hl
        refine Ev.step (fun k => by rw [digits_Text.j0]) (Ev.pos rfl (Ev.pos (by rw [B_size]; simp at hl ⊢; omega) ?_))
        rw [show (⟨#[45]⟩ : ByteArray) = B [45] from rfl, B_append]
        exact text_j1 h hl
      · have hq : 0 < x.natAbs / 10000 := by omega
        rw [show x.tdiv 10000 = -((x.natAbs / 10000 : Nat) : Int) by omega, itoa_neg hq, decide_eq_false h1]
        refine Ev.step (fun k => by rw [digits_Text.j0]) (Ev.neg (by decide) ?_)
        exact text_j1 h hl
    · rw [if_neg h0] at hl ⊢
      rw [show x.tdiv 10000 = ((x.natAbs / 10000 : Nat) : Int) by omega, itoa_nat]
      refine Ev.step (fun k => by rw [digits_Text.j0]) (Ev.neg (by decide) ?_)
      exact text_j1 h hl
  · rw [if_neg h]
    exact Ev.neg (by rw [decide_eq_false h]; decide) (Ev.now _)
end Go.Proofs.YtcfhllbobapaiaaDoor.Q

namespace Go.Proofs.YtcfhllbobapaiaaDoor.Q
open Go Go.RowKit Go.Proofs.YtcfhllbobapaiaaDoor.PA Go.Proofs.YtcfhllbobapaiaaDoorW.PrintWords Go.Proofs.YtcfhllbobapaiaaDoorW.PrintLast Go.Proofs.YtcfhllbobapaiaaDoorW.PrintMore
set_option linter.unusedVariables false
set_option linter.unusedSimpArgs false
def isD (b : UInt8) : Bool := decide (48 ≤ b.toNat) && decide (b.toNat ≤ 57)
def valL : List UInt8 → Nat → Nat
  | [], n => n
  | b :: l, n => valL l (n * 10 + (b.toNat - 48))
theorem valL_ge : ∀ (l : List UInt8) (n : Nat), n ≤ valL l n
  | [], n => Nat.le_refl _
  | b :: l, n => Nat.le_trans (by omega) (valL_ge l _)
def numS (w : List UInt8) : Int × Bool := if w ≠ [] ∧ w.all isD = true ∧ (valL w 0 : Int) ≤ 9223372036854775807 then ((valL w 0 : Int), true) else (0, false)
theorem number_l0 {w : List UInt8} (hw : w.length ≤ 1000000) (d : Nat) : ∀ (i n : Nat), i + d = w.length → (n : Int) ≤ 9223372036854775807 →
    Ev (fun k => digits_number.l0 k (B w) (n : Int) (w.length : Int) (i : Int)) (if (w.drop i).all isD = true ∧ (valL (w.drop i) n : Int) ≤ 9223372036854775807 then ((valL (w.drop i) n : Int), w != []) else (0, false)) := by
  induction d with
  | zero =>
    intro i n h hn
    refine Ev.step (fun k => by rw [digits_number.l0]) (Ev.neg (by omega) ?_)
    rw [List.drop_eq_nil_of_le (by omega), if_pos ⟨rfl, hn⟩, B_toList]
    exact Ev.now _
  | succ d ih =>
    intro i n h hn
    have hi : i < w.length := by omega
    have no : Ev (fun k => digits_number.j1 k (B w) (n : Int) (i : Int) (w.length : Int) (i : Int) true) (0, false) := by
      refine Ev.step (fun k => by rw [digits_number.j1]) ?_
      exact Ev.pos rfl (Ev.now _)
    refine Ev.step (fun k => by rw [digits_number.l0]) (Ev.pos (by omega) (Ev.pos (by omega) (Ev.pos (by rw [B_size]; omega) ?_)))
    rw [B_bt hi, List.drop_eq_getElem_cons hi, List.all_cons, valL]
    generalize hb : w[i] = b
    refine Ev.ite (fun h1 => ?_) (fun h1 => ?_)
    · rw [if_neg (by unfold isD; rw [decide_eq_false (by omega)]; simp)]
      exact no
    · by_cases h2 : (b.toNat : Int) > 57
      · rw [decide_eq_true h2, if_neg (by unfold isD; rw [decide_eq_false (p := b.toNat ≤ 57) (by omega)]; simp)]
        exact no
      · rw [decide_eq_false h2]
        have hd : isD b = true := by unfold isD; rw [decide_eq_true (by omega), decide_eq_true (by omega)]; rfl
        rw [hd, Bool.true_and]
        refine Ev.step (fun k => by rw [digits_number.j1]) (Ev.neg (by decide) ?_)
        have hs := scaled_ev (a := (n : Int)) (b := 10) (c := 1) (by omega) hn (by decide) (by decide) (by decide) (by decide)
        rw [scaledP_one] at hs
        refine Ev.bind hs (Ev.pos (by omega) (Ev.pos (by rw [B_size]; omega) ?_))
        rw [B_bt hi, hb, show (((b.toNat : Int)) - 48) % 256 = ((b.toNat - 48 : Nat) : Int) by omega, w64 (x := (i : Int) + 1) (by omega) (by omega)]
        have hge := valL_ge (w.drop (i + 1)) (n * 10 + (b.toNat - 48))
        have hd9 : b.toNat - 48 ≤ 9 := by omega
        generalize b.toNat - 48 = c at *
        by_cases h3 : (n : Int) * 10 ≤ 9223372036854775807
        · rw [mulS_yes (a := (n : Int)) (b := 10) ⟨by unfold May; omega, by decide, by unfold May; omega⟩]
          refine Ev.some_bind (add_f (by unfold I64; omega) (by unfold I64; omega)) (Ev.pos rfl ?_)
          by_cases h4 : (n : Int) * 10 + (c : Int) ≤ 9223372036854775807
          · rw [addS_yes ⟨by unfold May; omega, by unfold May; omega, by unfold May; omega⟩]
            refine Ev.pos rfl ?_
            have := ih (i + 1) (n * 10 + c) (by omega) (by omega)
            rw [show ((n * 10 + c : Nat) : Int) = (n : Int) * 10 + (c : Int) by omega, show ((i + 1 : Nat) : Int) = (i : Int) + 1 by omega] at this
            exact this
          · rw [addS_no (by unfold May; omega), if_neg (fun hh => by omega)]
            exact Ev.neg (by decide) (Ev.now _)
        · rw [mulS_no (by unfold May; omega), if_neg (fun hh => by omega)]
          exact Ev.some_bind (add_f (by show I64 0; unfold I64; omega) (by unfold I64; omega)) (Ev.neg (by decide) (Ev.now _))
theorem number_ev {w : List UInt8} (hw : w.length ≤ 1000000) : Ev (fun k => digits_number.f k (B w)) (numS w) := by
  refine Ev.congr (fun k => by rw [digits_number.f]) ?_
  have := number_l0 hw w.length 0 0 (Nat.zero_add _) (by decide)
  rw [List.drop_zero] at this
  rw [B_size]
  have e : numS w = (if w.all isD = true ∧ (valL w 0 : Int) ≤ 9223372036854775807 then ((valL w 0 : Int), w != []) else (0, false)) := by
    unfold numS
    by_cases h0 : w = []
    · subst h0; rfl
    · by_cases h1 : w.all isD = true ∧ (valL w 0 : Int) ≤ 9223372036854775807
      · rw [if_pos ⟨h0, h1⟩, if_pos h1, show (w != []) = true by simpa using h0]
      · rw [if_neg (fun hh => h1 hh.2), if_neg h1]
  rw [e]
  exact this
def minusL (l : List UInt8) : Bool := Lib.hasPrefix l [45]
def bodyL (l : List UInt8) : List UInt8 := Lib.trimPrefix l [45]
theorem cutp_f (l : List UInt8) : strings_CutPrefix.f (B l) (⟨#[45]⟩ : ByteArray) = some (B (bodyL l), minusL l) := rfl
def cutL : List UInt8 → List UInt8 × List UInt8 × Bool
  | [] => ([], [], false)
  | b :: l => if b = 46 then ([], l, true) else (b :: (cutL l).1, (cutL l).2.1, (cutL l).2.2)
theorem idx_range : ∀ (l : List UInt8) (c : UInt8), -1 ≤ Lib.indexByte l c ∧ Lib.indexByte l c < (l.length : Int)
  | [], c => by unfold Lib.indexByte; simp
  | b :: l, c => by
    have := idx_range l c
    unfold Lib.indexByte
    simp only [List.length_cons]
    split
    · omega
    · split <;> omega
theorem cut_eq (l : List UInt8) : Lib.cut l [46] = cutL l := by
  unfold Lib.cut
  rw [Lib.index_one]
  induction l with
  | nil => rfl
  | cons b l ih =>
    have ei : Lib.indexByte (b :: l) 46 = if (b == 46) = true then 0 else if (Lib.indexByte l 46 == -1) = true then -1 else Lib.indexByte l 46 + 1 := by rw [Lib.indexByte]
    rw [cutL]
    by_cases hb : b = 46
    · rw [if_pos (by simp [hb])] at ei
      rw [ei, if_pos (by decide), if_pos hb]
      rfl
    · rw [if_neg (by simp [hb])] at ei
      have hr := idx_range l 46
      rw [if_neg hb]
      generalize Lib.indexByte (b :: l) 46 = i at *
      generalize Lib.indexByte l 46 = j at *
      by_cases hj : j = -1
      · subst hj
        rw [if_pos (by decide)] at ei
        subst ei
        rw [if_neg (by decide)] at ih
        rw [if_neg (by decide), ← ih]
      · obtain ⟨n, rfl⟩ : ∃ n : Nat, j = n := ⟨j.toNat, by omega⟩
        rw [if_neg (by simp)] at ei
        subst ei
        rw [if_pos (by omega)] at ih
        rw [if_pos (by omega), ← ih, show ((n : Int) + 1).toNat = n + 1 by omega, Int.toNat_natCast]
        simp
theorem cut_f {l : List UInt8} (h : l.length ≤ 1000000) : strings_Cut.f (B l) (⟨#[46]⟩ : ByteArray) = some (B (cutL l).1, B (cutL l).2.1, (cutL l).2.2) := by
  unfold strings_Cut.f YtcfhllbobapaiaaDoorW.XTabs.cut
  rw [if_pos (by rw [B_size]; omega), show (Lib.cut (B l).data.toList (⟨#[46]⟩ : ByteArray).data.toList) = cutL l from cut_eq l]
  rfl
end Go.Proofs.YtcfhllbobapaiaaDoor.Q

namespace Go.Proofs.YtcfhllbobapaiaaDoor.Q
open Go Go.RowKit Go.Proofs.YtcfhllbobapaiaaDoor.PA Go.Proofs.YtcfhllbobapaiaaDoorW.PrintWords Go.Proofs.YtcfhllbobapaiaaDoorW.PrintLast Go.Proofs.YtcfhllbobapaiaaDoorW.PrintMore
set_option linter.unusedVariables false
set_option linter.unusedSimpArgs false
def totL (c : List UInt8 × List UInt8 × Bool) : Nat := valL c.1 0 * 10000 + valL c.2.1 0 * 10 ^ (4 - c.2.1.length)
def rightL (c : List UInt8 × List UInt8 × Bool) : Prop := c.1 ≠ [] ∧ c.1.all isD = true ∧ (c.2.2 = true → c.2.1 ≠ [] ∧ c.2.1.all isD = true ∧ c.2.1.length ≤ 4) ∧ (totL c : Int) ≤ 9223372036854775807
instance (c : List UInt8 × List UInt8 × Bool) : Decidable (rightL c) := by unfold rightL; infer_instance
def readL (l : List UInt8) : Int × Bool :=
  if l.length ≤ 40 ∧ rightL (cutL (bodyL l)) then (if minusL l = true then -(totL (cutL (bodyL l)) : Int) else (totL (cutL (bodyL l)) : Int), true) else (0, false)
theorem cut_len : ∀ l : List UInt8, (cutL l).1.length ≤ l.length ∧ (cutL l).2.1.length ≤ l.length ∧ ((cutL l).2.2 = false → (cutL l).2.1 = [])
  | [] => ⟨Nat.le_refl _, Nat.le_refl _, fun _ => rfl⟩
  | b :: l => by
    obtain ⟨h1, h2, h3⟩ := cut_len l
    unfold cutL
    by_cases hb : b = 46
    · rw [if_pos hb]
      exact ⟨Nat.zero_le _, by simp, fun h => by cases h⟩
    · rw [if_neg hb]
      exact ⟨by simp; omega, by simp; omega, h3⟩
theorem put_ev {x y : Nat} (hx : (x : Int) ≤ 9223372036854775807) (hy : (y : Int) ≤ 9223372036854775807) (m : Bool) :
    Ev (fun k => digits_put.f k (x : Int) (y : Int) m) (if ((x * 10000 + y : Nat) : Int) ≤ 9223372036854775807 then (if m = true then -((x * 10000 + y : Nat) : Int) else ((x * 10000 + y : Nat) : Int), true) else (0, false)) := by
  have hs := scaled_ev (a := (x : Int)) (b := 10000) (c := 1) (by omega) hx (by decide) (by decide) (by decide) (by decide)
  rw [scaledP_one] at hs
  refine Ev.congr (fun k => by rw [digits_put.f]) (Ev.bind (Ev.congr (fun k => by rw [dec_Of.f]) (Ev.bind hs (Ev.now _))) ?_)
  have no : ∀ s : Int, Ev (fun k => digits_put.j0 k m s true) (0, false) := fun s => by
    refine Ev.step (fun k => by rw [digits_put.j0]) ?_
    exact Ev.pos rfl (Ev.now _)
  by_cases h1 : (x : Int) * 10000 ≤ 9223372036854775807
  · rw [mulS_yes (a := (x : Int)) (b := 10000) ⟨by unfold May; omega, by decide, by unfold May; omega⟩]
    refine Ev.some_bind (add_f (by unfold I64; omega) (by unfold I64; omega)) (Ev.pos rfl ?_)
    by_cases h2 : ((x * 10000 + y : Nat) : Int) ≤ 9223372036854775807
    · rw [if_pos h2, addS_yes ⟨by unfold May; omega, by unfold May; omega, by unfold May; omega⟩]
      refine Ev.step (fun k => by rw [digits_put.j0]) (Ev.neg (by simp) ?_)
      rw [show (x : Int) * 10000 + (y : Int) = ((x * 10000 + y : Nat) : Int) by omega]
      refine Ev.ite (fun hm => ?_) (fun hm => ?_)
      · rw [if_pos hm]
        refine Ev.some_bind (neg_f (by unfold I64; omega)) ?_
        rw [show negS ((x * 10000 + y : Nat) : Int) = (-((x * 10000 + y : Nat) : Int), true) from if_pos (by unfold May; omega)]
        exact Ev.now _
      · rw [if_neg hm]
        exact Ev.now _
    · rw [if_neg h2, addS_no (by unfold May; omega)]
      exact no _
  · rw [mulS_no (by unfold May; omega), if_neg (by omega)]
    exact Ev.some_bind (add_f (by show I64 0; unfold I64; omega) (by unfold I64; omega)) (Ev.neg (by decide) (no _))
theorem pow_next {e : Nat} : 10 ^ (e + 1) = 10 ^ e * 10 := Nat.pow_succ ..
theorem read_l0 {x y : Nat} {m : Bool} (hx : (x : Int) ≤ 9223372036854775807) {e : Nat} (he : e ≤ 4) (hy : y * 10 ^ e ≤ 1000000) (d : Nat) : ∀ i : Nat, i + d = e →
    Ev (fun k => digits_Read.l0 k m (x : Int) ((y * 10 ^ i : Nat) : Int) (e : Int) (i : Int)) (if ((x * 10000 + y * 10 ^ e : Nat) : Int) ≤ 9223372036854775807 then (if m = true then -((x * 10000 + y * 10 ^ e : Nat) : Int) else ((x * 10000 + y * 10 ^ e : Nat) : Int), true) else (0, false)) := by
  induction d with
  | zero =>
    intro i h
    obtain rfl : i = e := by omega
    refine Ev.step (fun k => by rw [digits_Read.l0]) (Ev.neg (by omega) ?_)
    exact Ev.bind (put_ev hx (by omega) m) (Ev.now _)
  | succ d ih =>
    intro i h
    have hle : y * 10 ^ (i + 1) ≤ y * 10 ^ e := Nat.mul_le_mul_left _ (Nat.pow_le_pow_right (by decide) (by omega))
    have e1 : wrap64 (((y * 10 ^ i : Nat) : Int) * 10) = ((y * 10 ^ (i + 1) : Nat) : Int) := by
      have h2 : y * 10 ^ (i + 1) = y * 10 ^ i * 10 := by rw [pow_next, Nat.mul_assoc]
      generalize y * 10 ^ (i + 1) = q at *
      generalize y * 10 ^ i = p at *
      generalize y * 10 ^ e = z at *
      subst h2
      rw [w64 (by omega) (by omega)]
      omega
    refine Ev.step (fun k => by rw [digits_Read.l0]) (Ev.pos (by omega) ?_)
    rw [e1, w64 (x := (i : Int) + 1) (by omega) (by omega)]
    exact ih (i + 1) (by omega)
theorem val_lt : ∀ (l : List UInt8) (n : Nat), l.all isD = true → valL l n + 1 ≤ (n + 1) * 10 ^ l.length
  | [], n, _ => by simp [valL]
  | b :: l, n, h => by
    rw [List.all_cons, Bool.and_eq_true] at h
    have hb : b.toNat - 48 ≤ 9 := by
      have := h.1
      unfold isD at this
      simp at this
      omega
    have := val_lt l (n * 10 + (b.toNat - 48)) h.2
    rw [valL, List.length_cons, Nat.pow_succ]
    refine Nat.le_trans this ?_
    rw [Nat.mul_comm (10 ^ l.length) 10, ← Nat.mul_assoc]
    exact Nat.mul_le_mul_right _ (by omega)
theorem body_len (l : List UInt8) : (bodyL l).length ≤ l.length := by
  unfold bodyL Lib.trimPrefix
  split
  · rw [List.length_drop]; omega
  · exact Nat.le_refl _
theorem numS_yes {w : List UInt8} (h : w ≠ [] ∧ w.all isD = true ∧ (valL w 0 : Int) ≤ 9223372036854775807) : numS w = ((valL w 0 : Int), true) := if_pos h
theorem numS_no {w : List UInt8} (h : ¬ (w ≠ [] ∧ w.all isD = true ∧ (valL w 0 : Int) ≤ 9223372036854775807)) : numS w = (0, false) := if_neg h
theorem read_ev {l : List UInt8} (hl : l.length ≤ 1000000) : Ev (fun k => digits_Read.f k (B l)) (readL l) := by
  refine Ev.congr (fun k => by rw [digits_Read.f]) (Ev.some_bind (cutp_f l) ?_)
  rw [B_size]
  by_cases h40 : (l.length : Int) > 40
  · rw [show readL l = (0, false) from if_neg (fun hh => by omega)]
    exact Ev.pos h40 (Ev.now _)
  · refine Ev.neg h40 ?_
    have hb := body_len l
    refine Ev.some_bind (cut_f (l := bodyL l) (by omega)) ?_
    have hc := cut_len (bodyL l)
    generalize hC : cutL (bodyL l) = c at *
    refine Ev.bind (number_ev (w := c.1) (by omega)) (Ev.bind (number_ev (w := c.2.1) (by omega)) ?_)
    have no : ∀ (x y : Int) (m : Bool), Ev (fun k => digits_Read.j0 k m (B c.2.1) x y true) (0, false) := fun x y m => by
      refine Ev.step (fun k => by rw [digits_Read.j0]) ?_
      exact Ev.pos rfl (Ev.now _)
    have bad : ¬ rightL c → readL l = (0, false) := fun hh => if_neg (fun h2 => hh (by rw [hC] at h2; exact h2.2))
    have hle : valL c.1 0 ≤ totL c := by unfold totL; omega
    by_cases h1 : c.1 ≠ [] ∧ c.1.all isD = true ∧ (valL c.1 0 : Int) ≤ 9223372036854775807
    · rw [numS_yes h1]
      refine Ev.pos rfl ?_
      have go : c.2.1.length ≤ 4 → valL c.2.1 0 * 10 ^ (4 - c.2.1.length) ≤ 1000000 → (c.2.2 = true → c.2.1 ≠ [] ∧ c.2.1.all isD = true ∧ c.2.1.length ≤ 4) → ∀ y : Int, y = (valL c.2.1 0 : Int) → Ev (fun k => digits_Read.j0 k (minusL l) (B c.2.1) (valL c.1 0 : Int) y false) (readL l) := by
        intro h4 hy hr y ey
        subst ey
        refine Ev.step (fun k => by rw [digits_Read.j0]) (Ev.neg (by decide) ?_)
        rw [B_size, w64 (x := 4 - (c.2.1.length : Int)) (by omega) (by omega), show (4 : Int) - (c.2.1.length : Int) = ((4 - c.2.1.length : Nat) : Int) by omega]
        have := read_l0 (x := valL c.1 0) (y := valL c.2.1 0) (m := minusL l) h1.2.2 (e := 4 - c.2.1.length) (by omega) hy (4 - c.2.1.length) 0 (Nat.zero_add _)
        rw [Nat.pow_zero, Nat.mul_one] at this
        have e : readL l = (if ((totL c : Nat) : Int) ≤ 9223372036854775807 then (if minusL l = true then -((totL c : Nat) : Int) else ((totL c : Nat) : Int), true) else (0, false)) := by
          unfold readL
          rw [hC]
          by_cases ht : ((totL c : Nat) : Int) ≤ 9223372036854775807
          · rw [if_pos ⟨by omega, h1.1, h1.2.1, hr, ht⟩, if_pos ht]
          · rw [if_neg (fun hh => ht hh.2.2.2.2), if_neg ht]
        rw [e]
        exact this
      by_cases hp : c.2.2 = true
      · refine Ev.pos hp ?_
        by_cases h2 : c.2.1 ≠ [] ∧ c.2.1.all isD = true ∧ (valL c.2.1 0 : Int) ≤ 9223372036854775807
        · rw [numS_yes h2]
          refine Ev.pos rfl ?_
          rw [B_size]
          by_cases h4 : c.2.1.length ≤ 4
          · rw [decide_eq_false (by omega)]
            have hv := val_lt c.2.1 0 h2.2.1
            refine go h4 ?_ (fun _ => ⟨h2.1, h2.2.1, h4⟩) _ rfl
            have h5 : c.2.1.length = 0 ∨ c.2.1.length = 1 ∨ c.2.1.length = 2 ∨ c.2.1.length = 3 ∨ c.2.1.length = 4 := by omega
            rcases h5 with h5 | h5 | h5 | h5 | h5 <;> rw [h5] at hv ⊢ <;> simp at hv ⊢ <;> omega
          · rw [decide_eq_true (by omega), bad (fun hh => h4 (hh.2.2.1 hp).2.2)]
            exact no _ _ _
        · rw [numS_no h2, bad (fun hh => by
            have h6 := hh.2.2.1 hp
            have h7 := hh.2.2.2
            have h8 : valL c.2.1 0 ≤ totL c := by
              unfold totL
              exact Nat.le_trans (Nat.le_mul_of_pos_right _ (Nat.pow_pos (by decide))) (Nat.le_add_left _ _)
            exact h2 ⟨h6.1, h6.2.1, by omega⟩)]
          exact Ev.neg (by decide) (no _ _ _)
      · refine Ev.neg hp ?_
        have he := hc.2.2 (by simpa using hp)
        refine go (by rw [he]; decide) (by rw [he]; decide) (fun h => absurd h hp) _ ?_
        rw [he]
        rfl
    · rw [numS_no h1, bad (fun hh => h1 ⟨hh.1, hh.2.1, by have := hh.2.2.2; omega⟩)]
      exact Ev.neg (by decide) (no _ _ _)
end Go.Proofs.YtcfhllbobapaiaaDoor.Q

namespace Go.Proofs.YtcfhllbobapaiaaDoor.Q
open Go Go.RowKit Go.Proofs.YtcfhllbobapaiaaDoor.PA Go.Proofs.YtcfhllbobapaiaaDoorW.PrintWords Go.Proofs.YtcfhllbobapaiaaDoorW.PrintLast Go.Proofs.YtcfhllbobapaiaaDoorW.PrintMore
set_option linter.unusedVariables false
set_option linter.unusedSimpArgs false
theorem dc_nat {n : Nat} (h : n < 10) : (dc n).toNat = 48 + n := by
  have : ∀ m : Fin 10, (dc m.val).toNat = 48 + m.val := by decide
  exact this ⟨n, h⟩
theorem dc_isD {n : Nat} (h : n < 10) : isD (dc n) = true := by
  unfold isD
  rw [dc_nat h, decide_eq_true (by omega), decide_eq_true (by omega)]; rfl
theorem valL_append : ∀ (l m : List UInt8) (n : Nat), valL (l ++ m) n = valL m (valL l n)
  | [], m, n => rfl
  | b :: l, m, n => by rw [List.cons_append, valL, valL, valL_append l m]
theorem dd_ind (P : Nat → Prop) (h0 : ∀ n, n < 10 → P n) (h1 : ∀ n, ¬ n < 10 → P (n / 10) → P n) : ∀ n, P n := by
  intro n
  induction n using Nat.strongRecOn with
  | _ n ih =>
    by_cases h : n < 10
    · exact h0 n h
    · exact h1 n h (ih (n / 10) (by omega))
theorem dd_val (n : Nat) : valL (Lib.decDigits n) 0 = n := by
  refine dd_ind (fun n => valL (Lib.decDigits n) 0 = n) (fun n h => ?_) (fun n h ih => ?_) n
  · rw [dd_small h, valL, valL, dc_nat h]; omega
  · rw [dd_big h, valL_append, ih, valL, valL, dc_nat (Nat.mod_lt _ (by decide))]; omega
theorem dd_all (n : Nat) : (Lib.decDigits n).all isD = true := by
  refine dd_ind (fun n => (Lib.decDigits n).all isD = true) (fun n h => ?_) (fun n h ih => ?_) n
  · rw [dd_small h, List.all_cons, dc_isD h]; rfl
  · rw [dd_big h, List.all_append, ih, List.all_cons, dc_isD (Nat.mod_lt _ (by decide))]; rfl
theorem dd_ne (n : Nat) : Lib.decDigits n ≠ [] := by
  by_cases h : n < 10
  · rw [dd_small h]; simp
  · rw [dd_big h]; simp
theorem frac_all (d : Nat) : ∀ r, r < 10000 → (fracL d r).all isD = true := by
  induction d with
  | zero => intro r _; rfl
  | succ d ih =>
    intro r h
    rw [fracL]
    split
    · rfl
    · rw [List.all_cons, dc_isD (by omega), ih _ (by omega)]; rfl
theorem frac_len (d : Nat) : ∀ r, (fracL d r).length ≤ d := by
  induction d with
  | zero => intro r; exact Nat.le_refl _
  | succ d ih =>
    intro r
    rw [fracL]
    split
    · exact Nat.zero_le _
    · have := ih (r % 1000 * 10); rw [List.length_cons]; omega
theorem frac_val (d : Nat) : ∀ r m, d ≤ 4 → r < 10000 → r % 10 ^ (4 - d) = 0 → valL (fracL d r) m * 10 ^ (d - (fracL d r).length) = m * 10 ^ d + r / 10 ^ (4 - d) := by
  induction d with
  | zero =>
    intro r m _ h hz
    obtain rfl : r = 0 := by omega
    simp [fracL, valL]
  | succ d ih =>
    intro r m hd h hz
    rw [fracL]
    by_cases h0 : r = 0
    · subst h0
      rw [if_pos rfl]
      simp [valL]
    · rw [if_neg h0, valL, dc_nat (show r / 1000 < 10 by omega), List.length_cons]
      have hz2 : r % 1000 * 10 % 10 ^ (4 - d) = 0 := by
        have hd' : d = 0 ∨ d = 1 ∨ d = 2 ∨ d = 3 := by omega
        rcases hd' with rfl | rfl | rfl | rfl <;> simp at hz ⊢ <;> omega
      have := ih (r % 1000 * 10) (m * 10 + (48 + r / 1000 - 48)) (by omega) (by omega) hz2
      rw [show d + 1 - ((fracL d (r % 1000 * 10)).length + 1) = d - (fracL d (r % 1000 * 10)).length by omega, this]
      have hd' : d = 0 ∨ d = 1 ∨ d = 2 ∨ d = 3 := by omega
      rcases hd' with rfl | rfl | rfl | rfl <;> simp at hz ⊢ <;> omega
def strD (w f : List UInt8) : List UInt8 := w ++ (if f = [] then [] else 46 :: f)
theorem isD_ne {b : UInt8} (h : isD b = true) : b ≠ 46 ∧ b ≠ 45 := by
  constructor <;> (intro e; subst e; revert h; decide)
theorem cut_str {w : List UInt8} (h : w.all isD = true) (f : List UInt8) : cutL (strD w f) = (w, f, f != []) := by
  unfold strD
  induction w with
  | nil =>
    by_cases hf : f = []
    · subst hf; rfl
    · rw [if_neg hf, List.nil_append, cutL, if_pos rfl, show (f != []) = true by simpa using hf]
  | cons b w ih =>
    rw [List.all_cons, Bool.and_eq_true] at h
    rw [List.cons_append, cutL, if_neg (isD_ne h.1).1, ih h.2]
theorem body_str {w : List UInt8} (h : w.all isD = true) (h0 : w ≠ []) (f : List UInt8) : minusL (strD w f) = false ∧ bodyL (strD w f) = strD w f := by
  rcases w with _ | ⟨b, w⟩
  · exact absurd rfl h0
  · rw [List.all_cons, Bool.and_eq_true] at h
    have hb : (b == (45 : UInt8)) = false := beq_eq_false_iff_ne.mpr (isD_ne h.1).2
    have hm : Lib.hasPrefix (strD (b :: w) f) [45] = false := by
      unfold strD
      rw [List.cons_append]
      simp [Lib.hasPrefix, List.isPrefixOf, Ne.symm (isD_ne h.1).2]
    refine ⟨hm, ?_⟩
    unfold bodyL Lib.trimPrefix
    rw [hm]; rfl
theorem body_minus (l : List UInt8) : minusL (45 :: l) = true ∧ bodyL (45 :: l) = l := by
  have hm : Lib.hasPrefix ((45 : UInt8) :: l) [45] = true := by simp [Lib.hasPrefix]
  refine ⟨hm, ?_⟩
  unfold bodyL Lib.trimPrefix
  rw [hm]; rfl
theorem right_str {w f : List UInt8} (h : w.all isD = true) (h0 : w ≠ []) (hf : f.all isD = true) (hl : f.length ≤ 4) {t : Nat} (ht : valL w 0 * 10000 + valL f 0 * 10 ^ (4 - f.length) = t) (hm : (t : Int) ≤ 9223372036854775807) :
    rightL (cutL (strD w f)) ∧ totL (cutL (strD w f)) = t := by
  rw [cut_str h]
  have e : totL (w, f, f != []) = t := ht
  refine ⟨⟨h0, h, fun hh => ⟨by simpa using hh, hf, hl⟩, by rw [e]; exact hm⟩, e⟩
theorem read_str {w f : List UInt8} (h : w.all isD = true) (h0 : w ≠ []) (hf : f.all isD = true) (hl : f.length ≤ 4) (hw : w.length ≤ 30) {t : Nat} (ht : valL w 0 * 10000 + valL f 0 * 10 ^ (4 - f.length) = t) (hm : (t : Int) ≤ 9223372036854775807) :
    readL (strD w f) = ((t : Int), true) ∧ readL (45 :: strD w f) = (-(t : Int), true) := by
  obtain ⟨hr, he⟩ := right_str h h0 hf hl ht hm
  have hs : (strD w f).length ≤ 35 := by
    unfold strD
    rw [List.length_append]
    split
    · simp; omega
    · rw [List.length_cons]; omega
  obtain ⟨b1, b2⟩ := body_str h h0 f
  obtain ⟨c1, c2⟩ := body_minus (strD w f)
  constructor
  · unfold readL
    rw [b2, b1, if_pos ⟨by omega, hr⟩, he]; rfl
  · unfold readL
    rw [c2, c1, if_pos ⟨by rw [List.length_cons]; omega, hr⟩, he]; rfl
theorem frac_nil {r : Nat} : (fracL 4 r = []) ↔ r = 0 := by
  rw [fracL]
  split <;> simp_all
theorem tex_str (x : Int) : texL x = (if x < 0 then [45] else []) ++ strD (Lib.decDigits (x.natAbs / 10000)) (fracL 4 (x.natAbs % 10000)) := by
  unfold texL strD fracS
  rw [List.append_assoc]
  by_cases h : x.natAbs % 10000 = 0
  · rw [if_pos h, if_pos (frac_nil.2 h)]
  · rw [if_neg h, if_neg (fun hh => h (frac_nil.1 hh))]
theorem tex_tot (n : Nat) : valL (Lib.decDigits (n / 10000)) 0 * 10000 + valL (fracL 4 (n % 10000)) 0 * 10 ^ (4 - (fracL 4 (n % 10000)).length) = n := by
  rw [dd_val, frac_val 4 (n % 10000) 0 (by decide) (by omega) (by simp; omega)]
  simp
  omega
theorem dd_len16 {x : Int} (h : May x) (hx : I64 x) : (Lib.decDigits (x.natAbs / 10000)).length ≤ 15 := dd_len 14 _ (by unfold May at h; unfold I64 at hx; omega)
theorem read_tex {x : Int} (h : May x) (hx : I64 x) : readL (texL x) = (x, true) := by
  have hl := dd_len16 h hx
  have hm : ((x.natAbs : Nat) : Int) ≤ 9223372036854775807 := by unfold May at h; unfold I64 at hx; omega
  obtain ⟨h1, h2⟩ := read_str (dd_all _) (dd_ne _) (frac_all 4 (x.natAbs % 10000) (by omega)) (frac_len 4 _) (by omega) (tex_tot x.natAbs) hm
  rw [tex_str]
  by_cases h0 : x < 0
  · rw [if_pos h0, List.singleton_append, h2, show -((x.natAbs : Nat) : Int) = x by omega]
  · rw [if_neg h0, List.nil_append, h1, show ((x.natAbs : Nat) : Int) = x by omega]
theorem read_texS {x : Int} (hx : I64 x) : readL (texS x) = (if May x then (x, true) else (0, false)) := by
  unfold texS
  split
  · exact read_tex (by assumption) hx
  · decide
def parseL (l : List UInt8) : Int × Bool := if (readL l).2 = true ∧ texS (readL l).1 = l then ((readL l).1, true) else (0, false)
theorem read_ok {l : List UInt8} : I64 (readL l).1 ∧ ((readL l).2 = true → May (readL l).1) := by
  unfold readL
  by_cases hh : l.length ≤ 40 ∧ rightL (cutL (bodyL l))
  · rw [if_pos hh]
    have := hh.2.2.2.2
    generalize totL (cutL (bodyL l)) = t at *
    unfold I64 May
    dsimp only
    split <;> omega
  · rw [if_neg hh]
    unfold I64
    exact ⟨by dsimp only; omega, fun h => by cases h⟩
theorem parse_ev {l : List UInt8} (hl : l.length ≤ 1000000) : Ev (fun k => digits_Parse.f k (B l)) (parseL l) := by
  refine Ev.congr (fun k => by rw [digits_Parse.f]) (Ev.bind (read_ev hl) ?_)
  unfold parseL
  by_cases h : (readL l).2 = true
  · refine Ev.pos h (Ev.bind (text_ev read_ok.1) ?_)
    rw [B_toList, B_toList]
    refine Ev.ite (fun h2 => ?_) (fun h2 => ?_)
    · rw [if_pos ⟨h, h2⟩]; exact Ev.now _
    · rw [if_neg (fun hh => h2 hh.2)]; exact Ev.now _
  · rw [if_neg (fun hh => h hh.1)]
    exact Ev.neg h (Ev.now _)
theorem parse_texS {x : Int} (hx : I64 x) : parseL (texS x) = (if May x then (x, true) else (0, false)) := by
  unfold parseL
  rw [read_texS hx]
  by_cases h : May x
  · rw [if_pos h, if_pos ⟨rfl, rfl⟩]
  · rw [if_neg h, if_neg (fun hh => by cases hh.1)]
def runD : Nat → List UInt8 → Nat
  | 0, _ => 0
  | _ + 1, [] => 0
  | m + 1, c :: t => if isD c = true then 1 + runD m t else 0
def isDp (l : List UInt8) (i : Nat) : Bool := match l.drop i with | [] => false | c :: _ => isD c
def leadn (l : List UInt8) : Nat := let n := runD 30 l; if 0 < n ∧ (l.drop n).head? = some 46 ∧ isDp l (n + 1) = true then n + 1 + runD 4 (l.drop (n + 1)) else n
def leadL (l : List UInt8) : Int × Int × Bool := if (readL (l.take (leadn l))).2 = true then ((readL (l.take (leadn l))).1, (leadn l : Int), true) else (0, 0, false)
theorem runD_le : ∀ (m : Nat) (l : List UInt8), runD m l ≤ m ∧ runD m l ≤ l.length
  | 0, l => by simp [runD]
  | m + 1, [] => by simp [runD]
  | m + 1, c :: t => by
    have := runD_le m t
    rw [runD]
    split <;> simp <;> omega
theorem isDp_eq (l : List UInt8) (i : Nat) : isDp l i = if h : i < l.length then isD l[i] else false := by
  unfold isDp
  by_cases h : i < l.length
  · rw [dif_pos h, List.drop_eq_getElem_cons h]
  · rw [dif_neg h, List.drop_eq_nil_of_le (by omega)]
theorem runD_step (m : Nat) (l : List UInt8) (i : Nat) : runD (m + 1) (l.drop i) = if isDp l i = true then 1 + runD m (l.drop (i + 1)) else 0 := by
  rw [isDp_eq]
  by_cases h : i < l.length
  · rw [dif_pos h, List.drop_eq_getElem_cons h, runD]
  · rw [dif_neg h, List.drop_eq_nil_of_le (by omega), runD]; rfl
theorem leadn_le (l : List UInt8) : leadn l ≤ l.length := by
  unfold leadn
  have h := runD_le 30 l
  have h2 := runD_le 4 (l.drop (runD 30 l + 1))
  rw [List.length_drop] at h2
  dsimp only
  split
  · rename_i hh
    have hd : isDp l (runD 30 l + 1) = true := hh.2.2
    rw [isDp_eq] at hd
    by_cases h3 : runD 30 l + 1 < l.length
    · omega
    · rw [dif_neg h3] at hd; cases hd
  · exact h.2
theorem dig_f (l : List UInt8) (i : Nat) : digits_digit.f (B l) (i : Int) = some (isDp l i) := by
  unfold digits_digit.f
  rw [B_size, isDp_eq]
  by_cases h : i < l.length
  · rw [if_pos (by omega), if_pos (by omega), dif_pos h, B_bt h]
    unfold isD
    by_cases h1 : 48 ≤ l[i].toNat
    · rw [if_pos (by omega), decide_eq_true h1, Bool.true_and]
      congr 1
      exact decide_eq_decide.2 (by omega)
    · rw [if_neg (by omega), decide_eq_false h1]; rfl
  · rw [if_neg (by omega), dif_neg h]
theorem rdig_f (l : List UInt8) (i : Nat) : oculusref11_Digit.f (B l) (i : Int) = some (isDp l i) := dig_f l i
end Go.Proofs.YtcfhllbobapaiaaDoor.Q

namespace Go.Proofs.YtcfhllbobapaiaaDoor.Q
open Go Go.RowKit Go.Proofs.YtcfhllbobapaiaaDoor.PA Go.Proofs.YtcfhllbobapaiaaDoorW.PrintWords Go.Proofs.YtcfhllbobapaiaaDoorW.PrintLast Go.Proofs.YtcfhllbobapaiaaDoorW.PrintMore
set_option linter.unusedVariables false
set_option linter.unusedSimpArgs false
def gotN (v : Nat) : Int × Bool := if (v : Int) ≤ 9223372036854775807 then ((v : Int), true) else (0, false)
theorem gotN_yes {v : Nat} (h : (v : Int) ≤ 9223372036854775807) : gotN v = ((v : Int), true) := if_pos h
theorem gotN_no {v : Nat} (h : ¬ (v : Int) ≤ 9223372036854775807) : gotN v = (0, false) := if_neg h
theorem more_ev {v c : Nat} (hc : c ≤ 9) : Ev (fun k => oculusref11_more.f k (gotN v).1 (gotN v).2 (c : Int)) (gotN (v * 10 + c)) := by
  refine Ev.congr (fun k => by rw [oculusref11_more.f]) ?_
  by_cases hv : (v : Int) ≤ 9223372036854775807
  · rw [gotN_yes hv]
    have hs := rscaled_ev (a := (v : Int)) (b := 10) (c := 1) (by omega) hv (by decide) (by decide) (by decide) (by decide)
    rw [scaledR_one] at hs
    refine Ev.pos rfl (Ev.bind hs ?_)
    by_cases h3 : (v : Int) * 10 ≤ 9223372036854775807
    · rw [mulS_yes (a := (v : Int)) (b := 10) ⟨by unfold May; omega, by decide, by unfold May; omega⟩]
      refine Ev.pos rfl (Ev.some_bind (radd_f (by unfold I64; omega) (by unfold I64; omega)) ?_)
      by_cases h4 : ((v * 10 + c : Nat) : Int) ≤ 9223372036854775807
      · rw [gotN_yes h4, addS_yes ⟨by unfold May; omega, by unfold May; omega, by unfold May; omega⟩, show ((v * 10 + c : Nat) : Int) = (v : Int) * 10 + (c : Int) by omega]
        exact Ev.now _
      · rw [gotN_no h4, addS_no (by unfold May; omega)]
        exact Ev.now _
    · rw [gotN_no (by omega), mulS_no (by unfold May; omega)]
      exact Ev.neg (by decide) (Ev.now _)
  · rw [gotN_no hv, gotN_no (by omega)]
    exact Ev.neg (by decide) (Ev.now _)
def finN (m : Bool) (v : Nat) : Int × Bool := if (v : Int) ≤ 9223372036854775807 then (if m = true then -(v : Int) else (v : Int), true) else (0, false)
theorem rread_l1 {m : Bool} (d : Nat) : ∀ (b v : Nat), b + d = 4 → Ev (fun k => oculusref11_Read.l1 k m (b : Int) (gotN v).1 (gotN v).2) (finN m (v * 10 ^ d)) := by
  induction d with
  | zero =>
    intro b v h
    refine Ev.step (fun k => by rw [oculusref11_Read.l1]) (Ev.neg (by omega) ?_)
    rw [Nat.pow_zero, Nat.mul_one]
    unfold finN
    by_cases hv : (v : Int) ≤ 9223372036854775807
    · rw [gotN_yes hv, if_pos hv]
      refine Ev.ite (fun hm => ?_) (fun hm => ?_)
      · rw [if_pos hm, w64 (by omega) (by omega)]
        exact Ev.now _
      · rw [if_neg hm]
        exact Ev.now _
    · rw [gotN_no hv, if_neg hv]
      refine Ev.ite (fun hm => ?_) (fun hm => ?_)
      · show Ev (fun _ => some (wrap64 (-(0 : Int)), false)) (0, false)
        rw [w64 (x := -(0 : Int)) (by omega) (by omega)]
        exact Ev.now _
      · exact Ev.now _
  | succ d ih =>
    intro b v h
    refine Ev.step (fun k => by rw [oculusref11_Read.l1]) (Ev.pos (by omega) ?_)
    refine Ev.bind (more_ev (v := v) (c := 0) (by decide)) ?_
    rw [w64 (x := (b : Int) + 1) (by omega) (by omega)]
    have := ih (b + 1) (v * 10 + 0) (by omega)
    rw [show v * 10 ^ (d + 1) = (v * 10 + 0) * 10 ^ d by rw [Nat.pow_succ, Nat.add_zero, Nat.mul_assoc, Nat.mul_comm (10 ^ d)], show (b : Int) + 1 = ((b + 1 : Nat) : Int) by omega]
    exact this
def scanL : List UInt8 → Bool → Option Nat → Nat → Option (Option Nat × Nat)
  | [], _, b, v => some (b, v)
  | c :: t, st, b, v => if c = 46 ∧ b = none ∧ st = true then scanL t true (some 0) v else if isD c = true then scanL t true (b.map (· + 1)) (v * 10 + (c.toNat - 48)) else none
def bI : Option Nat → Int
  | none => -1
  | some b => b
def finL (e m : Bool) : Option (Option Nat × Nat) → Int × Bool
  | none => (0, false)
  | some (b, v) => if e = true ∨ b = some 0 ∨ 4 < b.getD 0 then (0, false) else finN m (v * 10 ^ (4 - b.getD 0))
theorem finL_some (e m : Bool) (b : Option Nat) (v : Nat) : finL e m (some (b, v)) = if e = true ∨ b = some 0 ∨ 4 < b.getD 0 then (0, false) else finN m (v * 10 ^ (4 - b.getD 0)) := rfl
theorem rread_end {m : Bool} {w : List UInt8} {b : Option Nat} {v : Nat} {i : Nat} (hi : i = w.length) : Ev (fun k => oculusref11_Read.l0 k (B w) m (bI b) (i : Int) (gotN v).1 (gotN v).2) (finL (w == []) m (some (b, v))) := by
  refine Ev.step (fun k => by rw [oculusref11_Read.l0]) (Ev.neg (by rw [B_size]; omega) ?_)
  have no : Ev (fun k => oculusref11_Read.j4 k m (bI b) true (gotN v).1 (gotN v).2) (0, false) := by
    refine Ev.step (fun k => by rw [oculusref11_Read.j4]) ?_
    exact Ev.pos rfl (Ev.now _)
  rw [finL_some]
  by_cases h0 : w = []
  · rw [if_pos (Or.inl (by simp [h0]))]
    exact Ev.pos (by rw [h0]; rfl) no
  · have hw : 0 < w.length := List.length_pos_iff.2 h0
    have he : (w == []) = false := by simpa using h0
    refine Ev.neg (by rw [B_size]; omega) ?_
    by_cases h1 : b = some 0
    · subst h1
      rw [if_pos (Or.inr (Or.inl rfl))]
      exact Ev.pos rfl no
    · refine Ev.neg (by rcases b with _ | b; decide; exact fun hh => h1 (by rw [show b = 0 by exact Int.ofNat.inj hh])) ?_
      by_cases h2 : 4 < b.getD 0
      · rw [if_pos (Or.inr (Or.inr h2)), decide_eq_true (by rcases b with _ | b; exact absurd h2 (by decide); show (b : Int) > 4; have : 4 < b := h2; omega)]
        exact no
      · rw [if_neg (by rw [he]; rintro (h | h | h); cases h; exact h1 h; exact h2 h), decide_eq_false (by rcases b with _ | b; decide; show ¬ (b : Int) > 4; have : ¬ 4 < b := h2; omega)]
        refine Ev.step (fun k => by rw [oculusref11_Read.j4]) (Ev.neg (by decide) ?_)
        have e : mx (bI b) 0 = ((b.getD 0 : Nat) : Int) := by
          rcases b with _ | b
          · rfl
          · show mx (b : Int) 0 = (b : Int)
            unfold mx
            split <;> omega
        rw [e]
        exact rread_l1 (4 - b.getD 0) (b.getD 0) v (by omega)
theorem rread_l0 {m : Bool} {w : List UInt8} (hw : w.length ≤ 1000) (d : Nat) : ∀ (i : Nat) (b : Option Nat) (v : Nat), i + d = w.length → b.getD 0 ≤ i →
    Ev (fun k => oculusref11_Read.l0 k (B w) m (bI b) (i : Int) (gotN v).1 (gotN v).2) (finL (w == []) m (scanL (w.drop i) (decide (0 < i)) b v)) := by
  induction d with
  | zero =>
    intro i b v h _
    rw [List.drop_eq_nil_of_le (by omega), scanL]
    exact rread_end (by omega)
  | succ d ih =>
    intro i b v h hb
    have hi : i < w.length := by omega
    refine Ev.step (fun k => by rw [oculusref11_Read.l0]) (Ev.pos (by rw [B_size]; omega) (Ev.pos (by omega) ?_))
    rw [B_bt hi, List.drop_eq_getElem_cons hi, scanL]
    have hD : oculusref11_Digit.f (B w) (i : Int) = some (isD w[i]) := by rw [rdig_f, isDp_eq, dif_pos hi]
    have hbt : bt (B w) (i : Int) = (w[i].toNat : Int) := B_bt hi
    generalize hc : w[i] = c at *
    have h46 : c = 46 ↔ (c.toNat : Int) = 46 := by
      constructor
      · intro e; subst e; rfl
      · intro e; exact UInt8.toNat_inj.1 (by show c.toNat = 46; omega)
    have nx : ((i : Int) + 1) = ((i + 1 : Nat) : Int) := by omega
    have dgt : ¬ (c = 46 ∧ b = none ∧ decide (0 < i) = true) → Ev (fun k => oculusref11_Read.j3 k (B w) m (bI b) (i : Int) false (gotN v).1 (gotN v).2) (finL (w == []) m (if isD c = true then scanL (w.drop (i + 1)) true (b.map (· + 1)) (v * 10 + (c.toNat - 48)) else none)) := by
      intro _
      refine Ev.step (fun k => by rw [oculusref11_Read.j3]) (Ev.neg (by decide) (Ev.some_bind hD ?_))
      rw [hbt, B_size, w64 (x := (i : Int) + 1) (by omega) (by omega), nx]
      by_cases hd : isD c = true
      · rw [if_pos hd]
        have h48 : 48 ≤ c.toNat ∧ c.toNat ≤ 57 := by unfold isD at hd; simp at hd; exact hd
        refine Ev.pos hd ?_
        rw [w64 (x := (c.toNat : Int)) (by omega) (by omega), w64 (x := (c.toNat : Int) - 48) (by omega) (by omega), show (c.toNat : Int) - 48 = ((c.toNat - 48 : Nat) : Int) by omega]
        have mo := more_ev (v := v) (c := c.toNat - 48) (by omega)
        rcases b with _ | b
        · refine Ev.neg (by decide) (Ev.pos (by omega) (Ev.pos (by omega) (Ev.bind mo ?_)))
          have := ih (i + 1) none (v * 10 + (c.toNat - 48)) (by omega) (Nat.zero_le _)
          rw [decide_eq_true (by omega)] at this
          exact this
        · refine Ev.pos (by show (b : Int) ≥ 0; omega) (Ev.pos (by omega) (Ev.pos (by omega) (Ev.bind mo ?_)))
          have hb2 : b ≤ i := hb
          have := ih (i + 1) (some (b + 1)) (v * 10 + (c.toNat - 48)) (by omega) (show b + 1 ≤ i + 1 by omega)
          rw [decide_eq_true (by omega)] at this
          rw [show wrap64 (bI (some b) + 1) = bI (some (b + 1)) from (w64 (x := (b : Int) + 1) (by omega) (by omega)).trans (by show (b : Int) + 1 = ((b + 1 : Nat) : Int); omega)]
          exact this
      · rw [if_neg hd]
        exact Ev.neg hd (Ev.now _)
    by_cases hp : c = 46
    · refine Ev.pos (h46.1 hp) ?_
      rcases b with _ | b
      · refine Ev.pos (by decide) ?_
        by_cases h0 : 0 < i
        · rw [decide_eq_true (p := (i : Int) > 0) (by omega), if_pos ⟨hp, rfl, decide_eq_true h0⟩]
          refine Ev.step (fun k => by rw [oculusref11_Read.j3]) (Ev.pos rfl ?_)
          rw [w64 (x := (i : Int) + 1) (by omega) (by omega), nx]
          have := ih (i + 1) (some 0) v (by omega) (Nat.zero_le _)
          rw [decide_eq_true (by omega)] at this
          exact this
        · rw [decide_eq_false (p := (i : Int) > 0) (by omega)]
          have hh : ¬ (c = 46 ∧ (none : Option Nat) = none ∧ decide (0 < i) = true) := fun hh => h0 (by simpa using hh.2.2)
          rw [if_neg hh]
          exact dgt hh
      · have hh : ¬ (c = 46 ∧ some b = none ∧ decide (0 < i) = true) := fun hh => by cases hh.2.1
        rw [if_neg hh]
        exact Ev.neg (by show ¬ (b : Int) < 0; omega) (dgt hh)
    · have hh : ¬ (c = 46 ∧ b = none ∧ decide (0 < i) = true) := fun hh => hp hh.1
      rw [if_neg hh]
      exact Ev.neg (fun e => hp (h46.2 e)) (dgt hh)
theorem scan_two : ∀ (t : List UInt8) (st : Bool) (b v : Nat), scanL t st (some b) v = if t.all isD = true then some (some (b + t.length), valL t v) else none
  | [], st, b, v => rfl
  | c :: t, st, b, v => by
    rw [scanL, if_neg (fun hh => by cases hh.2.1)]
    by_cases h : isD c = true
    · rw [if_pos h]
      show scanL t true (some (b + 1)) _ = _
      rw [scan_two t true (b + 1), List.all_cons, h, Bool.true_and, valL, List.length_cons, show b + 1 + t.length = b + (t.length + 1) by omega]
    · rw [if_neg h, List.all_cons, if_neg (by rw [Bool.and_eq_true]; exact fun hh => h hh.1)]
theorem isD46 : isD 46 = false := by decide
theorem scan_one : ∀ (t : List UInt8) (st : Bool) (v : Nat), scanL t st none v =
    if (cutL t).1.all isD = true then (if (cutL t).2.2 = true then (if st = true ∨ (cutL t).1 ≠ [] then (if (cutL t).2.1.all isD = true then some (some (cutL t).2.1.length, valL (cutL t).2.1 (valL (cutL t).1 v)) else none) else none) else some (none, valL (cutL t).1 v)) else none
  | [], st, v => rfl
  | c :: t, st, v => by
    rw [scanL]
    by_cases hc : c = 46
    · subst hc
      have e : cutL (46 :: t) = ([], t, true) := by rw [cutL, if_pos rfl]
      rw [e]
      by_cases hs : st = true
      · rw [if_pos ⟨rfl, rfl, hs⟩, scan_two, Nat.zero_add]
        simp only [List.all_nil, if_true, hs, true_or]
        rfl
      · rw [if_neg (fun hh => hs hh.2.2), isD46]
        simp [hs]
    · have e : cutL (c :: t) = (c :: (cutL t).1, (cutL t).2.1, (cutL t).2.2) := by rw [cutL, if_neg hc]
      rw [if_neg (fun hh => hc hh.1), e]
      dsimp only
      rw [List.all_cons]
      by_cases h : isD c = true
      · rw [if_pos h, h, Bool.true_and]
        show scanL t true none _ = _
        rw [scan_one t true]
        simp only [valL, true_or, if_true, ne_eq, reduceCtorEq, not_false_eq_true, or_true]
      · rw [if_neg h, show isD c = false by simpa using h]
        rfl
theorem tot_eq (a z : List UInt8) (h : z.length ≤ 4) : valL z (valL a 0) * 10 ^ (4 - z.length) = valL a 0 * 10000 + valL z 0 * 10 ^ (4 - z.length) := by
  have key : ∀ (z : List UInt8) (n : Nat), valL z n = n * 10 ^ z.length + valL z 0 := by
    intro z
    induction z with
    | nil => intro n; simp [valL]
    | cons b z ih =>
      intro n
      rw [valL, valL, ih (n * 10 + (b.toNat - 48)), ih (0 * 10 + (b.toNat - 48)), List.length_cons, Nat.pow_succ]
      generalize b.toNat - 48 = c
      generalize 10 ^ z.length = p
      rw [Nat.zero_mul, Nat.zero_add, Nat.add_mul, Nat.add_assoc, Nat.mul_assoc, Nat.mul_comm 10 p]
  rw [key z (valL a 0), Nat.add_mul, Nat.mul_assoc, ← Nat.pow_add, show z.length + (4 - z.length) = 4 by omega]
theorem fin_read {l : List UInt8} (hl : l.length ≤ 40) : finL (bodyL l == []) (minusL l) (scanL (bodyL l) false none 0) = readL l := by
  rw [scan_one]
  have hcl := cut_len (bodyL l)
  have hce : bodyL l = [] → (cutL (bodyL l)).1 = [] := by intro h; rw [h]; rfl
  have hne : (cutL (bodyL l)).1 = [] → (cutL (bodyL l)).2.2 = false → bodyL l = [] := by
    intro h1 h2
    rcases hb : bodyL l with _ | ⟨c, t⟩
    · rfl
    · rw [hb, cutL] at h1 h2
      by_cases hc : c = 46
      · rw [if_pos hc] at h2; cases h2
      · rw [if_neg hc] at h1; cases h1
  unfold readL rightL
  generalize hC : cutL (bodyL l) = C at *
  obtain ⟨a, z, p⟩ := C
  dsimp only at *
  by_cases ha : a.all isD = true
  · rw [if_pos ha]
    cases p with
    | true =>
      rw [if_pos rfl]
      by_cases h0 : a = []
      · rw [if_neg (by simp [h0]), if_neg (fun hh => hh.2.1 h0)]; rfl
      · rw [if_pos (Or.inr h0)]
        have hb0 : (bodyL l == []) = false := by
          have : bodyL l ≠ [] := fun h => h0 (hce h)
          simpa using this
        by_cases hz : z.all isD = true
        · rw [if_pos hz]
          rw [finL_some]
          by_cases hz0 : z = []
          · rw [if_pos (Or.inr (Or.inl (by rw [hz0]; rfl))), if_neg (fun hh => (hh.2.2.2.1 rfl).1 hz0)]
          · by_cases h4 : z.length ≤ 4
            · rw [if_neg (by
                rw [hb0]
                rintro (h | h | h)
                · cases h
                · exact hz0 (List.length_eq_zero_iff.1 (Option.some.inj h))
                · have : 4 < z.length := h
                  omega)]
              show finN (minusL l) (valL z (valL a 0) * 10 ^ (4 - z.length)) = _
              rw [tot_eq a z h4]
              unfold finN totL
              dsimp only
              by_cases hm : ((valL a 0 * 10000 + valL z 0 * 10 ^ (4 - z.length) : Nat) : Int) ≤ 9223372036854775807
              · exact (if_pos hm).trans (if_pos ⟨hl, h0, ha, fun _ => ⟨hz0, hz, h4⟩, hm⟩).symm
              · rw [if_neg hm, if_neg (fun hh => hm hh.2.2.2.2)]
            · rw [if_pos (Or.inr (Or.inr (by show 4 < z.length; omega))), if_neg (fun hh => h4 (hh.2.2.2.1 rfl).2.2)]
        · rw [if_neg hz, if_neg (fun hh => hz (hh.2.2.2.1 rfl).2.1)]; rfl
    | false =>
      rw [if_neg (by decide)]
      obtain rfl := hcl.2.2 rfl
      rw [finL_some]
      by_cases h0 : a = []
      · rw [if_pos (Or.inl (by rw [hne h0 rfl]; rfl)), if_neg (fun hh => hh.2.1 h0)]
      · have hb0 : (bodyL l == []) = false := by
          have : bodyL l ≠ [] := fun h => h0 (hce h)
          simpa using this
        rw [if_neg (by rw [hb0]; rintro (h | h | h) <;> first | cases h | exact absurd h (by decide))]
        show finN (minusL l) (valL a 0 * 10 ^ 4) = _
        have e : totL (a, ([] : List UInt8), false) = valL a 0 * 10 ^ 4 := by unfold totL; simp [valL]
        unfold finN
        rw [← e]
        by_cases hm : ((totL (a, ([] : List UInt8), false) : Nat) : Int) ≤ 9223372036854775807
        · exact (if_pos hm).trans (if_pos ⟨hl, h0, ha, (fun h => absurd h (by decide)), hm⟩).symm
        · rw [if_neg hm, if_neg (fun hh => hm hh.2.2.2.2)]
  · rw [if_neg ha, if_neg (fun hh => ha hh.2.2.1)]; rfl
theorem minus_eq (b : UInt8) (l : List UInt8) : minusL (b :: l) = ((b.toNat : Int) == 45) ∧ bodyL (b :: l) = if ((b.toNat : Int) == 45) = true then l else b :: l := by
  by_cases h : b = 45
  · subst h
    exact body_minus l
  · have hm : minusL (b :: l) = false := by
      unfold minusL
      simp [Lib.hasPrefix, List.isPrefixOf, Ne.symm h]
    have he : ((b.toNat : Int) == 45) = false := beq_eq_false_iff_ne.mpr (fun e => h (UInt8.toNat_inj.1 (by show b.toNat = 45; omega)))
    rw [hm, he]
    refine ⟨rfl, ?_⟩
    unfold bodyL Lib.trimPrefix
    rw [show Lib.hasPrefix (b :: l) [45] = false from hm]; rfl
theorem rread_ev (l : List UInt8) : Ev (fun k => oculusref11_Read.f k (B l)) (readL l) := by
  refine Ev.congr (fun k => by rw [oculusref11_Read.f]) ?_
  rw [B_size]
  by_cases h40 : (l.length : Int) > 40
  · rw [show readL l = (0, false) from if_neg (fun hh => by omega)]
    exact Ev.pos h40 (Ev.now _)
  · refine Ev.neg h40 ?_
    rw [← fin_read (l := l) (by omega)]
    have hb := body_len l
    have main := rread_l0 (m := minusL l) (w := bodyL l) (by omega) (bodyL l).length 0 none 0 (Nat.zero_add _) (Nat.zero_le _)
    rw [List.drop_zero] at main
    rcases l with _ | ⟨b, l⟩
    · refine Ev.neg (by decide) (Ev.step (fun k => by rw [oculusref11_Read.j0]) (Ev.neg (by decide) (Ev.step (fun k => by rw [oculusref11_Read.j1]) ?_)))
      exact main
    · obtain ⟨e1, e2⟩ := minus_eq b l
      rw [List.length_cons] at h40
      refine Ev.pos (by rw [List.length_cons]; omega) (Ev.pos (by rw [List.length_cons]; omega) ?_)
      have h0 : bt (B (b :: l)) 0 = (b.toNat : Int) := B_bt (l := b :: l) (i := 0) (by simp)
      rw [h0]
      rw [e1, e2] at main
      rw [e1, e2]
      refine Ev.step (fun k => by rw [oculusref11_Read.j0]) ?_
      by_cases hm : ((b.toNat : Int) == 45) = true
      · rw [if_pos hm] at main ⊢
        refine Ev.pos hm (Ev.pos (by rw [B_size, List.length_cons]; omega) (Ev.step (fun k => by rw [oculusref11_Read.j1]) ?_))
        rw [B_extract, B_size, show (List.take ((b :: l).length - 1) (List.drop 1 (b :: l))) = l by simp]
        exact main
      · rw [if_neg hm] at main ⊢
        refine Ev.neg hm (Ev.step (fun k => by rw [oculusref11_Read.j1]) ?_)
        exact main
end Go.Proofs.YtcfhllbobapaiaaDoor.Q

namespace Go.Proofs.YtcfhllbobapaiaaDoor.Q
open Go Go.RowKit Go.Proofs.YtcfhllbobapaiaaDoor.PA Go.Proofs.YtcfhllbobapaiaaDoorW.PrintWords Go.Proofs.YtcfhllbobapaiaaDoorW.PrintLast Go.Proofs.YtcfhllbobapaiaaDoorW.PrintMore
set_option linter.unusedVariables false
set_option linter.unusedSimpArgs false
theorem take_ext (l : List UInt8) (n : Nat) : (B l).extract 0 ((n : Int)).toNat = B (l.take n) := by
  rw [B_extract, Int.toNat_natCast, List.drop_zero, Nat.sub_zero]
def leadR (l : List UInt8) (n : Nat) : Int × Int × Bool := if (readL (l.take n)).2 = true then ((readL (l.take n)).1, (n : Int), true) else (0, 0, false)
theorem take_len (l : List UInt8) (n : Nat) : (l.take n).length ≤ l.length := by rw [List.length_take]; omega
theorem lead_l1 {l : List UInt8} (hl : l.length ≤ 1000000) {n : Nat} (hn : n < l.length) (d : Nat) : ∀ e : Nat, e + d = n + 5 → e ≤ l.length →
    Ev (fun k => digits_Lead.l1 k (B l) (n : Int) (e : Int)) (leadR l (e + runD d (l.drop e))) := by
  have fin : ∀ e : Nat, e ≤ l.length → Ev (fun k => if 0 ≤ (e : Int) then (if (e : Int) ≤ ((B l).size : Int) then ((digits_Read.f k ((B l).extract 0 ((e : Int)).toNat)).bind fun bt => (if bt.2 = true then (some (bt.1, (e : Int), true)) else (some (0, 0, false)))) else none) else none) (leadR l e) := by
    intro e he
    refine Ev.pos (by omega) (Ev.pos (by rw [B_size]; omega) ?_)
    rw [take_ext]
    have := take_len l e
    refine Ev.bind (read_ev (by omega)) ?_
    unfold leadR
    refine Ev.ite (fun h => ?_) (fun h => ?_)
    · rw [if_pos h]; exact Ev.now _
    · rw [if_neg h]; exact Ev.now _
  induction d with
  | zero =>
    intro e h he
    refine Ev.step (fun k => by rw [digits_Lead.l1]) (Ev.neg (by rw [w64 (x := (n : Int) + 4) (by omega) (by omega)]; omega) ?_)
    exact fin e he
  | succ d ih =>
    intro e h he
    refine Ev.step (fun k => by rw [digits_Lead.l1]) (Ev.pos (by rw [w64 (x := (n : Int) + 4) (by omega) (by omega)]; omega) (Ev.some_bind (dig_f l e) ?_))
    rw [runD_step]
    refine Ev.ite (fun hd => ?_) (fun hd => ?_)
    · rw [if_pos hd, w64 (x := (e : Int) + 1) (by omega) (by omega), show (e : Int) + 1 = ((e + 1 : Nat) : Int) by omega]
      have h1 : e < l.length := by
        rw [isDp_eq] at hd
        by_cases h3 : e < l.length
        · exact h3
        · rw [dif_neg h3] at hd; cases hd
      have := ih (e + 1) (by omega) (by omega)
      rw [← Nat.add_assoc]
      exact this
    · rw [if_neg hd]
      exact fin e he
theorem rlead_l1 {l : List UInt8} (hl : l.length ≤ 1000000) {n : Nat} (hn : n < l.length) (d : Nat) : ∀ e : Nat, e + d = 5 → n + e ≤ l.length →
    Ev (fun k => oculusref11_Lead.l1 k (B l) (n : Int) (e : Int)) (leadR l (n + e + runD d (l.drop (n + e)))) := by
  have fin : ∀ e : Nat, e ≤ l.length → Ev (fun k => if 0 ≤ (e : Int) then (if (e : Int) ≤ ((B l).size : Int) then ((oculusref11_Read.f k ((B l).extract 0 ((e : Int)).toNat)).bind fun bt => (if bt.2 = true then (some (bt.1, (e : Int), true)) else (some (0, 0, false)))) else none) else none) (leadR l e) := by
    intro e he
    refine Ev.pos (by omega) (Ev.pos (by rw [B_size]; omega) ?_)
    rw [take_ext]
    refine Ev.bind (rread_ev _) ?_
    unfold leadR
    refine Ev.ite (fun h => ?_) (fun h => ?_)
    · rw [if_pos h]; exact Ev.now _
    · rw [if_neg h]; exact Ev.now _
  induction d with
  | zero =>
    intro e h he
    refine Ev.step (fun k => by rw [oculusref11_Lead.l1]) (Ev.neg (by omega) ?_)
    rw [w64 (x := (n : Int) + (e : Int)) (by omega) (by omega), show (n : Int) + (e : Int) = ((n + e : Nat) : Int) by omega]
    exact fin (n + e) he
  | succ d ih =>
    intro e h he
    refine Ev.step (fun k => by rw [oculusref11_Lead.l1]) (Ev.pos (by omega) ?_)
    rw [w64 (x := (n : Int) + (e : Int)) (by omega) (by omega), show (n : Int) + (e : Int) = ((n + e : Nat) : Int) by omega]
    refine Ev.some_bind (rdig_f l (n + e)) ?_
    rw [runD_step]
    refine Ev.ite (fun hd => ?_) (fun hd => ?_)
    · rw [if_pos hd, w64 (x := (e : Int) + 1) (by omega) (by omega), show (e : Int) + 1 = ((e + 1 : Nat) : Int) by omega]
      have h1 : n + e < l.length := by
        rw [isDp_eq] at hd
        by_cases h3 : n + e < l.length
        · exact h3
        · rw [dif_neg h3] at hd; cases hd
      have := ih (e + 1) (by omega) (by omega)
      rw [← Nat.add_assoc (n + e)]
      exact this
    · rw [if_neg hd]
      exact fin (n + e) he
theorem head_46 (l : List UInt8) (n : Nat) : ((l.drop n).head? = some 46) ↔ ∃ h : n < l.length, (l[n].toNat : Int) = 46 := by
  by_cases h : n < l.length
  · rw [List.drop_eq_getElem_cons h]
    constructor
    · intro e
      have e2 : l[n] = 46 := Option.some.inj e
      exact ⟨h, by rw [e2]; rfl⟩
    · rintro ⟨_, e⟩
      have : l[n] = 46 := UInt8.toNat_inj.1 (by show l[n].toNat = 46; omega)
      rw [this]; rfl
  · rw [List.drop_eq_nil_of_le (by omega)]
    constructor
    · intro e; cases e
    · rintro ⟨h2, _⟩; exact absurd h2 h
def leadN (l : List UInt8) (n : Nat) : Nat := if 0 < n ∧ (l.drop n).head? = some 46 ∧ isDp l (n + 1) = true then n + 1 + runD 4 (l.drop (n + 1)) else n
theorem dp_lt {l : List UInt8} {i : Nat} (h : isDp l i = true) : i < l.length := by
  rw [isDp_eq] at h
  by_cases h3 : i < l.length
  · exact h3
  · rw [dif_neg h3] at h; cases h
theorem lead_j1 {l : List UInt8} (hl : l.length ≤ 1000000) {n : Nat} (hn : n ≤ l.length) : Ev (fun k => digits_Lead.j1 k (B l) (n : Int)) (leadR l (leadN l n)) := by
  have two : ∀ b : Bool, (b = true → isDp l (n + 1) = true) → Ev (fun k => digits_Lead.j2 k (B l) (n : Int) b) (leadR l (if b = true then n + 1 + runD 4 (l.drop (n + 1)) else n)) := by
    intro b hb
    refine Ev.step (fun k => by rw [digits_Lead.j2]) (Ev.ite (fun h => ?_) (fun h => ?_))
    · have h1 := dp_lt (hb h)
      rw [if_pos h, w64 (x := (n : Int) + 1) (by omega) (by omega), show (n : Int) + 1 = ((n + 1 : Nat) : Int) by omega]
      exact lead_l1 hl (by omega) 4 (n + 1) (by omega) (by omega)
    · rw [if_neg h]
      refine Ev.pos (by omega) (Ev.pos (by rw [B_size]; omega) ?_)
      rw [take_ext]
      have := take_len l n
      refine Ev.bind (read_ev (by omega)) ?_
      unfold leadR
      refine Ev.ite (fun h => ?_) (fun h => ?_)
      · rw [if_pos h]; exact Ev.now _
      · rw [if_neg h]; exact Ev.now _
  have no := two false (fun h => by cases h)
  rw [if_neg (by decide)] at no
  refine Ev.step (fun k => by rw [digits_Lead.j1]) ?_
  unfold leadN
  by_cases h0 : 0 < n
  · refine Ev.pos (by omega) ?_
    by_cases h1 : n < l.length
    · refine Ev.pos (by rw [B_size]; omega) (Ev.pos (by omega) ?_)
      rw [B_bt h1]
      by_cases h2 : (l[n].toNat : Int) = 46
      · refine Ev.pos h2 ?_
        rw [w64 (x := (n : Int) + 1) (by omega) (by omega), show (n : Int) + 1 = ((n + 1 : Nat) : Int) by omega]
        refine Ev.some_bind (dig_f l (n + 1)) ?_
        have t := two (isDp l (n + 1)) id
        by_cases h3 : isDp l (n + 1) = true
        · rw [if_pos ⟨h0, (head_46 l n).2 ⟨h1, h2⟩, h3⟩]
          rw [if_pos h3] at t
          exact t
        · rw [if_neg (fun hh => h3 hh.2.2)]
          rw [if_neg h3] at t
          exact t
      · rw [if_neg (fun hh => by obtain ⟨_, e⟩ := (head_46 l n).1 hh.2.1; exact h2 e)]
        exact Ev.neg h2 no
    · rw [if_neg (fun hh => by obtain ⟨h2, _⟩ := (head_46 l n).1 hh.2.1; exact h1 h2)]
      exact Ev.neg (by rw [B_size]; omega) no
  · rw [if_neg (fun hh => h0 hh.1)]
    exact Ev.neg (by omega) no
theorem rlead_j1 {l : List UInt8} (hl : l.length ≤ 1000000) {n : Nat} (hn : n ≤ l.length) : Ev (fun k => oculusref11_Lead.j1 k (B l) (n : Int)) (leadR l (leadN l n)) := by
  have two : ∀ b : Bool, (b = true → isDp l (n + 1) = true) → Ev (fun k => oculusref11_Lead.j2 k (B l) (n : Int) b) (leadR l (if b = true then n + 1 + runD 4 (l.drop (n + 1)) else n)) := by
    intro b hb
    refine Ev.step (fun k => by rw [oculusref11_Lead.j2]) (Ev.ite (fun h => ?_) (fun h => ?_))
    · have h1 := dp_lt (hb h)
      rw [if_pos h]
      exact rlead_l1 hl (by omega) 4 1 (by omega) (by omega)
    · rw [if_neg h]
      refine Ev.pos (by omega) (Ev.pos (by rw [B_size]; omega) ?_)
      rw [take_ext]
      refine Ev.bind (rread_ev _) ?_
      unfold leadR
      refine Ev.ite (fun h => ?_) (fun h => ?_)
      · rw [if_pos h]; exact Ev.now _
      · rw [if_neg h]; exact Ev.now _
  have no := two false (fun h => by cases h)
  rw [if_neg (by decide)] at no
  refine Ev.step (fun k => by rw [oculusref11_Lead.j1]) ?_
  unfold leadN
  by_cases h0 : 0 < n
  · refine Ev.pos (by omega) ?_
    by_cases h1 : n < l.length
    · refine Ev.pos (by rw [B_size]; omega) (Ev.pos (by omega) ?_)
      rw [B_bt h1]
      by_cases h2 : (l[n].toNat : Int) = 46
      · refine Ev.pos h2 ?_
        rw [w64 (x := (n : Int) + 1) (by omega) (by omega), show (n : Int) + 1 = ((n + 1 : Nat) : Int) by omega]
        refine Ev.some_bind (rdig_f l (n + 1)) ?_
        have t := two (isDp l (n + 1)) id
        by_cases h3 : isDp l (n + 1) = true
        · rw [if_pos ⟨h0, (head_46 l n).2 ⟨h1, h2⟩, h3⟩]
          rw [if_pos h3] at t
          exact t
        · rw [if_neg (fun hh => h3 hh.2.2)]
          rw [if_neg h3] at t
          exact t
      · rw [if_neg (fun hh => by obtain ⟨_, e⟩ := (head_46 l n).1 hh.2.1; exact h2 e)]
        exact Ev.neg h2 no
    · rw [if_neg (fun hh => by obtain ⟨h2, _⟩ := (head_46 l n).1 hh.2.1; exact h1 h2)]
      exact Ev.neg (by rw [B_size]; omega) no
  · rw [if_neg (fun hh => h0 hh.1)]
    exact Ev.neg (by omega) no
theorem lead_l0 {l : List UInt8} (hl : l.length ≤ 1000000) (d : Nat) : ∀ i : Nat, i + d = 30 → i ≤ l.length → Ev (fun k => digits_Lead.l0 k (B l) (i : Int)) (leadR l (leadN l (i + runD d (l.drop i)))) := by
  induction d with
  | zero =>
    intro i h hi
    refine Ev.step (fun k => by rw [digits_Lead.l0]) (Ev.neg (by omega) ?_)
    exact lead_j1 hl hi
  | succ d ih =>
    intro i h hi
    refine Ev.step (fun k => by rw [digits_Lead.l0]) (Ev.pos (by omega) (Ev.some_bind (dig_f l i) ?_))
    rw [runD_step]
    refine Ev.ite (fun hd => ?_) (fun hd => ?_)
    · have h1 := dp_lt hd
      rw [if_pos hd, w64 (x := (i : Int) + 1) (by omega) (by omega), show (i : Int) + 1 = ((i + 1 : Nat) : Int) by omega, ← Nat.add_assoc]
      exact ih (i + 1) (by omega) (by omega)
    · rw [if_neg hd]
      exact lead_j1 hl hi
theorem rlead_l0 {l : List UInt8} (hl : l.length ≤ 1000000) (d : Nat) : ∀ i : Nat, i + d = 30 → i ≤ l.length → Ev (fun k => oculusref11_Lead.l0 k (B l) (i : Int)) (leadR l (leadN l (i + runD d (l.drop i)))) := by
  induction d with
  | zero =>
    intro i h hi
    refine Ev.step (fun k => by rw [oculusref11_Lead.l0]) (Ev.neg (by omega) ?_)
    exact rlead_j1 hl hi
  | succ d ih =>
    intro i h hi
    refine Ev.step (fun k => by rw [oculusref11_Lead.l0]) (Ev.pos (by omega) (Ev.some_bind (rdig_f l i) ?_))
    rw [runD_step]
    refine Ev.ite (fun hd => ?_) (fun hd => ?_)
    · have h1 := dp_lt hd
      rw [if_pos hd, w64 (x := (i : Int) + 1) (by omega) (by omega), show (i : Int) + 1 = ((i + 1 : Nat) : Int) by omega, ← Nat.add_assoc]
      exact ih (i + 1) (by omega) (by omega)
    · rw [if_neg hd]
      exact rlead_j1 hl hi
theorem lead_ev {l : List UInt8} (hl : l.length ≤ 1000000) : Ev (fun k => digits_Lead.f k (B l)) (leadL l) := by
  have := lead_l0 hl 30 0 rfl (Nat.zero_le _)
  rw [Nat.zero_add, List.drop_zero] at this
  exact this
theorem rlead_ev {l : List UInt8} (hl : l.length ≤ 1000000) : Ev (fun k => oculusref11_Lead.f k (B l)) (leadL l) := by
  have := rlead_l0 hl 30 0 rfl (Nat.zero_le _)
  rw [Nat.zero_add, List.drop_zero] at this
  exact this
end Go.Proofs.YtcfhllbobapaiaaDoor.Q

namespace Go.Proofs.YtcfhllbobapaiaaDoor.Q
open Go Go.RowKit Go.Proofs.YtcfhllbobapaiaaDoor.PA Go.Proofs.YtcfhllbobapaiaaDoorW.PrintWords Go.Proofs.YtcfhllbobapaiaaDoorW.PrintLast Go.Proofs.YtcfhllbobapaiaaDoorW.PrintMore
set_option linter.unusedVariables false
set_option linter.unusedSimpArgs false
theorem texS_yes {x : Int} (h : May x) : texS x = texL x := if_pos h
theorem tex_a : texS (-125000) = [45, 49, 50, 46, 53] := by
  rw [texS_yes (by unfold May; omega)]
  unfold texL
  rw [show (-125000 : Int).natAbs / 10000 = 12 by decide, show (-125000 : Int).natAbs % 10000 = 5000 by decide, dd_big (by decide), dd_small (by decide)]
  decide
theorem tex_b : texS 15000 = [49, 46, 53] := by
  rw [texS_yes (by unfold May; omega)]
  unfold texL
  rw [show (15000 : Int).natAbs / 10000 = 1 by decide, show (15000 : Int).natAbs % 10000 = 5000 by decide, dd_small (by decide)]
  decide
theorem tex_c : texS (-1) = [45, 48, 46, 48, 48, 48, 49] := by
  rw [texS_yes (by unfold May; omega)]
  unfold texL
  rw [show (-1 : Int).natAbs / 10000 = 0 by decide, show (-1 : Int).natAbs % 10000 = 1 by decide, dd_small (by decide)]
  decide
theorem parse_a : parseL [45, 49, 50, 46, 53] = (-125000, true) := by
  have := parse_texS (x := -125000) (by unfold I64; omega)
  rw [tex_a, if_pos (by unfold May; omega)] at this
  exact this
theorem parse_b : parseL [49, 46, 53, 48] = (0, false) := by
  have e : readL [49, 46, 53, 48] = (15000, true) := by decide
  unfold parseL
  rw [e, tex_b]
  decide
theorem lead_a : leadL [48, 48, 55, 46, 53, 48, 43, 49] = (75000, 6, true) := by decide
theorem alive11 : Ev (fun k => oculuslaw11_alive.f k) true := by
  refine Ev.congr (fun k => by rw [oculuslaw11_alive.f]) ?_
  have a := parse_ev (l := [45, 49, 50, 46, 53]) (by decide)
  rw [parse_a] at a
  have b := lead_ev (l := [48, 48, 55, 46, 53, 48, 43, 49]) (by decide)
  rw [lead_a] at b
  have c := parse_ev (l := [49, 46, 53, 48]) (by decide)
  rw [parse_b] at c
  have d := text_ev (x := -1) (by unfold I64; omega)
  rw [tex_c] at d
  refine Ev.bind a (Ev.bind b (Ev.bind c (Ev.pos rfl (Ev.pos rfl (Ev.neg (by decide) (Ev.pos rfl (Ev.pos rfl (Ev.pos rfl (Ev.bind d ?_)))))))))
  rw [B_toList]
  exact Ev.now _
end Go.Proofs.YtcfhllbobapaiaaDoor.Q

namespace Go.Proofs.YtcfhllbobapaiaaDoor.Pure
open Go Go.RowKit Go.Proofs.YtcfhllbobapaiaaDoor.PA Go.Proofs.YtcfhllbobapaiaaDoor.Q Go.Proofs.YtcfhllbobapaiaaDoorW.PrintWords Go.Proofs.YtcfhllbobapaiaaDoorW.PrintLast Go.Proofs.YtcfhllbobapaiaaDoorW.PrintMore
set_option linter.unusedVariables false
set_option linter.unusedSimpArgs false
theorem run_all : ∀ (w t : List UInt8) (m : Nat), w.all isD = true → w.length < m → (∀ c, t.head? = some c → isD c = false) → runD m (w ++ t) = w.length
  | [], t, 0, _, h, _ => by omega
  | [], t, m + 1, _, _, h => by
    rcases t with _ | ⟨c, t⟩
    · rfl
    · rw [List.nil_append, runD, if_neg (by rw [h c rfl]; decide)]; rfl
  | b :: w, t, 0, _, h, _ => by simp at h
  | b :: w, t, m + 1, hw, h, ht => by
    rw [List.all_cons, Bool.and_eq_true] at hw
    rw [List.length_cons] at h
    rw [List.cons_append, runD, if_pos hw.1, run_all w t m hw.2 (by omega) ht, List.length_cons]
    omega
theorem drop_len (w t : List UInt8) : (w ++ t).drop w.length = t := by simp
theorem lead_str {w f : List UInt8} (h : w.all isD = true) (h0 : w ≠ []) (hf : f.all isD = true) (hl : f.length ≤ 4) (hw : w.length ≤ 29) : leadn (strD w f ++ [97]) = (strD w f).length := by
  have hw0 : 0 < w.length := List.length_pos_iff.2 h0
  have e : strD w f ++ [97] = w ++ ((if f = [] then [] else 46 :: f) ++ [97]) := by unfold strD; rw [List.append_assoc]
  have r1 : runD 30 (strD w f ++ [97]) = w.length := by
    rw [e]
    refine run_all _ _ 30 h (by omega) ?_
    intro c hc
    by_cases hf0 : f = []
    · rw [if_pos hf0] at hc
      obtain rfl : 97 = c := Option.some.inj hc
      decide
    · rw [if_neg hf0] at hc
      obtain rfl : 46 = c := Option.some.inj hc
      decide
  unfold leadn
  rw [r1]
  dsimp only
  by_cases hf0 : f = []
  · rw [if_neg (fun hh => by
      have := hh.2.1
      rw [e, drop_len, if_pos hf0] at this
      exact absurd this (by decide))]
    unfold strD
    rw [if_pos hf0, List.append_nil]
  · have e2 : (strD w f ++ [97]).drop (w.length + 1) = f ++ [97] := by
      rw [e, if_neg hf0, ← List.drop_drop, drop_len]; rfl
    have e3 : isDp (strD w f ++ [97]) (w.length + 1) = true := by
      unfold isDp
      rw [e2]
      rcases f with _ | ⟨c, f⟩
      · exact absurd rfl hf0
      · rw [List.all_cons, Bool.and_eq_true] at hf
        exact hf.1
    rw [if_pos ⟨hw0, by rw [e, drop_len, if_neg hf0]; rfl, e3⟩, e2]
    have r2 : runD 4 (f ++ [97]) = f.length := by
      by_cases h4 : f.length = 4
      · obtain ⟨a, b, c, d, rfl⟩ : ∃ a b c d, f = [a, b, c, d] := by
          match f, h4 with
          | [a, b, c, d], _ => exact ⟨a, b, c, d, rfl⟩
        simp only [List.all_cons, List.all_nil, Bool.and_eq_true, Bool.and_true] at hf
        obtain ⟨ha, hb, hc, hd⟩ := hf
        simp [runD, ha, hb, hc, hd]
      · refine run_all _ _ 4 hf (by omega) ?_
        intro c hc
        obtain rfl : 97 = c := Option.some.inj hc
        decide
    rw [r2]
    unfold strD
    rw [if_neg hf0, List.length_append, List.length_cons]
    omega
theorem lead_val {w f : List UInt8} (h : w.all isD = true) (h0 : w ≠ []) (hf : f.all isD = true) (hl : f.length ≤ 4) (hw : w.length ≤ 29) {t : Nat} (ht : valL w 0 * 10000 + valL f 0 * 10 ^ (4 - f.length) = t) (hm : (t : Int) ≤ 9223372036854775807) :
    leadL (strD w f ++ [97]) = ((t : Int), ((strD w f).length : Int), true) := by
  unfold leadL
  rw [lead_str h h0 hf hl hw, List.take_left, (read_str h h0 hf hl (by omega) ht hm).1]
  rfl
theorem val_nought : ∀ (n : Nat) (w : List UInt8), valL (List.replicate n 48 ++ w) 0 = valL w 0
  | 0, w => rfl
  | n + 1, w => by
    rw [List.replicate_succ, List.cons_append, valL]
    exact val_nought n w
theorem all_nought (n : Nat) (w : List UInt8) (h : w.all isD = true) : (List.replicate n 48 ++ w).all isD = true := by
  rw [List.all_append, h, Bool.and_true, List.all_eq_true]
  intro c hc
  rw [List.eq_of_mem_replicate hc]
  decide
theorem back_nought {x : Nat} (h : x % 10000 = 0) : x / 10000 * 10000 + 0 = x := by omega
theorem noughts_l0 {x : Nat} (hx : (x : Int) ≤ 9223372036854775807) {m : Nat} (hm : m ≤ 10) (d : Nat) : ∀ i : Nat, i + d = m →
    Ev (fun k => oculuslaw11_DigitsNoughts.l0 k (x : Int) (B (strD (List.replicate i 48 ++ Lib.decDigits (x / 10000)) (fracL 4 (x % 10000)))) (m : Int) (i : Int)) true := by
  have hd15 : (Lib.decDigits (x / 10000)).length ≤ 15 := dd_len 14 _ (by omega)
  have hf4 := frac_len 4 (x % 10000)
  have hfa := frac_all 4 (x % 10000) (by omega)
  induction d with
  | zero =>
    intro i h
    obtain rfl : i = m := by omega
    have hwl : (List.replicate i 48 ++ Lib.decDigits (x / 10000) : List UInt8).length ≤ 25 := by rw [List.length_append, List.length_replicate]; omega
    have hwa := all_nought i _ (dd_all (x / 10000))
    have hw0 : (List.replicate i 48 ++ Lib.decDigits (x / 10000) : List UInt8) ≠ [] := by
      intro hh
      exact dd_ne _ (List.append_eq_nil_iff.1 hh).2
    have hwv : valL (List.replicate i 48 ++ Lib.decDigits (x / 10000)) 0 = x / 10000 := by rw [val_nought, dd_val]
    have htot : valL (List.replicate i 48 ++ Lib.decDigits (x / 10000)) 0 * 10000 + valL (fracL 4 (x % 10000)) 0 * 10 ^ (4 - (fracL 4 (x % 10000)).length) = x := by
      rw [val_nought]; exact tex_tot x
    generalize (List.replicate i 48 ++ Lib.decDigits (x / 10000) : List UInt8) = w at *
    obtain ⟨r1, r2⟩ := read_str hwa hw0 hfa hf4 (by omega) htot hx
    have hsl : (strD w (fracL 4 (x % 10000))).length ≤ 30 := by
      unfold strD
      rw [List.length_append]
      split
      · simp; omega
      · rw [List.length_cons]; omega
    refine Ev.step (fun k => by rw [oculuslaw11_DigitsNoughts.l0]) (Ev.neg (by omega) ?_)
    have a := read_ev (l := strD w (fracL 4 (x % 10000))) (by omega)
    have b := read_ev (l := 45 :: strD w (fracL 4 (x % 10000))) (by rw [List.length_cons]; omega)
    rw [r1] at a
    rw [r2] at b
    rw [show (⟨#[45]⟩ : ByteArray) = B [45] from rfl, B_append, B_size]
    refine Ev.bind a (Ev.pos (by omega) (Ev.bind b (Ev.pos rfl (Ev.pos rfl (Ev.pos rfl (Ev.pos (by rw [w64 (by omega) (by omega)]) ?_))))))
    have hmod : Int.tmod (x : Int) 10000 = ((x % 10000 : Nat) : Int) := by rw [Int.tmod_eq_emod_of_nonneg (by omega)]; omega
    rw [hmod]
    by_cases hz : x % 10000 = 0
    · rw [hz] at hsl ⊢
      have ef : fracL 4 0 = [] := rfl
      rw [ef] at hsl ⊢
      refine Ev.pos rfl (Ev.pos (by omega) ?_)
      have e1 : B (strD w []) ++ (⟨#[46, 48, 48, 48, 48]⟩ : ByteArray) = B (strD w [48, 48, 48, 48]) := by
        rw [show (⟨#[46, 48, 48, 48, 48]⟩ : ByteArray) = B [46, 48, 48, 48, 48] from rfl, B_append]
        unfold strD
        simp
      have hv0 : valL [48, 48, 48, 48] 0 = 0 := by decide
      have hx0 : x / 10000 * 10000 + 0 = x := back_nought hz
      have htot2 : valL w 0 * 10000 + valL [48, 48, 48, 48] 0 * 10 ^ (4 - [48, 48, 48, 48].length) = x := by
        rw [hwv, hv0, Nat.zero_mul]
        exact hx0
      clear hv0 hx0
      obtain ⟨q1, _⟩ := read_str hwa hw0 (f := [48, 48, 48, 48]) (by decide) (by decide) (by omega) htot2 hx
      have q2 := lead_val hwa hw0 (f := [48, 48, 48, 48]) (by decide) (by decide) (by omega) htot2 hx
      have hsl2 : (strD w [48, 48, 48, 48]).length ≤ 40 := by
        unfold strD
        rw [List.length_append]
        simp
        omega
      have c := read_ev (l := strD w [48, 48, 48, 48]) (by omega)
      have e := lead_ev (l := strD w [48, 48, 48, 48] ++ [97]) (by rw [List.length_append]; simp; omega)
      rw [q1] at c
      rw [q2] at e
      rw [e1, show (⟨#[97]⟩ : ByteArray) = B [97] from rfl, B_append, B_size]
      exact Ev.bind c (Ev.pos (by omega) (Ev.bind e (Ev.pos rfl (Ev.pos rfl (Ev.pos rfl (Ev.pos rfl (Ev.pos rfl (Ev.bind alive11 (Ev.now _)))))))))
    · have q2 := lead_val hwa hw0 hfa hf4 (by omega) htot hx
      have e := lead_ev (l := strD w (fracL 4 (x % 10000)) ++ [97]) (by rw [List.length_append]; simp; omega)
      rw [q2] at e
      rw [show (⟨#[97]⟩ : ByteArray) = B [97] from rfl, B_append]
      exact Ev.neg (by omega) (Ev.bind a (Ev.pos (by omega) (Ev.bind e (Ev.pos rfl (Ev.pos rfl (Ev.pos rfl (Ev.pos rfl (Ev.pos rfl (Ev.bind alive11 (Ev.now _))))))))))
  | succ d ih =>
    intro i h
    have hsl : (strD (List.replicate i 48 ++ Lib.decDigits (x / 10000)) (fracL 4 (x % 10000))).length ≤ 40 := by
      unfold strD
      rw [List.length_append, List.length_append, List.length_replicate]
      split
      · simp; omega
      · rw [List.length_cons]; omega
    refine Ev.step (fun k => by rw [oculuslaw11_DigitsNoughts.l0]) (Ev.pos (by omega) (Ev.pos (by rw [B_size]; omega) ?_))
    rw [show (⟨#[48]⟩ : ByteArray) = B [48] from rfl, B_append, show ((i : Int) + 1) % 256 = ((i + 1 : Nat) : Int) by omega]
    have := ih (i + 1) (by omega)
    rw [List.replicate_succ, List.cons_append] at this
    exact this
theorem DigitsNoughts : oculuslaw11_DigitsNoughts.Pure := by
  intro x a hx ha
  have hi : I64 x := i64_of_wf hx
  suffices h : Ev (fun k => oculuslaw11_DigitsNoughts.f k x a) true by exact h.rounds
  refine Ev.congr (fun k => by rw [oculuslaw11_DigitsNoughts.f]) ?_
  by_cases h0 : x < 0
  · exact Ev.pos h0 (Ev.bind alive11 (Ev.now _))
  · refine Ev.neg h0 (Ev.bind (text_ev hi) ?_)
    have hm : May x := by unfold May; unfold I64 at hi; omega
    have ha2 : 0 ≤ a ∧ a ≤ 255 := by
      simp [Lit.wf, IntKind.min, IntKind.max, IntKind.bits, IntKind.signed] at ha
      omega
    obtain ⟨n, rfl⟩ : ∃ n : Nat, x = n := ⟨x.toNat, by omega⟩
    obtain ⟨b, rfl⟩ : ∃ b : Nat, a = b := ⟨a.toNat, by omega⟩
    have e : texS (n : Int) = strD (List.replicate 0 48 ++ Lib.decDigits (n / 10000)) (fracL 4 (n % 10000)) := by
      rw [texS_yes hm, tex_str, if_neg h0, Int.natAbs_natCast]; rfl
    have hmod : Int.tmod (b : Int) 11 = ((b % 11 : Nat) : Int) := by rw [Int.tmod_eq_emod_of_nonneg (by omega)]; omega
    rw [e, hmod]
    exact noughts_l0 (x := n) (by unfold I64 at hi; omega) (m := b % 11) (by omega) (b % 11) 0 (Nat.zero_add _)
end Go.Proofs.YtcfhllbobapaiaaDoor.Pure

namespace Go.Proofs.YtcfhllbobapaiaaDoor.digitsNoughts
open Go.ChangeShapes Go.WideShapes Go.ChangeAt Go.RowKit
open Go.ChangeMaps (open_string shut_string)
set_option linter.unusedVariables false
theorem own : ownKnob Tryd.prog.godebug = none := by kernel_rfl
set_option maxRecDepth 100000 in
theorem lifted (os : Os) (started : os.Started) (H : Type) (enc : TypeId × Value → H) :
    ReturnsInHanded {} Tryd.checked os 5 .any (fun w args => (Rows.digitsNoughtsSpec.pre enc Tryd.prog Tryd.f5 Rows.digitsNoughtsRow.domain false w args ∧ laidMetH Tryd.prog Rows.digitsNoughtsRow.laid w) ∧ sizedMet enc Tryd.prog Tryd.f5 (OpenSpec.ofChange Rows.digitsNoughtsSpec) false w args) (Rows.digitsNoughtsSpec.post enc Tryd.prog Tryd.f5 false true false false) := by
  refine Q.returns_and_shaped (C := Tryd.checked) (X := fun w _ => laidMetH Tryd.prog Rows.digitsNoughtsRow.laid w) (fun _ _ _ hh h => h.of_heap hh) own started (by kernel_rfl) Tryd.func5
    (ChangeSpec.witness_shaped (enc := enc) (C := Tryd.checked) (os := os) (X := fun w _ => laidMetH Tryd.prog Rows.digitsNoughtsRow.laid w) false (World.laidAll Tryd.prog os Rows.digitsNoughtsRow.laid) #[.int .i64 0, .int .u8 0] 8 (World.laidAll_os _ _ _)
      (World.shaped_of_ZipB (by kernel_rfl) (by kernel_rfl)) (by kernel_rfl) (by kernel_rfl) (by kernel_rfl)
      (by rw [MakeChecks.laidMetH_plain _ _ _ (by kernel_rfl)]; exact laidMet_laidAll _ (by kernel_rfl) (by kernel_rfl))) ?_
  intro W base args ds gs before hval0 hW hcnd hsz0 hL hS
  have hsz : (DataW.weightsEach Tryd.prog (Tryd.f5.params.toList ++ Rows.digitsNoughtsSpec.plain.varTypes Tryd.prog) (ds ++ gs)).all (· ≤ reachBytes) = true := hsz0
  have hval : ∀ (j : Nat) t v, Tryd.f5.params[j]? = some t → args[j]? = some v → Value.okWide Tryd.prog W .any base t v := hval0
  have hW' := hW
  obtain ⟨p, q, hA0, hV, rfl, hfz, hnd⟩ := hW
  have hA : DataW.TrodAll enc Tryd.prog W 0 (fun _ => true) true Tryd.f5.params.toList args.toList ds p := hA0
  rw [Tryd.params5] at hA hval hsz
  obtain ⟨v0, vs0, d0, ds0, p0, q0, hargs, rfl, rfl, h0, r0⟩ := trodAll_cons hA
  obtain ⟨v1, vs1, d1, ds1, p1, q1, rfl, rfl, rfl, h1, r1⟩ := trodAll_cons r0
  obtain ⟨rfl, rfl, rfl⟩ := trodAll_nil r1
  obtain rfl : args = #[v0, v1] := by cases args; simp_all
  obtain ⟨rfl, rfl⟩ := trodVars_none hV
  obtain ⟨a0, rfl, rfl, rfl, w0⟩ := open_int Tryd.underlying2 (hval 0 2 v0 rfl rfl) h0
  obtain ⟨a1, rfl, rfl, rfl, w1⟩ := open_int Tryd.underlying5 (hval 1 5 v1 rfl rfl) h1
  clear hA0 hval0 hsz0 hsz
  refine (PA.oculuslaw11_DigitsNoughts.walk (hT_ := Q.tabs_laid (by rw [MakeChecks.laidMetH_plain _ _ _ (by kernel_rfl)] at hL; exact hL) hS) (P := Pure.DigitsNoughts) a0 a1 W w0 w1).mono fun e W' ⟨he, bel⟩ => ?_
  subst he
  exact ⟨_, rfl, _, _, _, [], _, [], hW', trodAll_mk1 (shut_bool Tryd.underlying4 _), (trodAll_cons_mk (shut_int Tryd.underlying2 w0) (trodAll_cons_mk (shut_int Tryd.underlying5 w1) trodAll_mk0)), rfl, bel.frame _, fun h => by cases h⟩
theorem over : Rows.digitsNoughtsRow.holds Tryd.pinned (OpenSpec.ofChange Rows.digitsNoughtsSpec) :=
  OpenClaim.holds_of_wide 5 Tryd.f5 rfl rfl rfl rfl rfl rfl rfl ⟨rfl, rfl, rfl, rfl, rfl⟩ rfl rfl rfl rfl rfl (by kernel_rfl) Tryd.func5 (by kernel_rfl)
    (of_decide_eq_true (by kernel_rfl)) (by unfold Func.isWrapper; first | (rw [if_pos (by decide +kernel)]; kernel_rfl) | (rw [if_neg (by decide +kernel)]; exact ⟨rfl, rfl⟩))
    (fun os started H enc _ => lifted os started H enc)
theorem card : Rows.DigitsNoughtsCardSaid :=
  Claim7.holds_tied_plain_at .later [] [.data, .data, .data, .data, .pinned] true (true, "a766dca3dc0ee83263e3661664046ba1af17ea51ceb09c4ba56c1e1dc1d93c80") false over (fun _ h => by cases h) (by kernel_rfl) (fun _ h => by cases h) digitsNoughts_row_tie rfl ⟨rfl, rfl⟩ (by kernel_rfl) rfl
    (fun f fn hf hfn => by
      obtain rfl : f = 5 := Option.some.inj ((show Tryd.prog.funcNamed Rows.digitsNoughtsRow.func = some 5 by kernel_rfl).symm.trans hf) |>.symm
      obtain rfl : fn = Tryd.f5 := (Option.some.inj (Tryd.func5.symm.trans hfn)).symm
      refine ⟨by kernel_rfl, fun j t ht => ?_⟩
      have hall : (Tryd.f5.params.toList.all fun u => !Tryd.prog.wantsStandIn u) = true := by kernel_rfl
      have hm : t ∈ Tryd.f5.params.toList := by simpa using Array.mem_of_getElem? ht
      exact (show Tryd.prog.wantsStandIn t = false by simpa using List.all_eq_true.1 hall t hm))
    (by kernel_rfl)
end Go.Proofs.YtcfhllbobapaiaaDoor.digitsNoughts
namespace Go.Proofs.YtcfhllbobapaiaaDoor
theorem digitsNoughts_holds : Rows.DigitsNoughtsCardSaid := digitsNoughts.card
end Go.Proofs.YtcfhllbobapaiaaDoor
