import Derived.Test.YtbkdoeghgdbjlaaDoorEMh
import Derived.KernelRfl
set_option maxRecDepth 100000
set_option linter.unusedVariables false
namespace Go.Den
open Go Go.Proofs
namespace EM
-- oculus/oculusref36.Parse
theorem f8_eq (k : Nat) (t : ByteArray) : D 8 [.sc (.string t)] =
  (D 23 [.sc (.string t)]).bind fun r1 => if hasSh (.lst 1) r1 = true then
  if ((r1.len : Int) != 10) = true then
    some (.agg [.sc (.int .i64 0), .sc (.int .i64 0), .sc (.int .i64 0), .sc (.int .i64 0), .sc (.int .i64 0), .sc (.bool false)])
  else
    if 1 < (r1.len : Int) then
      if hasSh .str (r1.at 1) = true then
        if 3 < (r1.len : Int) then
          if hasSh .str (r1.at 3) = true then
            if 5 < (r1.len : Int) then
              if hasSh .str (r1.at 5) = true then
                if 7 < (r1.len : Int) then
                  if hasSh .str (r1.at 7) = true then
                    if 9 < (r1.len : Int) then
                      if hasSh .str (r1.at 9) = true then
                        (D 24 [.sc (.string ((r1.at 1).toStr))]).bind fun r2 => if hasSh (.int .i64) r2 = true then
                        (D 24 [.sc (.string ((r1.at 3).toStr))]).bind fun r3 => if hasSh (.int .i64) r3 = true then
                        (D 24 [.sc (.string ((r1.at 5).toStr))]).bind fun r4 => if hasSh (.int .i64) r4 = true then
                        (D 24 [.sc (.string ((r1.at 7).toStr))]).bind fun r5 => if hasSh (.int .i64) r5 = true then
                        (D 24 [.sc (.string ((r1.at 9).toStr))]).bind fun r6 => if hasSh (.int .i64) r6 = true then
                        (D 10 [.agg [.sc (.int .i64 r2.toInt), .sc (.int .i64 r3.toInt), .sc (.int .i64 r4.toInt), .sc (.int .i64 r5.toInt), .sc (.int .i64 r6.toInt)]]).bind fun r7 => if hasSh .bool r7 = true then
                        Option.bind (α := PV) (
                          if (!r7.toBool) = true then
                            some (.sc (.bool true))
                          else
                            Option.bind (α := PV) (
                              (D 9 [.agg [.sc (.int .i64 r2.toInt), .sc (.int .i64 r3.toInt), .sc (.int .i64 r4.toInt), .sc (.int .i64 r5.toInt), .sc (.int .i64 r6.toInt)]]).bind fun r8 => if hasSh .str r8 = true then
                              some (.sc (.bool (!(r8.toStr.toList == t.toList))))
                              else none) fun r9 =>
                            some (.sc (.bool r9.toBool))) fun r10 =>
                        if r10.toBool = true then
                          some (.agg [.sc (.int .i64 0), .sc (.int .i64 0), .sc (.int .i64 0), .sc (.int .i64 0), .sc (.int .i64 0), .sc (.bool false)])
                        else
                          some (.agg [.sc (.int .i64 r2.toInt), .sc (.int .i64 r3.toInt), .sc (.int .i64 r4.toInt), .sc (.int .i64 r5.toInt), .sc (.int .i64 r6.toInt), .sc (.bool true)])
                        else none
                        else none
                        else none
                        else none
                        else none
                        else none
                      else none
                    else none
                  else none
                else none
              else none
            else none
          else none
        else none
      else none
    else none
  else none :=
  (denI_eq k _ _).trans (by kernel_rfl)
-- oculus/oculusref36.Text
theorem f9_eq (k : Nat) (c c_1 c_2 c_3 c_4 : Int) : D 9 [.agg [.sc (.int .i64 c), .sc (.int .i64 c_1), .sc (.int .i64 c_2), .sc (.int .i64 c_3), .sc (.int .i64 c_4)]] =
  (D 10 [.agg [.sc (.int .i64 c), .sc (.int .i64 c_1), .sc (.int .i64 c_2), .sc (.int .i64 c_3), .sc (.int .i64 c_4)]]).bind fun r1 => if hasSh .bool r1 = true then
  if (!r1.toBool) = true then
    some (.sc (.string (⟨#[]⟩ : ByteArray)))
  else
    (D 25 [.sc (.int .i64 c)]).bind fun r2 => if hasSh .str r2 = true then
    if 6 + r2.toStr.size ≤ 9223372036854775807 then
      if ((⟨#[101, 118, 97, 108, 115, 32]⟩ : ByteArray) ++ r2.toStr).size + 7 ≤ 9223372036854775807 then
        (D 25 [.sc (.int .i64 c_1)]).bind fun r3 => if hasSh .str r3 = true then
        if (((⟨#[101, 118, 97, 108, 115, 32]⟩ : ByteArray) ++ r2.toStr) ++ (⟨#[32, 114, 101, 97, 100, 115, 32]⟩ : ByteArray)).size + r3.toStr.size ≤ 9223372036854775807 then
          if ((((⟨#[101, 118, 97, 108, 115, 32]⟩ : ByteArray) ++ r2.toStr) ++ (⟨#[32, 114, 101, 97, 100, 115, 32]⟩ : ByteArray)) ++ r3.toStr).size + 8 ≤ 9223372036854775807 then
            (D 25 [.sc (.int .i64 c_2)]).bind fun r4 => if hasSh .str r4 = true then
            if (((((⟨#[101, 118, 97, 108, 115, 32]⟩ : ByteArray) ++ r2.toStr) ++ (⟨#[32, 114, 101, 97, 100, 115, 32]⟩ : ByteArray)) ++ r3.toStr) ++ (⟨#[32, 99, 104, 97, 115, 101, 115, 32]⟩ : ByteArray)).size + r4.toStr.size ≤ 9223372036854775807 then
              if ((((((⟨#[101, 118, 97, 108, 115, 32]⟩ : ByteArray) ++ r2.toStr) ++ (⟨#[32, 114, 101, 97, 100, 115, 32]⟩ : ByteArray)) ++ r3.toStr) ++ (⟨#[32, 99, 104, 97, 115, 101, 115, 32]⟩ : ByteArray)) ++ r4.toStr).size + 7 ≤ 9223372036854775807 then
                (D 25 [.sc (.int .i64 c_3)]).bind fun r5 => if hasSh .str r5 = true then
                if (((((((⟨#[101, 118, 97, 108, 115, 32]⟩ : ByteArray) ++ r2.toStr) ++ (⟨#[32, 114, 101, 97, 100, 115, 32]⟩ : ByteArray)) ++ r3.toStr) ++ (⟨#[32, 99, 104, 97, 115, 101, 115, 32]⟩ : ByteArray)) ++ r4.toStr) ++ (⟨#[32, 101, 100, 103, 101, 115, 32]⟩ : ByteArray)).size + r5.toStr.size ≤ 9223372036854775807 then
                  if ((((((((⟨#[101, 118, 97, 108, 115, 32]⟩ : ByteArray) ++ r2.toStr) ++ (⟨#[32, 114, 101, 97, 100, 115, 32]⟩ : ByteArray)) ++ r3.toStr) ++ (⟨#[32, 99, 104, 97, 115, 101, 115, 32]⟩ : ByteArray)) ++ r4.toStr) ++ (⟨#[32, 101, 100, 103, 101, 115, 32]⟩ : ByteArray)) ++ r5.toStr).size + 8 ≤ 9223372036854775807 then
                    (D 25 [.sc (.int .i64 c_4)]).bind fun r6 => if hasSh .str r6 = true then
                    if (((((((((⟨#[101, 118, 97, 108, 115, 32]⟩ : ByteArray) ++ r2.toStr) ++ (⟨#[32, 114, 101, 97, 100, 115, 32]⟩ : ByteArray)) ++ r3.toStr) ++ (⟨#[32, 99, 104, 97, 115, 101, 115, 32]⟩ : ByteArray)) ++ r4.toStr) ++ (⟨#[32, 101, 100, 103, 101, 115, 32]⟩ : ByteArray)) ++ r5.toStr) ++ (⟨#[32, 118, 105, 115, 105, 116, 115, 32]⟩ : ByteArray)).size + r6.toStr.size ≤ 9223372036854775807 then
                      some (.sc (.string ((((((((((⟨#[101, 118, 97, 108, 115, 32]⟩ : ByteArray) ++ r2.toStr) ++ (⟨#[32, 114, 101, 97, 100, 115, 32]⟩ : ByteArray)) ++ r3.toStr) ++ (⟨#[32, 99, 104, 97, 115, 101, 115, 32]⟩ : ByteArray)) ++ r4.toStr) ++ (⟨#[32, 101, 100, 103, 101, 115, 32]⟩ : ByteArray)) ++ r5.toStr) ++ (⟨#[32, 118, 105, 115, 105, 116, 115, 32]⟩ : ByteArray)) ++ r6.toStr)))
                    else none
                    else none
                  else none
                else none
                else none
              else none
            else none
            else none
          else none
        else none
        else none
      else none
    else none
    else none
  else none :=
  (denI_eq k _ _).trans (by kernel_rfl)
-- oculus/oculusref36.Right
theorem f10_eq (k : Nat) (c c_1 c_2 c_3 c_4 : Int) : D 10 [.agg [.sc (.int .i64 c), .sc (.int .i64 c_1), .sc (.int .i64 c_2), .sc (.int .i64 c_3), .sc (.int .i64 c_4)]] =
  (D 26 [.sc (.int .i64 c)]).bind fun r1 => if hasSh .bool r1 = true then
  Option.bind (α := PV) (
    if r1.toBool = true then
      Option.bind (α := PV) (
        Option.bind (α := PV) (
          (D 26 [.sc (.int .i64 c_1)]).bind fun r2 => if hasSh .bool r2 = true then
          some (.sc (.bool r2.toBool))
          else none) fun r3 =>
        some (.sc (.bool r3.toBool))) fun r4 =>
      some (.sc (.bool r4.toBool))
    else
      some (.sc (.bool false))) fun r5 =>
  Option.bind (α := PV) (
    if r5.toBool = true then
      Option.bind (α := PV) (
        Option.bind (α := PV) (
          (D 26 [.sc (.int .i64 c_2)]).bind fun r6 => if hasSh .bool r6 = true then
          some (.sc (.bool r6.toBool))
          else none) fun r7 =>
        some (.sc (.bool r7.toBool))) fun r8 =>
      some (.sc (.bool r8.toBool))
    else
      some (.sc (.bool false))) fun r9 =>
  Option.bind (α := PV) (
    if r9.toBool = true then
      Option.bind (α := PV) (
        Option.bind (α := PV) (
          (D 26 [.sc (.int .i64 c_3)]).bind fun r10 => if hasSh .bool r10 = true then
          some (.sc (.bool r10.toBool))
          else none) fun r11 =>
        some (.sc (.bool r11.toBool))) fun r12 =>
      some (.sc (.bool r12.toBool))
    else
      some (.sc (.bool false))) fun r13 =>
  Option.bind (α := PV) (
    if r13.toBool = true then
      Option.bind (α := PV) (
        Option.bind (α := PV) (
          (D 26 [.sc (.int .i64 c_4)]).bind fun r14 => if hasSh .bool r14 = true then
          some (.sc (.bool r14.toBool))
          else none) fun r15 =>
        some (.sc (.bool r15.toBool))) fun r16 =>
      some (.sc (.bool r16.toBool))
    else
      some (.sc (.bool false))) fun r17 =>
  some (.sc (.bool r17.toBool))
  else none :=
  (denI_eq k _ _).trans (by kernel_rfl)
-- oculus/oculusref36.right
theorem f26_eq (k : Nat) (n_ : Int) : D 26 [.sc (.int .i64 n_)] =
  Option.bind (α := PV) (
    if decide (n_ ≥ 0) = true then
      some (.sc (.bool (decide (n_ ≤ 1000000000))))
    else
      some (.sc (.bool false))) fun r1 =>
  some (.sc (.bool r1.toBool)) :=
  (denI_eq k _ _).trans (by kernel_rfl)
-- oculus/oculusref01.Digits
noncomputable def f25.l0a (k : Nat) (n_ : Int) (s_ : ByteArray) : Option PV := loopAt Tryd.prog cf ext hint k 25 [1, 1, 0, 1, 0] ⟨[.sc (.int .i64 n_), .top, .top, .sc (.string s_), .top, .top, .top, .top, .top, .top, .top, .top, .top, .top, .top, .top, .top, .top, .top, .top, .top, .top, .top, .top, .top], [], none⟩
theorem f25_eq (k : Nat) (n_ : Int) : D 25 [.sc (.int .i64 n_)] =
  if ([.sc (.int .u8 (IntKind.u8.wrap (IntKind.i64.wrap ((48 : Int) + (n_.tmod 10)))))] : List PV).all (hasSh (.int .u8)) = true then
    f25.l0a k (IntKind.i64.wrap (n_.tdiv 10)) (bytesOf ([.sc (.int .u8 (IntKind.u8.wrap (IntKind.i64.wrap ((48 : Int) + (n_.tmod 10)))))] : List PV))
  else none :=
  (denI_eq k _ _).trans (by kernel_rfl)
theorem f25.l0a_eq (k : Nat) (n_ : Int) (s_ : ByteArray) : f25.l0a k n_ s_ =
  if decide (n_ > 0) = true then
    if ([.sc (.int .u8 (IntKind.u8.wrap (IntKind.i64.wrap ((48 : Int) + (n_.tmod 10)))))] : List PV).all (hasSh (.int .u8)) = true then
      if (bytesOf ([.sc (.int .u8 (IntKind.u8.wrap (IntKind.i64.wrap ((48 : Int) + (n_.tmod 10)))))] : List PV)).size + s_.size ≤ 9223372036854775807 then
        f25.l0a k (IntKind.i64.wrap (n_.tdiv 10)) ((bytesOf ([.sc (.int .u8 (IntKind.u8.wrap (IntKind.i64.wrap ((48 : Int) + (n_.tmod 10)))))] : List PV)) ++ s_)
      else none
    else none
  else
    some (.sc (.string s_)) :=
  (loopAt_eq _ _ _ _).trans (by kernel_rfl)
-- oculus/oculusref07.Words
noncomputable def f23.l0a (k : Nat) (s_ : ByteArray) (from_ i : Int) : Option PV := loopAt Tryd.prog cf ext hint k 23 [1, 1, 1, 0, 1, 0] ⟨[.sc (.string s_), .top, .top, .nils, .sc (.int .i64 from_), .sc (.int .i64 i), .top, .top, .top, .top, .top, .top, .top, .top, .top, .top, .top, .top, .top, .top, .top, .top, .top, .top, .top, .top, .top, .top, .top, .top, .top, .top], [], none⟩
noncomputable def f23.l0b (k : Nat) (s_ : ByteArray) (from_ i : Int) (out : List PV) : Option PV := loopAt Tryd.prog cf ext hint k 23 [1, 1, 1, 0, 1, 0] ⟨[.sc (.string s_), .top, .top, .buf 0 0, .sc (.int .i64 from_), .sc (.int .i64 i), .top, .top, .top, .top, .top, .top, .top, .top, .top, .top, .top, .top, .top, .top, .top, .top, .top, .top, .top, .top, .top, .top, .top, .top, .top, .top], [.buf 9 0 out], none⟩
theorem f23_eq (k : Nat) (s_ : ByteArray) : D 23 [.sc (.string s_)] =
  f23.l0a k s_ 0 0 :=
  (denI_eq k _ _).trans (by kernel_rfl)
theorem f23.l0a_eq (k : Nat) (s_ : ByteArray) (from_ i : Int) : f23.l0a k s_ from_ i =
  if decide (i ≤ (s_.size : Int)) = true then
    Option.bind (α := PV) (
      if (i == (s_.size : Int)) = true then
        some (.sc (.bool true))
      else
        Option.bind (α := PV) (
          Option.bind (α := PV) (
            if 0 ≤ i then
              if i < (s_.size : Int) then
                some (.sc (.bool ((bt s_ i) == 32)))
              else none
            else none) fun r1 =>
          some (.sc (.bool r1.toBool))) fun r2 =>
        some (.sc (.bool r2.toBool))) fun r3 =>
    if r3.toBool = true then
      if 0 ≤ i then
        if i ≤ (s_.size : Int) then
          if 0 ≤ from_ then
            if from_ ≤ i then
              if ([.sc (.string (s_.extract from_.toNat i.toNat))] : List PV).length * 16 ≤ 140737488355328 ∧ ([.sc (.string (s_.extract from_.toNat i.toNat))] : List PV).length ≤ 140737488355328 then
                f23.l0b k s_ (IntKind.i64.wrap (i + 1)) (IntKind.i64.wrap (i + 1)) ([.sc (.string (s_.extract from_.toNat i.toNat))] : List PV)
              else none
            else none
          else none
        else none
      else none
    else
      f23.l0a k s_ from_ (IntKind.i64.wrap (i + 1))
  else
    some (.lst 1 0 (fun _ => .top)) :=
  (loopAt_eq _ _ _ _).trans (by kernel_rfl)
theorem f23.l0b_eq (k : Nat) (s_ : ByteArray) (from_ i : Int) (out : List PV) : f23.l0b k s_ from_ i out =
  if decide (i ≤ (s_.size : Int)) = true then
    Option.bind (α := PV) (
      if (i == (s_.size : Int)) = true then
        some (.sc (.bool true))
      else
        Option.bind (α := PV) (
          Option.bind (α := PV) (
            if 0 ≤ i then
              if i < (s_.size : Int) then
                some (.sc (.bool ((bt s_ i) == 32)))
              else none
            else none) fun r4 =>
          some (.sc (.bool r4.toBool))) fun r5 =>
        some (.sc (.bool r5.toBool))) fun r6 =>
    if r6.toBool = true then
      if 0 ≤ i then
        if i ≤ (s_.size : Int) then
          if 0 ≤ from_ then
            if from_ ≤ i then
              if (out.length + ([.sc (.string (s_.extract from_.toNat i.toNat))] : List PV).length) * 16 ≤ 140737488355328 ∧ out.length + ([.sc (.string (s_.extract from_.toNat i.toNat))] : List PV).length ≤ 140737488355328 then
                f23.l0b k s_ (IntKind.i64.wrap (i + 1)) (IntKind.i64.wrap (i + 1)) (out ++ ([.sc (.string (s_.extract from_.toNat i.toNat))] : List PV))
              else none
            else none
          else none
        else none
      else none
    else
      f23.l0b k s_ from_ (IntKind.i64.wrap (i + 1)) out
  else
    some (frozen 1 out) :=
  (loopAt_eq _ _ _ _).trans (by kernel_rfl)
-- oculus/oculusref36.number
noncomputable def f24.l0a (k : Nat) (t : ByteArray) (n_ i : Int) : Option PV := loopAt Tryd.prog cf ext hint k 24 [1, 1, 0, 1, 0] ⟨[.sc (.string t), .top, .top, .sc (.int .i64 n_), .sc (.int .i64 i), .top, .top, .top, .top, .top, .top, .top, .top, .top, .top, .top, .top, .top, .top, .top, .top, .top, .top, .top, .top, .top, .top, .top, .top, .top, .top, .top, .top, .top], [], none⟩
theorem f24_eq (k : Nat) (t : ByteArray) : D 24 [.sc (.string t)] =
  f24.l0a k t 0 0 :=
  (denI_eq k _ _).trans (by kernel_rfl)
theorem f24.l0a_eq (k : Nat) (t : ByteArray) (n_ i : Int) : f24.l0a k t n_ i =
  if decide (i < (t.size : Int)) = true then
    if 0 ≤ i then
      if i < (t.size : Int) then
        Option.bind (α := PV) (
          if decide ((bt t i) < 48) = true then
            some (.sc (.bool true))
          else
            Option.bind (α := PV) (
              Option.bind (α := PV) (
                if 0 ≤ i then
                  if i < (t.size : Int) then
                    some (.sc (.bool (decide ((bt t i) > 57))))
                  else none
                else none) fun r1 =>
              some (.sc (.bool r1.toBool))) fun r2 =>
            some (.sc (.bool r2.toBool))) fun r3 =>
        Option.bind (α := PV) (
          if r3.toBool = true then
            some (.sc (.bool true))
          else
            some (.sc (.bool (decide (n_ > 1000000000))))) fun r4 =>
        if r4.toBool = true then
          some (.sc (.int .i64 (-1)))
        else
          if 0 ≤ i then
            if i < (t.size : Int) then
              f24.l0a k t (IntKind.i64.wrap ((IntKind.i64.wrap ((IntKind.i64.wrap (n_ * 10)) + (IntKind.i64.wrap (bt t i)))) - 48)) (IntKind.i64.wrap (i + 1))
            else none
          else none
      else none
    else none
  else
    some (.sc (.int .i64 n_)) :=
  (loopAt_eq _ _ _ _).trans (by kernel_rfl)
end EM
end Go.Den
