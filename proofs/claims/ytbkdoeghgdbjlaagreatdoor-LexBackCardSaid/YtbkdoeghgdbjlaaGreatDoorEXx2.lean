import Derived.Test.YtbkdoeghgdbjlaaGreatDoorEXh
import Derived.KernelRfl
set_option maxRecDepth 100000
set_option linter.unusedVariables false
namespace Go.Den
open Go Go.Proofs
namespace EX
-- oculus/digits.Text
noncomputable def f64.j0a (k : Nat) (x_ : Int) (out : ByteArray) : Option PV := gateK k (placeAt Tryz.prog cf ext hint k 64 [1, 1, 1, 1]) ⟨[.sc (.int .i64 x_), .top, .top, .sc (.string out), .top, .top, .top, .top, .top, .top, .top, .top, .top, .top, .top, .top, .top, .top, .top, .top, .top, .top, .top, .top, .top, .top, .top, .top, .top, .top, .top, .top, .top, .top, .top, .top, .top, .top], [], none⟩
theorem f64_eq (k : Nat) (x_ : Int) : D 64 [.sc (.int .i64 x_)] =
  (D 106 [.sc (.int .i64 x_)]).bind fun r1 => if hasSh .bool r1 = true then
  if (!r1.toBool) = true then
    some (.sc (.string (⟨#[]⟩ : ByteArray)))
  else
    (D 108 [.sc (.int .i64 x_)]).bind fun r2 => if hasSh (.int .i64) r2 = true then
    (D 107 [.sc (.int .i64 r2.toInt), .sc (.int .i64 10)]).bind fun r3 => if hasSh .str r3 = true then
    Option.bind (α := PV) (
      if decide (x_ < 0) = true then
        some (.sc (.bool (decide (x_ > (-10000)))))
      else
        some (.sc (.bool false))) fun r4 =>
    if r4.toBool = true then
      if 1 + r3.toStr.size ≤ 9223372036854775807 then
        f64.j0a k x_ ((⟨#[45]⟩ : ByteArray) ++ r3.toStr)
      else none
    else
      f64.j0a k x_ r3.toStr
    else none
    else none
  else none :=
  (denI_eq k _ _).trans (by kernel_rfl)
theorem f64.j0a_eq (k : Nat) (x_ : Int) (out : ByteArray) : f64.j0a k x_ out =
  if ((x_.tmod 10000) == 0) = true then
    some (.sc (.string out))
  else
    (D 107 [.sc (.int .i64 (IntKind.i64.wrap ((10000 : Int) + (if IntKind.i64.wrap (0 - (x_.tmod 10000)) > x_.tmod 10000 then IntKind.i64.wrap (0 - (x_.tmod 10000)) else x_.tmod 10000)))), .sc (.int .i64 10)]).bind fun r5 => if hasSh .str r5 = true then
    if 0 ≤ (r5.toStr.size : Int) then
      if (r5.toStr.size : Int) ≤ (r5.toStr.size : Int) then
        if 1 ≤ (r5.toStr.size : Int) then
          if out.size + 1 ≤ 9223372036854775807 then
            (D 109 [.sc (.string (r5.toStr.extract 1 (r5.toStr.size : Int).toNat)), .sc (.string (⟨#[48]⟩ : ByteArray))]).bind fun r6 => if hasSh .str r6 = true then
            if (out ++ (⟨#[46]⟩ : ByteArray)).size + r6.toStr.size ≤ 9223372036854775807 then
              some (.sc (.string ((out ++ (⟨#[46]⟩ : ByteArray)) ++ r6.toStr)))
            else none
            else none
          else none
        else none
      else none
    else none
    else none :=
  (gateK_open _ _ _).trans (by kernel_rfl)
-- oculus/dec.Units
theorem f108_eq (k : Nat) (x_ : Int) : D 108 [.sc (.int .i64 x_)] =
  (D 106 [.sc (.int .i64 x_)]).bind fun r1 => if hasSh .bool r1 = true then
  if (!r1.toBool) = true then
    some (.sc (.int .i64 0))
  else
    some (.sc (.int .i64 (IntKind.i64.wrap (x_.tdiv 10000))))
  else none :=
  (denI_eq k _ _).trans (by kernel_rfl)
-- oculus/oculusref21.Lex
noncomputable def f51.l0a (k : Nat) (s_ : ByteArray) (at_ c0 c0_1 : Int) : Option PV := loopAt Tryz.prog cf ext hint k 51 [1, 1, 1, 1, 0, 0] ⟨[.sc (.string s_), .top, .ptr 0 0, .nils, .sc (.int .i64 at_), .top, .top, .top, .top, .top, .top, .top, .top, .top, .top, .top, .top, .top, .top, .top, .top, .top, .top, .top, .top, .top, .top, .top, .top, .top, .top, .top, .top, .top, .top, .top, .top, .top, .top, .top, .top, .top, .top, .top, .top, .top, .top, .top, .top, .top, .top, .top, .top, .top, .top, .top, .top, .top, .top, .top, .top, .top, .top, .top, .top, .top, .top, .top, .top, .top, .top, .top, .top, .top, .top, .top, .top, .top, .top, .top, .top, .top, .top, .top, .top, .top, .top, .top, .top, .top, .top, .top, .top, .top, .top, .top, .top, .top, .top, .top, .top, .top, .top, .top, .top, .top, .top, .top, .top, .top, .top, .top, .top], [.cells 77 [.nils, .sc (.int .i64 c0), .sc (.int .i64 c0_1)]], none⟩
noncomputable def f51.j2a (k : Nat) (s_ : ByteArray) (at_ end_ c0 c0_1 t t_1 : Int) (t_2 : ByteArray) (t_3 : Int) : Option PV := gateK k (placeAt Tryz.prog cf ext hint k 51 [1, 1, 1, 1, 0, 0, 0, 1, 0, 1, 1, 1, 1]) ⟨[.sc (.string s_), .top, .ptr 0 0, .nils, .sc (.int .i64 at_), .ptr 1 0, .sc (.int .i64 end_), .top, .top, .top, .top, .top, .top, .top, .top, .top, .top, .top, .top, .top, .top, .top, .top, .top, .top, .top, .top, .top, .top, .top, .top, .top, .top, .top, .top, .top, .top, .top, .top, .top, .top, .top, .top, .top, .top, .top, .top, .top, .top, .top, .top, .top, .top, .top, .top, .top, .top, .top, .top, .top, .top, .top, .top, .top, .top, .top, .top, .top, .top, .top, .top, .top, .top, .top, .top, .top, .top, .top, .top, .top, .top, .top, .top, .top, .top, .top, .top, .top, .top, .top, .top, .top, .top, .top, .top, .top, .top, .top, .top, .top, .top, .top, .top, .top, .top, .top, .top, .top, .top, .top, .top, .top, .top], [.cells 77 [.nils, .sc (.int .i64 c0), .sc (.int .i64 c0_1)], .cells 113 [.sc (.int .i64 t), .sc (.int .i64 t_1), .sc (.string t_2), .sc (.int .i64 t_3)]], none⟩
noncomputable def f51.l1a (k : Nat) (s_ : ByteArray) (at_ end_ c0 c0_1 t t_1 : Int) (t_2 : ByteArray) (t_3 : Int) : Option PV := loopAt Tryz.prog cf ext hint k 51 [1, 1, 1, 1, 0, 0, 0, 1, 0, 1, 1, 1, 0, 1, 1, 1, 1, 1, 0, 0, 0] ⟨[.sc (.string s_), .top, .ptr 0 0, .nils, .sc (.int .i64 at_), .ptr 1 0, .sc (.int .i64 end_), .top, .top, .top, .top, .top, .top, .top, .top, .top, .top, .top, .top, .top, .top, .top, .top, .top, .top, .top, .top, .top, .top, .top, .top, .top, .top, .top, .top, .top, .top, .top, .top, .top, .top, .top, .top, .top, .top, .top, .top, .top, .top, .top, .top, .top, .top, .top, .top, .top, .top, .top, .top, .top, .top, .top, .top, .top, .top, .top, .top, .top, .top, .top, .top, .top, .top, .top, .top, .top, .top, .top, .top, .top, .top, .top, .top, .top, .top, .top, .top, .top, .top, .top, .top, .top, .top, .top, .top, .top, .top, .top, .top, .top, .top, .top, .top, .top, .top, .top, .top, .top, .top, .top, .top, .top, .top], [.cells 77 [.nils, .sc (.int .i64 c0), .sc (.int .i64 c0_1)], .cells 113 [.sc (.int .i64 t), .sc (.int .i64 t_1), .sc (.string t_2), .sc (.int .i64 t_3)]], none⟩
noncomputable def f51.l0b (k : Nat) (s_ : ByteArray) (at_ c0 c0_1 : Int) (out : List PV) : Option PV := loopAt Tryz.prog cf ext hint k 51 [1, 1, 1, 1, 0, 0] ⟨[.sc (.string s_), .top, .ptr 0 0, .buf 1 0, .sc (.int .i64 at_), .top, .top, .top, .top, .top, .top, .top, .top, .top, .top, .top, .top, .top, .top, .top, .top, .top, .top, .top, .top, .top, .top, .top, .top, .top, .top, .top, .top, .top, .top, .top, .top, .top, .top, .top, .top, .top, .top, .top, .top, .top, .top, .top, .top, .top, .top, .top, .top, .top, .top, .top, .top, .top, .top, .top, .top, .top, .top, .top, .top, .top, .top, .top, .top, .top, .top, .top, .top, .top, .top, .top, .top, .top, .top, .top, .top, .top, .top, .top, .top, .top, .top, .top, .top, .top, .top, .top, .top, .top, .top, .top, .top, .top, .top, .top, .top, .top, .top, .top, .top, .top, .top, .top, .top, .top, .top, .top, .top], [.cells 77 [.nils, .sc (.int .i64 c0), .sc (.int .i64 c0_1)], .buf 113 0 out], none⟩
noncomputable def f51.j2b (k : Nat) (s_ : ByteArray) (at_ end_ c0 c0_1 : Int) (out : List PV) (t t_1 : Int) (t_2 : ByteArray) (t_3 : Int) : Option PV := gateK k (placeAt Tryz.prog cf ext hint k 51 [1, 1, 1, 1, 0, 0, 0, 1, 0, 1, 1, 1, 1]) ⟨[.sc (.string s_), .top, .ptr 0 0, .buf 1 0, .sc (.int .i64 at_), .ptr 2 0, .sc (.int .i64 end_), .top, .top, .top, .top, .top, .top, .top, .top, .top, .top, .top, .top, .top, .top, .top, .top, .top, .top, .top, .top, .top, .top, .top, .top, .top, .top, .top, .top, .top, .top, .top, .top, .top, .top, .top, .top, .top, .top, .top, .top, .top, .top, .top, .top, .top, .top, .top, .top, .top, .top, .top, .top, .top, .top, .top, .top, .top, .top, .top, .top, .top, .top, .top, .top, .top, .top, .top, .top, .top, .top, .top, .top, .top, .top, .top, .top, .top, .top, .top, .top, .top, .top, .top, .top, .top, .top, .top, .top, .top, .top, .top, .top, .top, .top, .top, .top, .top, .top, .top, .top, .top, .top, .top, .top, .top, .top], [.cells 77 [.nils, .sc (.int .i64 c0), .sc (.int .i64 c0_1)], .buf 113 0 out, .cells 113 [.sc (.int .i64 t), .sc (.int .i64 t_1), .sc (.string t_2), .sc (.int .i64 t_3)]], none⟩
noncomputable def f51.l1b (k : Nat) (s_ : ByteArray) (at_ end_ c0 c0_1 : Int) (out : List PV) (t t_1 : Int) (t_2 : ByteArray) (t_3 : Int) : Option PV := loopAt Tryz.prog cf ext hint k 51 [1, 1, 1, 1, 0, 0, 0, 1, 0, 1, 1, 1, 0, 1, 1, 1, 1, 1, 0, 0, 0] ⟨[.sc (.string s_), .top, .ptr 0 0, .buf 1 0, .sc (.int .i64 at_), .ptr 2 0, .sc (.int .i64 end_), .top, .top, .top, .top, .top, .top, .top, .top, .top, .top, .top, .top, .top, .top, .top, .top, .top, .top, .top, .top, .top, .top, .top, .top, .top, .top, .top, .top, .top, .top, .top, .top, .top, .top, .top, .top, .top, .top, .top, .top, .top, .top, .top, .top, .top, .top, .top, .top, .top, .top, .top, .top, .top, .top, .top, .top, .top, .top, .top, .top, .top, .top, .top, .top, .top, .top, .top, .top, .top, .top, .top, .top, .top, .top, .top, .top, .top, .top, .top, .top, .top, .top, .top, .top, .top, .top, .top, .top, .top, .top, .top, .top, .top, .top, .top, .top, .top, .top, .top, .top, .top, .top, .top, .top, .top, .top], [.cells 77 [.nils, .sc (.int .i64 c0), .sc (.int .i64 c0_1)], .buf 113 0 out, .cells 113 [.sc (.int .i64 t), .sc (.int .i64 t_1), .sc (.string t_2), .sc (.int .i64 t_3)]], none⟩
theorem f51_eq (k : Nat) (s_ : ByteArray) : D 51 [.sc (.string s_)] =
  if decide ((s_.size : Int) > 200) = true then
    some (.agg [.nils, .sc (.int .i64 0), .sc (.int .i64 3)])
  else
    f51.l0a k s_ 0 0 0 :=
  (denI_eq k _ _).trans (by kernel_rfl)
theorem f51.l0a_eq (k : Nat) (s_ : ByteArray) (at_ c0 c0_1 : Int) : f51.l0a k s_ at_ c0 c0_1 =
  if decide (at_ < (s_.size : Int)) = true then
    if 0 ≤ at_ then
      if at_ < (s_.size : Int) then
        if ((bt s_ at_) == 32) = true then
          f51.l0a k s_ (IntKind.i64.wrap (at_ + 1)) c0 c0_1
        else
          (D 93 [.sc (.string s_), .sc (.int .i64 at_)]).bind fun r1 => if hasSh .bool r1 = true then
          if r1.toBool = true then
            if 0 ≤ (s_.size : Int) then
              if (s_.size : Int) ≤ (s_.size : Int) then
                if 0 ≤ at_ then
                  if at_ ≤ (s_.size : Int) then
                    (D 94 [.sc (.string (s_.extract at_.toNat (s_.size : Int).toNat))]).bind fun r2 => if hasSh (.agg [(.int .i64), (.int .i64), .bool]) r2 = true then
                    f51.j2a k s_ at_ (IntKind.i64.wrap (at_ + ((cel 1 r2.cells).toInt))) c0 c0_1 1 at_ (⟨#[]⟩ : ByteArray) ((cel 0 r2.cells).toInt)
                    else none
                  else none
                else none
              else none
            else none
          else
            if 0 ≤ at_ then
              if at_ < (s_.size : Int) then
                if ((bt s_ at_) == 34) = true then
                  (D 95 [.sc (.string s_), .sc (.int .i64 at_)]).bind fun r3 => if hasSh (.tup [.str, (.int .i64)]) r3 = true then
                  if decide (((cel 1 r3.parts).toInt) ≥ 0) = true then
                    f51.j2a k s_ at_ ((cel 1 r3.parts).toInt) c0 c0_1 2 at_ ((cel 0 r3.parts).toStr) 0
                  else
                    f51.j2a k s_ at_ at_ c0 c0_1 2 at_ ((cel 0 r3.parts).toStr) 0
                  else none
                else
                  if 0 ≤ at_ then
                    if at_ < (s_.size : Int) then
                      (D 96 [.sc (.int .u8 (bt s_ at_))]).bind fun r4 => if hasSh .bool r4 = true then
                      if r4.toBool = true then
                        f51.l1a k s_ at_ at_ c0 c0_1 0 at_ (⟨#[]⟩ : ByteArray) 0
                      else
                        (D 97 [.sc (.string s_), .sc (.int .i64 at_)]).bind fun r5 => if hasSh .str r5 = true then
                        f51.j2a k s_ at_ (IntKind.i64.wrap (at_ + (r5.toStr.size : Int))) c0 c0_1 4 at_ r5.toStr 0
                        else none
                      else none
                    else none
                  else none
              else none
            else none
          else none
      else none
    else none
  else
    if ([.agg [.sc (.int .i64 5), .sc (.int .i64 (s_.size : Int)), .sc (.string (⟨#[]⟩ : ByteArray)), .sc (.int .i64 0)]] : List PV).length * 40 ≤ 140737488355328 ∧ ([.agg [.sc (.int .i64 5), .sc (.int .i64 (s_.size : Int)), .sc (.string (⟨#[]⟩ : ByteArray)), .sc (.int .i64 0)]] : List PV).length ≤ 140737488355328 then
      some (.agg [frozen 4 ([.agg [.sc (.int .i64 5), .sc (.int .i64 (s_.size : Int)), .sc (.string (⟨#[]⟩ : ByteArray)), .sc (.int .i64 0)]] : List PV), .sc (.int .i64 0), .sc (.int .i64 0)])
    else none :=
  (loopAt_eq _ _ _ _).trans (by kernel_rfl)
theorem f51.j2a_eq (k : Nat) (s_ : ByteArray) (at_ end_ c0 c0_1 t t_1 : Int) (t_2 : ByteArray) (t_3 : Int) : f51.j2a k s_ at_ end_ c0 c0_1 t t_1 t_2 t_3 =
  if (end_ == at_) = true then
    some (.agg [.nils, .sc (.int .i64 at_), .sc (.int .i64 1)])
  else
    if ([.agg [.sc (.int .i64 t), .sc (.int .i64 t_1), .sc (.string t_2), .sc (.int .i64 t_3)]] : List PV).length * 40 ≤ 140737488355328 ∧ ([.agg [.sc (.int .i64 t), .sc (.int .i64 t_1), .sc (.string t_2), .sc (.int .i64 t_3)]] : List PV).length ≤ 140737488355328 then
      f51.l0b k s_ end_ c0 c0_1 ([.agg [.sc (.int .i64 t), .sc (.int .i64 t_1), .sc (.string t_2), .sc (.int .i64 t_3)]] : List PV)
    else none :=
  (gateK_open _ _ _).trans (by kernel_rfl)
theorem f51.l1a_eq (k : Nat) (s_ : ByteArray) (at_ end_ c0 c0_1 t t_1 : Int) (t_2 : ByteArray) (t_3 : Int) : f51.l1a k s_ at_ end_ c0 c0_1 t t_1 t_2 t_3 =
  Option.bind (α := PV) (
    if decide (end_ < (s_.size : Int)) = true then
      Option.bind (α := PV) (
        Option.bind (α := PV) (
          if 0 ≤ end_ then
            if end_ < (s_.size : Int) then
              Option.bind (α := PV) (
                (D 96 [.sc (.int .u8 (bt s_ end_))]).bind fun r6 => if hasSh .bool r6 = true then
                Option.bind (α := PV) (
                  Option.bind (α := PV) (
                    if r6.toBool = true then
                      some (.sc (.bool true))
                    else
                      Option.bind (α := PV) (
                        Option.bind (α := PV) (
                          (D 93 [.sc (.string s_), .sc (.int .i64 end_)]).bind fun r7 => if hasSh .bool r7 = true then
                          some (.sc (.bool r7.toBool))
                          else none) fun r8 =>
                        some (.sc (.bool r8.toBool))) fun r9 =>
                      some (.sc (.bool r9.toBool))) fun r10 =>
                  some (.sc (.bool r10.toBool))) fun r11 =>
                some (.sc (.bool r11.toBool))
                else none) fun r12 =>
              some (.sc (.bool r12.toBool))
            else none
          else none) fun r13 =>
        some (.sc (.bool r13.toBool))) fun r14 =>
      some (.sc (.bool r14.toBool))
    else
      some (.sc (.bool false))) fun r15 =>
  if r15.toBool = true then
    f51.l1a k s_ at_ (IntKind.i64.wrap (end_ + 1)) c0 c0_1 t t_1 t_2 t_3
  else
    if 0 ≤ end_ then
      if end_ ≤ (s_.size : Int) then
        if 0 ≤ at_ then
          if at_ ≤ end_ then
            f51.j2a k s_ at_ end_ c0 c0_1 3 t_1 (s_.extract at_.toNat end_.toNat) t_3
          else none
        else none
      else none
    else none :=
  (loopAt_eq _ _ _ _).trans (by kernel_rfl)
theorem f51.l0b_eq (k : Nat) (s_ : ByteArray) (at_ c0 c0_1 : Int) (out : List PV) : f51.l0b k s_ at_ c0 c0_1 out =
  if decide (at_ < (s_.size : Int)) = true then
    if 0 ≤ at_ then
      if at_ < (s_.size : Int) then
        if ((bt s_ at_) == 32) = true then
          f51.l0b k s_ (IntKind.i64.wrap (at_ + 1)) c0 c0_1 out
        else
          (D 93 [.sc (.string s_), .sc (.int .i64 at_)]).bind fun r16 => if hasSh .bool r16 = true then
          if r16.toBool = true then
            if 0 ≤ (s_.size : Int) then
              if (s_.size : Int) ≤ (s_.size : Int) then
                if 0 ≤ at_ then
                  if at_ ≤ (s_.size : Int) then
                    (D 94 [.sc (.string (s_.extract at_.toNat (s_.size : Int).toNat))]).bind fun r17 => if hasSh (.agg [(.int .i64), (.int .i64), .bool]) r17 = true then
                    f51.j2b k s_ at_ (IntKind.i64.wrap (at_ + ((cel 1 r17.cells).toInt))) c0 c0_1 out 1 at_ (⟨#[]⟩ : ByteArray) ((cel 0 r17.cells).toInt)
                    else none
                  else none
                else none
              else none
            else none
          else
            if 0 ≤ at_ then
              if at_ < (s_.size : Int) then
                if ((bt s_ at_) == 34) = true then
                  (D 95 [.sc (.string s_), .sc (.int .i64 at_)]).bind fun r18 => if hasSh (.tup [.str, (.int .i64)]) r18 = true then
                  if decide (((cel 1 r18.parts).toInt) ≥ 0) = true then
                    f51.j2b k s_ at_ ((cel 1 r18.parts).toInt) c0 c0_1 out 2 at_ ((cel 0 r18.parts).toStr) 0
                  else
                    f51.j2b k s_ at_ at_ c0 c0_1 out 2 at_ ((cel 0 r18.parts).toStr) 0
                  else none
                else
                  if 0 ≤ at_ then
                    if at_ < (s_.size : Int) then
                      (D 96 [.sc (.int .u8 (bt s_ at_))]).bind fun r19 => if hasSh .bool r19 = true then
                      if r19.toBool = true then
                        f51.l1b k s_ at_ at_ c0 c0_1 out 0 at_ (⟨#[]⟩ : ByteArray) 0
                      else
                        (D 97 [.sc (.string s_), .sc (.int .i64 at_)]).bind fun r20 => if hasSh .str r20 = true then
                        f51.j2b k s_ at_ (IntKind.i64.wrap (at_ + (r20.toStr.size : Int))) c0 c0_1 out 4 at_ r20.toStr 0
                        else none
                      else none
                    else none
                  else none
              else none
            else none
          else none
      else none
    else none
  else
    if (out.length + ([.agg [.sc (.int .i64 5), .sc (.int .i64 (s_.size : Int)), .sc (.string (⟨#[]⟩ : ByteArray)), .sc (.int .i64 0)]] : List PV).length) * 40 ≤ 140737488355328 ∧ out.length + ([.agg [.sc (.int .i64 5), .sc (.int .i64 (s_.size : Int)), .sc (.string (⟨#[]⟩ : ByteArray)), .sc (.int .i64 0)]] : List PV).length ≤ 140737488355328 then
      some (.agg [frozen 4 (out ++ ([.agg [.sc (.int .i64 5), .sc (.int .i64 (s_.size : Int)), .sc (.string (⟨#[]⟩ : ByteArray)), .sc (.int .i64 0)]] : List PV)), .sc (.int .i64 0), .sc (.int .i64 0)])
    else none :=
  (loopAt_eq _ _ _ _).trans (by kernel_rfl)
theorem f51.j2b_eq (k : Nat) (s_ : ByteArray) (at_ end_ c0 c0_1 : Int) (out : List PV) (t t_1 : Int) (t_2 : ByteArray) (t_3 : Int) : f51.j2b k s_ at_ end_ c0 c0_1 out t t_1 t_2 t_3 =
  if (end_ == at_) = true then
    some (.agg [.nils, .sc (.int .i64 at_), .sc (.int .i64 1)])
  else
    if (out.length + ([.agg [.sc (.int .i64 t), .sc (.int .i64 t_1), .sc (.string t_2), .sc (.int .i64 t_3)]] : List PV).length) * 40 ≤ 140737488355328 ∧ out.length + ([.agg [.sc (.int .i64 t), .sc (.int .i64 t_1), .sc (.string t_2), .sc (.int .i64 t_3)]] : List PV).length ≤ 140737488355328 then
      f51.l0b k s_ end_ c0 c0_1 (out ++ ([.agg [.sc (.int .i64 t), .sc (.int .i64 t_1), .sc (.string t_2), .sc (.int .i64 t_3)]] : List PV))
    else none :=
  (gateK_open _ _ _).trans (by kernel_rfl)
theorem f51.l1b_eq (k : Nat) (s_ : ByteArray) (at_ end_ c0 c0_1 : Int) (out : List PV) (t t_1 : Int) (t_2 : ByteArray) (t_3 : Int) : f51.l1b k s_ at_ end_ c0 c0_1 out t t_1 t_2 t_3 =
  Option.bind (α := PV) (
    if decide (end_ < (s_.size : Int)) = true then
      Option.bind (α := PV) (
        Option.bind (α := PV) (
          if 0 ≤ end_ then
            if end_ < (s_.size : Int) then
              Option.bind (α := PV) (
                (D 96 [.sc (.int .u8 (bt s_ end_))]).bind fun r21 => if hasSh .bool r21 = true then
                Option.bind (α := PV) (
                  Option.bind (α := PV) (
                    if r21.toBool = true then
                      some (.sc (.bool true))
                    else
                      Option.bind (α := PV) (
                        Option.bind (α := PV) (
                          (D 93 [.sc (.string s_), .sc (.int .i64 end_)]).bind fun r22 => if hasSh .bool r22 = true then
                          some (.sc (.bool r22.toBool))
                          else none) fun r23 =>
                        some (.sc (.bool r23.toBool))) fun r24 =>
                      some (.sc (.bool r24.toBool))) fun r25 =>
                  some (.sc (.bool r25.toBool))) fun r26 =>
                some (.sc (.bool r26.toBool))
                else none) fun r27 =>
              some (.sc (.bool r27.toBool))
            else none
          else none) fun r28 =>
        some (.sc (.bool r28.toBool))) fun r29 =>
      some (.sc (.bool r29.toBool))
    else
      some (.sc (.bool false))) fun r30 =>
  if r30.toBool = true then
    f51.l1b k s_ at_ (IntKind.i64.wrap (end_ + 1)) c0 c0_1 out t t_1 t_2 t_3
  else
    if 0 ≤ end_ then
      if end_ ≤ (s_.size : Int) then
        if 0 ≤ at_ then
          if at_ ≤ end_ then
            f51.j2b k s_ at_ end_ c0 c0_1 out 3 t_1 (s_.extract at_.toNat end_.toNat) t_3
          else none
        else none
      else none
    else none :=
  (loopAt_eq _ _ _ _).trans (by kernel_rfl)
-- oculus/oculusref11.Digit
theorem f93_eq (k : Nat) (t : ByteArray) (i : Int) : D 93 [.sc (.string t), .sc (.int .i64 i)] =
  Option.bind (α := PV) (
    if decide (i < (t.size : Int)) = true then
      Option.bind (α := PV) (
        Option.bind (α := PV) (
          if 0 ≤ i then
            if i < (t.size : Int) then
              some (.sc (.bool (decide ((bt t i) ≥ 48))))
            else none
          else none) fun r1 =>
        some (.sc (.bool r1.toBool))) fun r2 =>
      some (.sc (.bool r2.toBool))
    else
      some (.sc (.bool false))) fun r3 =>
  Option.bind (α := PV) (
    if r3.toBool = true then
      Option.bind (α := PV) (
        Option.bind (α := PV) (
          if 0 ≤ i then
            if i < (t.size : Int) then
              some (.sc (.bool (decide ((bt t i) ≤ 57))))
            else none
          else none) fun r4 =>
        some (.sc (.bool r4.toBool))) fun r5 =>
      some (.sc (.bool r5.toBool))
    else
      some (.sc (.bool false))) fun r6 =>
  some (.sc (.bool r6.toBool)) :=
  (denI_eq k _ _).trans (by kernel_rfl)
-- oculus/oculusref11.Lead
noncomputable def f94.l0a (k : Nat) (t : ByteArray) (n_ c0 c0_1 : Int) (c0_2 : Bool) : Option PV := loopAt Tryz.prog cf ext hint k 94 [1, 1, 0, 0] ⟨[.sc (.string t), .top, .ptr 0 0, .sc (.int .i64 n_), .top, .top, .top, .top, .top, .top, .top, .top, .top, .top, .top, .top, .top, .top, .top, .top, .top, .top, .top, .top, .top, .top, .top, .top, .top, .top, .top, .top, .top, .top, .top, .top, .top, .top, .top, .top, .top, .top, .top, .top, .top, .top, .top, .top, .top, .top, .top, .top, .top, .top, .top, .top, .top, .top, .top, .top, .top], [.cells 116 [.sc (.int .i64 c0), .sc (.int .i64 c0_1), .sc (.bool c0_2)]], none⟩
noncomputable def f94.l1a (k : Nat) (t : ByteArray) (n_ k_ c0 c0_1 : Int) (c0_2 : Bool) : Option PV := loopAt Tryz.prog cf ext hint k 94 [1, 1, 1, 0, 1, 0, 1, 0, 0] ⟨[.sc (.string t), .top, .ptr 0 0, .sc (.int .i64 n_), .sc (.int .i64 k_), .top, .top, .top, .top, .top, .top, .top, .top, .top, .top, .top, .top, .top, .top, .top, .top, .top, .top, .top, .top, .top, .top, .top, .top, .top, .top, .top, .top, .top, .top, .top, .top, .top, .top, .top, .top, .top, .top, .top, .top, .top, .top, .top, .top, .top, .top, .top, .top, .top, .top, .top, .top, .top, .top, .top, .top], [.cells 116 [.sc (.int .i64 c0), .sc (.int .i64 c0_1), .sc (.bool c0_2)]], none⟩
noncomputable def f94.j2a (k : Nat) (t : ByteArray) (n_ c0 c0_1 : Int) (c0_2 : Bool) : Option PV := gateK k (placeAt Tryz.prog cf ext hint k 94 [1, 1, 1, 1]) ⟨[.sc (.string t), .top, .ptr 0 0, .sc (.int .i64 n_), .top, .top, .top, .top, .top, .top, .top, .top, .top, .top, .top, .top, .top, .top, .top, .top, .top, .top, .top, .top, .top, .top, .top, .top, .top, .top, .top, .top, .top, .top, .top, .top, .top, .top, .top, .top, .top, .top, .top, .top, .top, .top, .top, .top, .top, .top, .top, .top, .top, .top, .top, .top, .top, .top, .top, .top, .top], [.cells 116 [.sc (.int .i64 c0), .sc (.int .i64 c0_1), .sc (.bool c0_2)]], none⟩
theorem f94_eq (k : Nat) (t : ByteArray) : D 94 [.sc (.string t)] =
  f94.l0a k t 0 0 0 false :=
  (denI_eq k _ _).trans (by kernel_rfl)
theorem f94.l0a_eq (k : Nat) (t : ByteArray) (n_ c0 c0_1 : Int) (c0_2 : Bool) : f94.l0a k t n_ c0 c0_1 c0_2 =
  Option.bind (α := PV) (
    if decide (n_ < 30) = true then
      Option.bind (α := PV) (
        Option.bind (α := PV) (
          (D 93 [.sc (.string t), .sc (.int .i64 n_)]).bind fun r1 => if hasSh .bool r1 = true then
          some (.sc (.bool r1.toBool))
          else none) fun r2 =>
        some (.sc (.bool r2.toBool))) fun r3 =>
      some (.sc (.bool r3.toBool))
    else
      some (.sc (.bool false))) fun r4 =>
  if r4.toBool = true then
    f94.l0a k t (IntKind.i64.wrap (n_ + 1)) c0 c0_1 c0_2
  else
    Option.bind (α := PV) (
      if decide (n_ > 0) = true then
        some (.sc (.bool (decide (n_ < (t.size : Int)))))
      else
        some (.sc (.bool false))) fun r5 =>
    Option.bind (α := PV) (
      if r5.toBool = true then
        Option.bind (α := PV) (
          Option.bind (α := PV) (
            if 0 ≤ n_ then
              if n_ < (t.size : Int) then
                some (.sc (.bool ((bt t n_) == 46)))
              else none
            else none) fun r6 =>
          some (.sc (.bool r6.toBool))) fun r7 =>
        some (.sc (.bool r7.toBool))
      else
        some (.sc (.bool false))) fun r8 =>
    Option.bind (α := PV) (
      if r8.toBool = true then
        Option.bind (α := PV) (
          Option.bind (α := PV) (
            Option.bind (α := PV) (
              (D 93 [.sc (.string t), .sc (.int .i64 (IntKind.i64.wrap (n_ + 1)))]).bind fun r9 => if hasSh .bool r9 = true then
              some (.sc (.bool r9.toBool))
              else none) fun r10 =>
            some (.sc (.bool r10.toBool))) fun r11 =>
          some (.sc (.bool r11.toBool))) fun r12 =>
        some (.sc (.bool r12.toBool))
      else
        some (.sc (.bool false))) fun r13 =>
    if r13.toBool = true then
      f94.l1a k t n_ 1 c0 c0_1 c0_2
    else
      f94.j2a k t n_ c0 c0_1 c0_2 :=
  (loopAt_eq _ _ _ _).trans (by kernel_rfl)
theorem f94.l1a_eq (k : Nat) (t : ByteArray) (n_ k_ c0 c0_1 : Int) (c0_2 : Bool) : f94.l1a k t n_ k_ c0 c0_1 c0_2 =
  Option.bind (α := PV) (
    if decide (k_ ≤ 4) = true then
      Option.bind (α := PV) (
        Option.bind (α := PV) (
          Option.bind (α := PV) (
            Option.bind (α := PV) (
              (D 93 [.sc (.string t), .sc (.int .i64 (IntKind.i64.wrap (n_ + k_)))]).bind fun r14 => if hasSh .bool r14 = true then
              some (.sc (.bool r14.toBool))
              else none) fun r15 =>
            some (.sc (.bool r15.toBool))) fun r16 =>
          some (.sc (.bool r16.toBool))) fun r17 =>
        some (.sc (.bool r17.toBool))) fun r18 =>
      some (.sc (.bool r18.toBool))
    else
      some (.sc (.bool false))) fun r19 =>
  if r19.toBool = true then
    f94.l1a k t n_ (IntKind.i64.wrap (k_ + 1)) c0 c0_1 c0_2
  else
    f94.j2a k t (IntKind.i64.wrap (n_ + k_)) c0 c0_1 c0_2 :=
  (loopAt_eq _ _ _ _).trans (by kernel_rfl)
theorem f94.j2a_eq (k : Nat) (t : ByteArray) (n_ c0 c0_1 : Int) (c0_2 : Bool) : f94.j2a k t n_ c0 c0_1 c0_2 =
  if 0 ≤ n_ then
    if n_ ≤ (t.size : Int) then
      if 0 ≤ n_ then
        (D 66 [.sc (.string (t.extract 0 n_.toNat))]).bind fun r20 => if hasSh (.agg [(.int .i64), .bool]) r20 = true then
        if (!((cel 1 r20.cells).toBool)) = true then
          some (.agg [.sc (.int .i64 0), .sc (.int .i64 0), .sc (.bool false)])
        else
          some (.agg [.sc (.int .i64 ((cel 0 r20.cells).toInt)), .sc (.int .i64 n_), .sc (.bool true)])
        else none
      else none
    else none
  else none :=
  (gateK_open _ _ _).trans (by kernel_rfl)
-- oculus/oculusref11.Read
noncomputable def f66.j0a (k : Nat) (t : ByteArray) (minus : Bool) (c0 : Int) (c0_1 : Bool) : Option PV := gateK k (placeAt Tryz.prog cf ext hint k 66 [1, 1, 1, 1]) ⟨[.sc (.string t), .top, .ptr 0 0, .sc (.bool minus), .top, .top, .top, .top, .top, .top, .top, .top, .top, .top, .top, .top, .top, .top, .top, .top, .top, .top, .top, .top, .top, .top, .top, .top, .top, .top, .top, .top, .top, .top, .top, .top, .top, .top, .top, .top, .top, .top, .top, .top, .top, .top, .top, .top, .top, .top, .top, .top, .top, .top, .top, .top, .top, .top, .top, .top, .top, .top, .top, .top, .top, .top, .top, .top, .top, .top, .top, .top, .top, .top, .top, .top, .top, .top, .top, .top, .top, .top, .top, .top], [.cells 93 [.sc (.int .i64 c0), .sc (.bool c0_1)]], none⟩
noncomputable def f66.l1a (k : Nat) (t : ByteArray) (minus : Bool) (behind i c0 : Int) (c0_1 : Bool) (n_ : Int) (n__1 : Bool) : Option PV := loopAt Tryz.prog cf ext hint k 66 [1, 1, 1, 1, 1, 1, 0, 1, 0] ⟨[.sc (.string t), .top, .ptr 0 0, .sc (.bool minus), .ptr 1 0, .sc (.int .i64 behind), .sc (.int .i64 i), .top, .top, .top, .top, .top, .top, .top, .top, .top, .top, .top, .top, .top, .top, .top, .top, .top, .top, .top, .top, .top, .top, .top, .top, .top, .top, .top, .top, .top, .top, .top, .top, .top, .top, .top, .top, .top, .top, .top, .top, .top, .top, .top, .top, .top, .top, .top, .top, .top, .top, .top, .top, .top, .top, .top, .top, .top, .top, .top, .top, .top, .top, .top, .top, .top, .top, .top, .top, .top, .top, .top, .top, .top, .top, .top, .top, .top], [.cells 93 [.sc (.int .i64 c0), .sc (.bool c0_1)], .cells 93 [.sc (.int .i64 n_), .sc (.bool n__1)]], none⟩
noncomputable def f66.j2a (k : Nat) (t : ByteArray) (minus : Bool) (behind i c0 : Int) (c0_1 : Bool) (n_ : Int) (n__1 : Bool) : Option PV := gateK k (placeAt Tryz.prog cf ext hint k 66 [1, 1, 1, 1, 1, 1, 0, 1, 0, 0, 1, 0, 0, 1, 1, 1]) ⟨[.sc (.string t), .top, .ptr 0 0, .sc (.bool minus), .ptr 1 0, .sc (.int .i64 behind), .sc (.int .i64 i), .top, .top, .top, .top, .top, .top, .top, .top, .top, .top, .top, .top, .top, .top, .top, .top, .top, .top, .top, .top, .top, .top, .top, .top, .top, .top, .top, .top, .top, .top, .top, .top, .top, .top, .top, .top, .top, .top, .top, .top, .top, .top, .top, .top, .top, .top, .top, .top, .top, .top, .top, .top, .top, .top, .top, .top, .top, .top, .top, .top, .top, .top, .top, .top, .top, .top, .top, .top, .top, .top, .top, .top, .top, .top, .top, .top, .top], [.cells 93 [.sc (.int .i64 c0), .sc (.bool c0_1)], .cells 93 [.sc (.int .i64 n_), .sc (.bool n__1)]], none⟩
noncomputable def f66.l3a (k : Nat) (minus : Bool) (k_ c0 : Int) (c0_1 : Bool) (n_ : Int) (n__1 : Bool) : Option PV := loopAt Tryz.prog cf ext hint k 66 [1, 1, 1, 1, 1, 1, 1, 1, 0, 1, 0] ⟨[.top, .top, .ptr 0 0, .sc (.bool minus), .ptr 1 0, .top, .top, .sc (.int .i64 k_), .top, .top, .top, .top, .top, .top, .top, .top, .top, .top, .top, .top, .top, .top, .top, .top, .top, .top, .top, .top, .top, .top, .top, .top, .top, .top, .top, .top, .top, .top, .top, .top, .top, .top, .top, .top, .top, .top, .top, .top, .top, .top, .top, .top, .top, .top, .top, .top, .top, .top, .top, .top, .top, .top, .top, .top, .top, .top, .top, .top, .top, .top, .top, .top, .top, .top, .top, .top, .top, .top, .top, .top, .top, .top, .top, .top], [.cells 93 [.sc (.int .i64 c0), .sc (.bool c0_1)], .cells 93 [.sc (.int .i64 n_), .sc (.bool n__1)]], none⟩
theorem f66_eq (k : Nat) (t : ByteArray) : D 66 [.sc (.string t)] =
  if decide ((t.size : Int) > 40) = true then
    some (.agg [.sc (.int .i64 0), .sc (.bool false)])
  else
    Option.bind (α := PV) (
      if decide ((t.size : Int) > 0) = true then
        Option.bind (α := PV) (
          if 0 < (t.size : Int) then
            some (.sc (.bool ((bt t 0) == 45)))
          else none) fun r1 =>
        some (.sc (.bool r1.toBool))
      else
        some (.sc (.bool false))) fun r2 =>
    if r2.toBool = true then
      if 0 ≤ (t.size : Int) then
        if (t.size : Int) ≤ (t.size : Int) then
          if 1 ≤ (t.size : Int) then
            f66.j0a k (t.extract 1 (t.size : Int).toNat) r2.toBool 0 false
          else none
        else none
      else none
    else
      f66.j0a k t r2.toBool 0 false :=
  (denI_eq k _ _).trans (by kernel_rfl)
theorem f66.j0a_eq (k : Nat) (t : ByteArray) (minus : Bool) (c0 : Int) (c0_1 : Bool) : f66.j0a k t minus c0 c0_1 =
  f66.l1a k t minus (-1) 0 c0 c0_1 0 true :=
  (gateK_open _ _ _).trans (by kernel_rfl)
theorem f66.l1a_eq (k : Nat) (t : ByteArray) (minus : Bool) (behind i c0 : Int) (c0_1 : Bool) (n_ : Int) (n__1 : Bool) : f66.l1a k t minus behind i c0 c0_1 n_ n__1 =
  if decide (i < (t.size : Int)) = true then
    if 0 ≤ i then
      if i < (t.size : Int) then
        Option.bind (α := PV) (
          if ((bt t i) == 46) = true then
            some (.sc (.bool (decide (behind < 0))))
          else
            some (.sc (.bool false))) fun r3 =>
        Option.bind (α := PV) (
          if r3.toBool = true then
            some (.sc (.bool (decide (i > 0))))
          else
            some (.sc (.bool false))) fun r4 =>
        if r4.toBool = true then
          f66.l1a k t minus 0 (IntKind.i64.wrap (i + 1)) c0 c0_1 n_ n__1
        else
          (D 93 [.sc (.string t), .sc (.int .i64 i)]).bind fun r5 => if hasSh .bool r5 = true then
          if (!r5.toBool) = true then
            some (.agg [.sc (.int .i64 0), .sc (.bool false)])
          else
            if decide (behind ≥ 0) = true then
              f66.j2a k t minus (IntKind.i64.wrap (behind + 1)) i c0 c0_1 n_ n__1
            else
              f66.j2a k t minus behind i c0 c0_1 n_ n__1
          else none
      else none
    else none
  else
    Option.bind (α := PV) (
      if ((t.size : Int) == 0) = true then
        some (.sc (.bool true))
      else
        some (.sc (.bool (behind == 0)))) fun r6 =>
    Option.bind (α := PV) (
      if r6.toBool = true then
        some (.sc (.bool true))
      else
        some (.sc (.bool (decide (behind > 4))))) fun r7 =>
    if r7.toBool = true then
      some (.agg [.sc (.int .i64 0), .sc (.bool false)])
    else
      f66.l3a k minus (if 0 > behind then 0 else behind) c0 c0_1 n_ n__1 :=
  (loopAt_eq _ _ _ _).trans (by kernel_rfl)
theorem f66.j2a_eq (k : Nat) (t : ByteArray) (minus : Bool) (behind i c0 : Int) (c0_1 : Bool) (n_ : Int) (n__1 : Bool) : f66.j2a k t minus behind i c0 c0_1 n_ n__1 =
  if 0 ≤ i then
    if i < (t.size : Int) then
      (D 110 [.agg [.sc (.int .i64 n_), .sc (.bool n__1)], .sc (.int .i64 (IntKind.i64.wrap ((IntKind.i64.wrap (bt t i)) - 48)))]).bind fun r8 => if hasSh (.agg [(.int .i64), .bool]) r8 = true then
      f66.l1a k t minus behind (IntKind.i64.wrap (i + 1)) c0 c0_1 ((cel 0 r8.cells).toInt) ((cel 1 r8.cells).toBool)
      else none
    else none
  else none :=
  (gateK_open _ _ _).trans (by kernel_rfl)
theorem f66.l3a_eq (k : Nat) (minus : Bool) (k_ c0 : Int) (c0_1 : Bool) (n_ : Int) (n__1 : Bool) : f66.l3a k minus k_ c0 c0_1 n_ n__1 =
  if decide (k_ < 4) = true then
    (D 110 [.agg [.sc (.int .i64 n_), .sc (.bool n__1)], .sc (.int .i64 0)]).bind fun r9 => if hasSh (.agg [(.int .i64), .bool]) r9 = true then
    f66.l3a k minus (IntKind.i64.wrap (k_ + 1)) c0 c0_1 ((cel 0 r9.cells).toInt) ((cel 1 r9.cells).toBool)
    else none
  else
    if minus = true then
      some (.agg [.sc (.int .i64 (IntKind.i64.wrap ((0 : Int) - n_))), .sc (.bool n__1)])
    else
      some (.agg [.sc (.int .i64 n_), .sc (.bool n__1)]) :=
  (loopAt_eq _ _ _ _).trans (by kernel_rfl)
-- oculus/oculusref11.more
theorem f110_eq (k : Nat) (n_ : Int) (n__1 : Bool) (d_ : Int) : D 110 [.agg [.sc (.int .i64 n_), .sc (.bool n__1)], .sc (.int .i64 d_)] =
  if (!n__1) = true then
    some (.agg [.sc (.int .i64 n_), .sc (.bool n__1)])
  else
    (D 146 [.sc (.int .i64 n_), .sc (.int .i64 10), .sc (.int .i64 1)]).bind fun r1 => if hasSh (.agg [(.int .i64), .bool]) r1 = true then
    if (!((cel 1 r1.cells).toBool)) = true then
      some (.agg [.sc (.int .i64 ((cel 0 r1.cells).toInt)), .sc (.bool ((cel 1 r1.cells).toBool))])
    else
      (D 147 [.sc (.int .i64 ((cel 0 r1.cells).toInt)), .sc (.int .i64 d_)]).bind fun r2 => if hasSh (.agg [(.int .i64), .bool]) r2 = true then
      some (.agg [.sc (.int .i64 ((cel 0 r2.cells).toInt)), .sc (.bool ((cel 1 r2.cells).toBool))])
      else none
    else none :=
  (denI_eq k _ _).trans (by kernel_rfl)
end EX
end Go.Den
