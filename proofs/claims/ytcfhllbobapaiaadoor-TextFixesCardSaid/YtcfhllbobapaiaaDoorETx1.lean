import Derived.Test.YtcfhllbobapaiaaDoorETh
import Derived.KernelRfl
set_option maxRecDepth 100000
set_option linter.unusedVariables false
namespace Go.Den
open Go Go.Proofs
namespace ET
-- oculus/oculusref14.Join
noncomputable def f61.l0a (k : Nat) (ln : Nat) (lf : Nat → PV) (s_ : ByteArray) (i : Int) (c0 : ByteArray) (c0_1 : Bool) : Option PV := loopAt Tryd.prog cf ext hint k 61 [1, 1, 0, 1, 0] ⟨[.lst 1 ln lf, .top, .ptr 0 0, .sc (.string s_), .sc (.int .i64 i), .top, .top, .top, .top, .top, .top, .top, .top, .top, .top, .top, .top, .top, .top, .top, .top, .top, .top, .top], [.cells 67 [.sc (.string c0), .sc (.bool c0_1)]], none⟩
theorem f61_eq (k : Nat) (ln : Nat) (lf : Nat → PV) : D 61 [.lst 1 ln lf] =
  f61.l0a k ln lf (⟨#[]⟩ : ByteArray) 0 (⟨#[]⟩ : ByteArray) false :=
  (denI_eq k _ _).trans (by kernel_rfl)
theorem f61.l0a_eq (k : Nat) (ln : Nat) (lf : Nat → PV) (s_ : ByteArray) (i : Int) (c0 : ByteArray) (c0_1 : Bool) : f61.l0a k ln lf s_ i c0 c0_1 =
  Option.bind (α := PV) (
    if decide (i < (ln : Int)) = true then
      some (.sc (.bool (decide ((s_.size : Int) ≤ 256))))
    else
      some (.sc (.bool false))) fun r1 =>
  if r1.toBool = true then
    if 0 ≤ i then
      if i < (ln : Int) then
        if hasSh .str (lf i.toNat) = true then
          if s_.size + ((lf i.toNat).toStr).size ≤ 9223372036854775807 then
            f61.l0a k ln lf (s_ ++ ((lf i.toNat).toStr)) (IntKind.i64.wrap (i + 1)) c0 c0_1
          else none
        else none
      else none
    else none
  else
    (D 109 [.sc (.string s_)]).bind fun r2 => if hasSh (.agg [.str, .bool]) r2 = true then
    some (.agg [.sc (.string ((cel 0 r2.cells).toStr)), .sc (.bool ((cel 1 r2.cells).toBool))])
    else none :=
  (loopAt_eq _ _ _ _).trans (by kernel_rfl)
-- oculus/oculusref14.room
theorem f109_eq (k : Nat) (s_ : ByteArray) : D 109 [.sc (.string s_)] =
  if decide ((s_.size : Int) > 256) = true then
    some (.agg [.sc (.string (⟨#[]⟩ : ByteArray)), .sc (.bool false)])
  else
    some (.agg [.sc (.string s_), .sc (.bool true)]) :=
  (denI_eq k _ _).trans (by kernel_rfl)
-- oculus/oculuslaw14.TextTurns
theorem f13_eq (k : Nat) (t : ByteArray) : D 13 [.sc (.string t)] =
  if decide ((t.size : Int) > 400) = true then
    (D 47 []).bind fun r1 => if hasSh .bool r1 = true then
    some (.sc (.bool r1.toBool))
    else none
  else
    (D 54 [.sc (.string t)]).bind fun r2 => if hasSh .str r2 = true then
    (D 55 [.sc (.string t)]).bind fun r3 => if hasSh .str r3 = true then
    (D 56 [.sc (.string t)]).bind fun r4 => if hasSh .str r4 = true then
    (D 57 [.sc (.string t)]).bind fun r5 => if hasSh .str r5 = true then
    (D 58 [.sc (.string t), .sc (.int .i64 0)]).bind fun r6 => if hasSh .str r6 = true then
    Option.bind (α := PV) (
      if (!(r2.toStr.toList == r6.toStr.toList)) = true then
        some (.sc (.bool true))
      else
        Option.bind (α := PV) (
          Option.bind (α := PV) (
            (D 58 [.sc (.string t), .sc (.int .i64 1)]).bind fun r7 => if hasSh .str r7 = true then
            some (.sc (.bool (!(r3.toStr.toList == r7.toStr.toList))))
            else none) fun r8 =>
          some (.sc (.bool r8.toBool))) fun r9 =>
        some (.sc (.bool r9.toBool))) fun r10 =>
    Option.bind (α := PV) (
      if r10.toBool = true then
        some (.sc (.bool true))
      else
        Option.bind (α := PV) (
          Option.bind (α := PV) (
            (D 58 [.sc (.string t), .sc (.int .i64 2)]).bind fun r11 => if hasSh .str r11 = true then
            some (.sc (.bool (!(r4.toStr.toList == r11.toStr.toList))))
            else none) fun r12 =>
          some (.sc (.bool r12.toBool))) fun r13 =>
        some (.sc (.bool r13.toBool))) fun r14 =>
    Option.bind (α := PV) (
      if r14.toBool = true then
        some (.sc (.bool true))
      else
        Option.bind (α := PV) (
          Option.bind (α := PV) (
            (D 59 [.sc (.string t)]).bind fun r15 => if hasSh .str r15 = true then
            some (.sc (.bool (!(r5.toStr.toList == r15.toStr.toList))))
            else none) fun r16 =>
          some (.sc (.bool r16.toBool))) fun r17 =>
        some (.sc (.bool r17.toBool))) fun r18 =>
    if r18.toBool = true then
      some (.sc (.bool false))
    else
      (D 54 [.sc (.string r2.toStr)]).bind fun r19 => if hasSh .str r19 = true then
      Option.bind (α := PV) (
        if (r19.toStr.toList == r2.toStr.toList) = true then
          Option.bind (α := PV) (
            (D 55 [.sc (.string r3.toStr)]).bind fun r20 => if hasSh .str r20 = true then
            some (.sc (.bool (r20.toStr.toList == r3.toStr.toList)))
            else none) fun r21 =>
          some (.sc (.bool r21.toBool))
        else
          some (.sc (.bool false))) fun r22 =>
      Option.bind (α := PV) (
        if r22.toBool = true then
          Option.bind (α := PV) (
            (D 56 [.sc (.string r4.toStr)]).bind fun r23 => if hasSh .str r23 = true then
            some (.sc (.bool (r23.toStr.toList == r4.toStr.toList)))
            else none) fun r24 =>
          some (.sc (.bool r24.toBool))
        else
          some (.sc (.bool false))) fun r25 =>
      Option.bind (α := PV) (
        if r25.toBool = true then
          Option.bind (α := PV) (
            (D 57 [.sc (.string r5.toStr)]).bind fun r26 => if hasSh .str r26 = true then
            some (.sc (.bool (r26.toStr.toList == r5.toStr.toList)))
            else none) fun r27 =>
          some (.sc (.bool r27.toBool))
        else
          some (.sc (.bool false))) fun r28 =>
      Option.bind (α := PV) (
        if r28.toBool = true then
          Option.bind (α := PV) (
            (D 54 [.sc (.string r3.toStr)]).bind fun r29 => if hasSh .str r29 = true then
            some (.sc (.bool (r29.toStr.toList == r2.toStr.toList)))
            else none) fun r30 =>
          some (.sc (.bool r30.toBool))
        else
          some (.sc (.bool false))) fun r31 =>
      Option.bind (α := PV) (
        if r31.toBool = true then
          (D 47 []).bind fun r32 => if hasSh .bool r32 = true then
          some (.sc (.bool r32.toBool))
          else none
        else
          some (.sc (.bool false))) fun r33 =>
      some (.sc (.bool r33.toBool))
      else none
    else none
    else none
    else none
    else none
    else none :=
  (denI_eq k _ _).trans (by kernel_rfl)
-- oculus/text.Upper
theorem f54_eq (k : Nat) (t : ByteArray) : D 54 [.sc (.string t)] =
  (D 113 [.sc (.string t), .sc (.int .i64 0)]).bind fun r1 => if hasSh .str r1 = true then
  some (.sc (.string r1.toStr))
  else none :=
  (denI_eq k _ _).trans (by kernel_rfl)
-- oculus/text.Lower
theorem f55_eq (k : Nat) (t : ByteArray) : D 55 [.sc (.string t)] =
  (D 113 [.sc (.string t), .sc (.int .i64 1)]).bind fun r1 => if hasSh .str r1 = true then
  some (.sc (.string r1.toStr))
  else none :=
  (denI_eq k _ _).trans (by kernel_rfl)
-- oculus/oculusref14.Turn
noncomputable def f58.l0a (k : Nat) (t : ByteArray) (way i : Int) (out : List PV) : Option PV := loopAt Tryd.prog cf ext hint k 58 [1, 1, 0, 1, 0] ⟨[.sc (.string t), .sc (.int .i64 way), .top, .top, .top, .buf 0 0, .sc (.int .i64 i), .top, .top, .top, .top, .top, .top, .top, .top, .top, .top, .top, .top, .top, .top, .top, .top, .top, .top, .top, .top, .top, .top, .top, .top, .top, .top, .top, .top, .top, .top, .top, .top, .top, .top, .top, .top, .top, .top, .top, .top, .top, .top], [.buf 5 0 out], none⟩
theorem f58_eq (k : Nat) (t : ByteArray) (way : Int) : D 58 [.sc (.string t), .sc (.int .i64 way)] =
  f58.l0a k t way 0 ([] : List PV) :=
  (denI_eq k _ _).trans (by kernel_rfl)
theorem f58.l0a_eq (k : Nat) (t : ByteArray) (way i : Int) (out : List PV) : f58.l0a k t way i out =
  if decide (i < (t.size : Int)) = true then
    Option.bind (α := PV) (
      if decide (i > 0) = true then
        Option.bind (α := PV) (
          Option.bind (α := PV) (
            Option.bind (α := PV) (
              if 0 ≤ IntKind.i64.wrap (i - 1) then
                if IntKind.i64.wrap (i - 1) < (t.size : Int) then
                  Option.bind (α := PV) (
                    (D 119 [.sc (.int .u8 (bt t (IntKind.i64.wrap (i - 1))))]).bind fun r1 => if hasSh .bool r1 = true then
                    some (.sc (.bool r1.toBool))
                    else none) fun r2 =>
                  some (.sc (.bool r2.toBool))
                else none
              else none) fun r3 =>
            some (.sc (.bool r3.toBool))) fun r4 =>
          some (.sc (.bool r4.toBool))) fun r5 =>
        some (.sc (.bool r5.toBool))
      else
        some (.sc (.bool false))) fun r6 =>
    Option.bind (α := PV) (
      if (way == 1) = true then
        some (.sc (.bool true))
      else
        Option.bind (α := PV) (
          Option.bind (α := PV) (
            Option.bind (α := PV) (
              if (way == 2) = true then
                some (.sc (.bool r6.toBool))
              else
                some (.sc (.bool false))) fun r7 =>
            some (.sc (.bool r7.toBool))) fun r8 =>
          some (.sc (.bool r8.toBool))) fun r9 =>
        some (.sc (.bool r9.toBool))) fun r10 =>
    if r10.toBool = true then
      if 0 ≤ i then
        if i < (t.size : Int) then
          (D 120 [.sc (.int .u8 (bt t i))]).bind fun r11 => if hasSh (.int .u8) r11 = true then
          if (out.length + ([.sc (.int .u8 r11.toInt)] : List PV).length) * 1 ≤ 140737488355328 ∧ out.length + ([.sc (.int .u8 r11.toInt)] : List PV).length ≤ 140737488355328 then
            f58.l0a k t way (IntKind.i64.wrap (i + 1)) (out ++ ([.sc (.int .u8 r11.toInt)] : List PV))
          else none
          else none
        else none
      else none
    else
      if 0 ≤ i then
        if i < (t.size : Int) then
          (D 121 [.sc (.int .u8 (bt t i))]).bind fun r12 => if hasSh (.int .u8) r12 = true then
          if (out.length + ([.sc (.int .u8 r12.toInt)] : List PV).length) * 1 ≤ 140737488355328 ∧ out.length + ([.sc (.int .u8 r12.toInt)] : List PV).length ≤ 140737488355328 then
            f58.l0a k t way (IntKind.i64.wrap (i + 1)) (out ++ ([.sc (.int .u8 r12.toInt)] : List PV))
          else none
          else none
        else none
      else none
  else
    if out.all (hasSh (.int .u8)) = true then
      some (.sc (.string (bytesOf out)))
    else none :=
  (loopAt_eq _ _ _ _).trans (by kernel_rfl)
-- oculus/oculusref14.letter
theorem f119_eq (k : Nat) (b : Int) : D 119 [.sc (.int .u8 b)] =
  Option.bind (α := PV) (
    if decide (b ≥ 65) = true then
      some (.sc (.bool (decide (b ≤ 90))))
    else
      some (.sc (.bool false))) fun r1 =>
  Option.bind (α := PV) (
    if r1.toBool = true then
      some (.sc (.bool true))
    else
      Option.bind (α := PV) (
        Option.bind (α := PV) (
          Option.bind (α := PV) (
            if decide (b ≥ 97) = true then
              some (.sc (.bool (decide (b ≤ 122))))
            else
              some (.sc (.bool false))) fun r2 =>
          some (.sc (.bool r2.toBool))) fun r3 =>
        some (.sc (.bool r3.toBool))) fun r4 =>
      some (.sc (.bool r4.toBool))) fun r5 =>
  some (.sc (.bool r5.toBool)) :=
  (denI_eq k _ _).trans (by kernel_rfl)
-- oculus/oculusref14.down
theorem f120_eq (k : Nat) (b : Int) : D 120 [.sc (.int .u8 b)] =
  Option.bind (α := PV) (
    if decide (b ≥ 65) = true then
      some (.sc (.bool (decide (b ≤ 90))))
    else
      some (.sc (.bool false))) fun r1 =>
  if r1.toBool = true then
    some (.sc (.int .u8 (IntKind.u8.wrap (b + 32))))
  else
    some (.sc (.int .u8 b)) :=
  (denI_eq k _ _).trans (by kernel_rfl)
-- oculus/oculusref14.up
theorem f121_eq (k : Nat) (b : Int) : D 121 [.sc (.int .u8 b)] =
  Option.bind (α := PV) (
    if decide (b ≥ 97) = true then
      some (.sc (.bool (decide (b ≤ 122))))
    else
      some (.sc (.bool false))) fun r1 =>
  if r1.toBool = true then
    some (.sc (.int .u8 (IntKind.u8.wrap (b - 32))))
  else
    some (.sc (.int .u8 b)) :=
  (denI_eq k _ _).trans (by kernel_rfl)
-- oculus/oculusref14.Trim
noncomputable def f59.l0a (k : Nat) (t : ByteArray) (i : Int) (out : List PV) : Option PV := loopAt Tryd.prog cf ext hint k 59 [1, 1, 0, 1, 0] ⟨[.sc (.string t), .top, .top, .buf 0 0, .sc (.int .i64 i), .top, .top, .top, .top, .top, .top, .top, .top, .top, .top, .top, .top, .top, .top, .top, .top, .top, .top, .top, .top, .top, .top, .top, .top, .top, .top, .top, .top, .top, .top, .top, .top, .top, .top, .top, .top, .top, .top, .top, .top, .top, .top, .top, .top, .top, .top, .top, .top, .top, .top, .top, .top], [.buf 5 0 out], none⟩
noncomputable def f59.l1a (k : Nat) (t : ByteArray) (i : Int) (last : Bool) (k_ : Int) (out : List PV) : Option PV := loopAt Tryd.prog cf ext hint k 59 [1, 1, 0, 1, 0, 0, 1, 0, 0, 1, 1, 0, 1, 0] ⟨[.sc (.string t), .top, .top, .buf 0 0, .sc (.int .i64 i), .sc (.bool last), .sc (.int .i64 k_), .top, .top, .top, .top, .top, .top, .top, .top, .top, .top, .top, .top, .top, .top, .top, .top, .top, .top, .top, .top, .top, .top, .top, .top, .top, .top, .top, .top, .top, .top, .top, .top, .top, .top, .top, .top, .top, .top, .top, .top, .top, .top, .top, .top, .top, .top, .top, .top, .top, .top], [.buf 5 0 out], none⟩
theorem f59_eq (k : Nat) (t : ByteArray) : D 59 [.sc (.string t)] =
  f59.l0a k t 0 ([] : List PV) :=
  (denI_eq k _ _).trans (by kernel_rfl)
theorem f59.l0a_eq (k : Nat) (t : ByteArray) (i : Int) (out : List PV) : f59.l0a k t i out =
  if decide (i < (t.size : Int)) = true then
    if 0 ≤ i then
      if i < (t.size : Int) then
        if ((bt t i) != 32) = true then
          if 0 ≤ i then
            if i < (t.size : Int) then
              if (out.length + ([.sc (.int .u8 (bt t i))] : List PV).length) * 1 ≤ 140737488355328 ∧ out.length + ([.sc (.int .u8 (bt t i))] : List PV).length ≤ 140737488355328 then
                f59.l0a k t (IntKind.i64.wrap (i + 1)) (out ++ ([.sc (.int .u8 (bt t i))] : List PV))
              else none
            else none
          else none
        else
          f59.l1a k t i true i out
      else none
    else none
  else
    if out.all (hasSh (.int .u8)) = true then
      some (.sc (.string (bytesOf out)))
    else none :=
  (loopAt_eq _ _ _ _).trans (by kernel_rfl)
theorem f59.l1a_eq (k : Nat) (t : ByteArray) (i : Int) (last : Bool) (k_ : Int) (out : List PV) : f59.l1a k t i last k_ out =
  if decide (k_ < (t.size : Int)) = true then
    Option.bind (α := PV) (
      if last = true then
        Option.bind (α := PV) (
          Option.bind (α := PV) (
            if 0 ≤ k_ then
              if k_ < (t.size : Int) then
                some (.sc (.bool ((bt t k_) == 32)))
              else none
            else none) fun r1 =>
          some (.sc (.bool r1.toBool))) fun r2 =>
        some (.sc (.bool r2.toBool))
      else
        some (.sc (.bool false))) fun r3 =>
    f59.l1a k t i r3.toBool (IntKind.i64.wrap (k_ + 1)) out
  else
    Option.bind (α := PV) (
      if decide ((out.length : Int) > 0) = true then
        some (.sc (.bool (!last)))
      else
        some (.sc (.bool false))) fun r4 =>
    Option.bind (α := PV) (
      if r4.toBool = true then
        Option.bind (α := PV) (
          Option.bind (α := PV) (
            Option.bind (α := PV) (
              if 0 ≤ IntKind.i64.wrap (i - 1) then
                if IntKind.i64.wrap (i - 1) < (t.size : Int) then
                  some (.sc (.bool ((bt t (IntKind.i64.wrap (i - 1))) != 32)))
                else none
              else none) fun r5 =>
            some (.sc (.bool r5.toBool))) fun r6 =>
          some (.sc (.bool r6.toBool))) fun r7 =>
        some (.sc (.bool r7.toBool))
      else
        some (.sc (.bool false))) fun r8 =>
    if r8.toBool = true then
      if (out.length + ([.sc (.int .u8 32)] : List PV).length) * 1 ≤ 140737488355328 ∧ out.length + ([.sc (.int .u8 32)] : List PV).length ≤ 140737488355328 then
        f59.l0a k t (IntKind.i64.wrap (i + 1)) (out ++ ([.sc (.int .u8 32)] : List PV))
      else none
    else
      f59.l0a k t (IntKind.i64.wrap (i + 1)) out :=
  (loopAt_eq _ _ _ _).trans (by kernel_rfl)
-- oculus/oculuslaw14.TextFixes
theorem f12_eq (k : Nat) (x_ places : Int) : D 12 [.sc (.int .i64 x_), .sc (.int .i64 places)] =
  (D 52 [.sc (.int .i64 x_), .sc (.int .i64 places)]).bind fun r1 => if hasSh (.tup [.str, .bool]) r1 = true then
  (D 53 [.sc (.int .i64 x_), .sc (.int .i64 places)]).bind fun r2 => if hasSh (.agg [.str, .bool]) r2 = true then
  Option.bind (α := PV) (
    if (!(((cel 0 r1.parts).toStr).toList == ((cel 0 r2.cells).toStr).toList)) = true then
      some (.sc (.bool true))
    else
      some (.sc (.bool (!(((cel 1 r1.parts).toBool) == ((cel 1 r2.cells).toBool)))))) fun r3 =>
  if r3.toBool = true then
    some (.sc (.bool false))
  else
    if (!((cel 1 r1.parts).toBool)) = true then
      (D 47 []).bind fun r4 => if hasSh .bool r4 = true then
      some (.sc (.bool r4.toBool))
      else none
    else
      (D 21 [.sc (.string ((cel 0 r1.parts).toStr))]).bind fun r5 => if hasSh (.agg [(.int .i64), .bool]) r5 = true then
      (D 52 [.sc (.int .i64 ((cel 0 r5.cells).toInt)), .sc (.int .i64 places)]).bind fun r6 => if hasSh (.tup [.str, .bool]) r6 = true then
      Option.bind (α := PV) (
        if (cel 1 r5.cells).toBool = true then
          some (.sc (.bool ((cel 1 r6.parts).toBool)))
        else
          some (.sc (.bool false))) fun r7 =>
      Option.bind (α := PV) (
        if r7.toBool = true then
          some (.sc (.bool (((cel 0 r6.parts).toStr).toList == ((cel 0 r1.parts).toStr).toList)))
        else
          some (.sc (.bool false))) fun r8 =>
      Option.bind (α := PV) (
        if r8.toBool = true then
          (D 47 []).bind fun r9 => if hasSh .bool r9 = true then
          some (.sc (.bool r9.toBool))
          else none
        else
          some (.sc (.bool false))) fun r10 =>
      some (.sc (.bool r10.toBool))
      else none
      else none
  else none
  else none :=
  (denI_eq k _ _).trans (by kernel_rfl)
-- oculus/oculusref11.Read
noncomputable def f21.j0a (k : Nat) (t : ByteArray) (minus : Bool) (c0 : Int) (c0_1 : Bool) : Option PV := gateK k (placeAt Tryd.prog cf ext hint k 21 [1, 1, 1, 1]) ⟨[.sc (.string t), .top, .ptr 0 0, .sc (.bool minus), .top, .top, .top, .top, .top, .top, .top, .top, .top, .top, .top, .top, .top, .top, .top, .top, .top, .top, .top, .top, .top, .top, .top, .top, .top, .top, .top, .top, .top, .top, .top, .top, .top, .top, .top, .top, .top, .top, .top, .top, .top, .top, .top, .top, .top, .top, .top, .top, .top, .top, .top, .top, .top, .top, .top, .top, .top, .top, .top, .top, .top, .top, .top, .top, .top, .top, .top, .top, .top, .top, .top, .top, .top, .top, .top, .top, .top, .top, .top, .top], [.cells 28 [.sc (.int .i64 c0), .sc (.bool c0_1)]], none⟩
noncomputable def f21.l1a (k : Nat) (t : ByteArray) (minus : Bool) (behind i c0 : Int) (c0_1 : Bool) (n_ : Int) (n__1 : Bool) : Option PV := loopAt Tryd.prog cf ext hint k 21 [1, 1, 1, 1, 1, 1, 0, 1, 0] ⟨[.sc (.string t), .top, .ptr 0 0, .sc (.bool minus), .ptr 1 0, .sc (.int .i64 behind), .sc (.int .i64 i), .top, .top, .top, .top, .top, .top, .top, .top, .top, .top, .top, .top, .top, .top, .top, .top, .top, .top, .top, .top, .top, .top, .top, .top, .top, .top, .top, .top, .top, .top, .top, .top, .top, .top, .top, .top, .top, .top, .top, .top, .top, .top, .top, .top, .top, .top, .top, .top, .top, .top, .top, .top, .top, .top, .top, .top, .top, .top, .top, .top, .top, .top, .top, .top, .top, .top, .top, .top, .top, .top, .top, .top, .top, .top, .top, .top, .top], [.cells 28 [.sc (.int .i64 c0), .sc (.bool c0_1)], .cells 28 [.sc (.int .i64 n_), .sc (.bool n__1)]], none⟩
noncomputable def f21.j2a (k : Nat) (t : ByteArray) (minus : Bool) (behind i c0 : Int) (c0_1 : Bool) (n_ : Int) (n__1 : Bool) : Option PV := gateK k (placeAt Tryd.prog cf ext hint k 21 [1, 1, 1, 1, 1, 1, 0, 1, 0, 0, 1, 0, 0, 1, 1, 1]) ⟨[.sc (.string t), .top, .ptr 0 0, .sc (.bool minus), .ptr 1 0, .sc (.int .i64 behind), .sc (.int .i64 i), .top, .top, .top, .top, .top, .top, .top, .top, .top, .top, .top, .top, .top, .top, .top, .top, .top, .top, .top, .top, .top, .top, .top, .top, .top, .top, .top, .top, .top, .top, .top, .top, .top, .top, .top, .top, .top, .top, .top, .top, .top, .top, .top, .top, .top, .top, .top, .top, .top, .top, .top, .top, .top, .top, .top, .top, .top, .top, .top, .top, .top, .top, .top, .top, .top, .top, .top, .top, .top, .top, .top, .top, .top, .top, .top, .top, .top], [.cells 28 [.sc (.int .i64 c0), .sc (.bool c0_1)], .cells 28 [.sc (.int .i64 n_), .sc (.bool n__1)]], none⟩
noncomputable def f21.l3a (k : Nat) (minus : Bool) (k_ c0 : Int) (c0_1 : Bool) (n_ : Int) (n__1 : Bool) : Option PV := loopAt Tryd.prog cf ext hint k 21 [1, 1, 1, 1, 1, 1, 1, 1, 0, 1, 0] ⟨[.top, .top, .ptr 0 0, .sc (.bool minus), .ptr 1 0, .top, .top, .sc (.int .i64 k_), .top, .top, .top, .top, .top, .top, .top, .top, .top, .top, .top, .top, .top, .top, .top, .top, .top, .top, .top, .top, .top, .top, .top, .top, .top, .top, .top, .top, .top, .top, .top, .top, .top, .top, .top, .top, .top, .top, .top, .top, .top, .top, .top, .top, .top, .top, .top, .top, .top, .top, .top, .top, .top, .top, .top, .top, .top, .top, .top, .top, .top, .top, .top, .top, .top, .top, .top, .top, .top, .top, .top, .top, .top, .top, .top, .top], [.cells 28 [.sc (.int .i64 c0), .sc (.bool c0_1)], .cells 28 [.sc (.int .i64 n_), .sc (.bool n__1)]], none⟩
theorem f21_eq (k : Nat) (t : ByteArray) : D 21 [.sc (.string t)] =
  if decide ((t.size : Int) > 40) = true then
    some (.agg [.sc (.int .i64 0), .sc (.bool false)])
  else
    Option.bind (α := PV) (
      if decide ((t.size : Int) > 0) = true then
        Option.bind (α := PV) (
          if 0 < (t.size : Int) then
            some (.sc (.bool ((bt t 0) == 45)))
          else none) fun r1 =>
        some (.sc (.bool r1.toBool))
      else
        some (.sc (.bool false))) fun r2 =>
    if r2.toBool = true then
      if 0 ≤ (t.size : Int) then
        if (t.size : Int) ≤ (t.size : Int) then
          if 1 ≤ (t.size : Int) then
            f21.j0a k (t.extract 1 (t.size : Int).toNat) r2.toBool 0 false
          else none
        else none
      else none
    else
      f21.j0a k t r2.toBool 0 false :=
  (denI_eq k _ _).trans (by kernel_rfl)
theorem f21.j0a_eq (k : Nat) (t : ByteArray) (minus : Bool) (c0 : Int) (c0_1 : Bool) : f21.j0a k t minus c0 c0_1 =
  f21.l1a k t minus (-1) 0 c0 c0_1 0 true :=
  (gateK_open _ _ _).trans (by kernel_rfl)
theorem f21.l1a_eq (k : Nat) (t : ByteArray) (minus : Bool) (behind i c0 : Int) (c0_1 : Bool) (n_ : Int) (n__1 : Bool) : f21.l1a k t minus behind i c0 c0_1 n_ n__1 =
  if decide (i < (t.size : Int)) = true then
    if 0 ≤ i then
      if i < (t.size : Int) then
        Option.bind (α := PV) (
          if ((bt t i) == 46) = true then
            some (.sc (.bool (decide (behind < 0))))
          else
            some (.sc (.bool false))) fun r3 =>
        Option.bind (α := PV) (
          if r3.toBool = true then
            some (.sc (.bool (decide (i > 0))))
          else
            some (.sc (.bool false))) fun r4 =>
        if r4.toBool = true then
          f21.l1a k t minus 0 (IntKind.i64.wrap (i + 1)) c0 c0_1 n_ n__1
        else
          (D 72 [.sc (.string t), .sc (.int .i64 i)]).bind fun r5 => if hasSh .bool r5 = true then
          if (!r5.toBool) = true then
            some (.agg [.sc (.int .i64 0), .sc (.bool false)])
          else
            if decide (behind ≥ 0) = true then
              f21.j2a k t minus (IntKind.i64.wrap (behind + 1)) i c0 c0_1 n_ n__1
            else
              f21.j2a k t minus behind i c0 c0_1 n_ n__1
          else none
      else none
    else none
  else
    Option.bind (α := PV) (
      if ((t.size : Int) == 0) = true then
        some (.sc (.bool true))
      else
        some (.sc (.bool (behind == 0)))) fun r6 =>
    Option.bind (α := PV) (
      if r6.toBool = true then
        some (.sc (.bool true))
      else
        some (.sc (.bool (decide (behind > 4))))) fun r7 =>
    if r7.toBool = true then
      some (.agg [.sc (.int .i64 0), .sc (.bool false)])
    else
      f21.l3a k minus (if 0 > behind then 0 else behind) c0 c0_1 n_ n__1 :=
  (loopAt_eq _ _ _ _).trans (by kernel_rfl)
theorem f21.j2a_eq (k : Nat) (t : ByteArray) (minus : Bool) (behind i c0 : Int) (c0_1 : Bool) (n_ : Int) (n__1 : Bool) : f21.j2a k t minus behind i c0 c0_1 n_ n__1 =
  if 0 ≤ i then
    if i < (t.size : Int) then
      (D 73 [.agg [.sc (.int .i64 n_), .sc (.bool n__1)], .sc (.int .i64 (IntKind.i64.wrap ((IntKind.i64.wrap (bt t i)) - 48)))]).bind fun r8 => if hasSh (.agg [(.int .i64), .bool]) r8 = true then
      f21.l1a k t minus behind (IntKind.i64.wrap (i + 1)) c0 c0_1 ((cel 0 r8.cells).toInt) ((cel 1 r8.cells).toBool)
      else none
    else none
  else none :=
  (gateK_open _ _ _).trans (by kernel_rfl)
theorem f21.l3a_eq (k : Nat) (minus : Bool) (k_ c0 : Int) (c0_1 : Bool) (n_ : Int) (n__1 : Bool) : f21.l3a k minus k_ c0 c0_1 n_ n__1 =
  if decide (k_ < 4) = true then
    (D 73 [.agg [.sc (.int .i64 n_), .sc (.bool n__1)], .sc (.int .i64 0)]).bind fun r9 => if hasSh (.agg [(.int .i64), .bool]) r9 = true then
    f21.l3a k minus (IntKind.i64.wrap (k_ + 1)) c0 c0_1 ((cel 0 r9.cells).toInt) ((cel 1 r9.cells).toBool)
    else none
  else
    if minus = true then
      some (.agg [.sc (.int .i64 (IntKind.i64.wrap ((0 : Int) - n_))), .sc (.bool n__1)])
    else
      some (.agg [.sc (.int .i64 n_), .sc (.bool n__1)]) :=
  (loopAt_eq _ _ _ _).trans (by kernel_rfl)
-- oculus/oculusref11.Digit
theorem f72_eq (k : Nat) (t : ByteArray) (i : Int) : D 72 [.sc (.string t), .sc (.int .i64 i)] =
  Option.bind (α := PV) (
    if decide (i < (t.size : Int)) = true then
      Option.bind (α := PV) (
        Option.bind (α := PV) (
          if 0 ≤ i then
            if i < (t.size : Int) then
              some (.sc (.bool (decide ((bt t i) ≥ 48))))
            else none
          else none) fun r1 =>
        some (.sc (.bool r1.toBool))) fun r2 =>
      some (.sc (.bool r2.toBool))
    else
      some (.sc (.bool false))) fun r3 =>
  Option.bind (α := PV) (
    if r3.toBool = true then
      Option.bind (α := PV) (
        Option.bind (α := PV) (
          if 0 ≤ i then
            if i < (t.size : Int) then
              some (.sc (.bool (decide ((bt t i) ≤ 57))))
            else none
          else none) fun r4 =>
        some (.sc (.bool r4.toBool))) fun r5 =>
      some (.sc (.bool r5.toBool))
    else
      some (.sc (.bool false))) fun r6 =>
  some (.sc (.bool r6.toBool)) :=
  (denI_eq k _ _).trans (by kernel_rfl)
-- oculus/oculusref11.more
theorem f73_eq (k : Nat) (n_ : Int) (n__1 : Bool) (d_ : Int) : D 73 [.agg [.sc (.int .i64 n_), .sc (.bool n__1)], .sc (.int .i64 d_)] =
  if (!n__1) = true then
    some (.agg [.sc (.int .i64 n_), .sc (.bool n__1)])
  else
    (D 98 [.sc (.int .i64 n_), .sc (.int .i64 10), .sc (.int .i64 1)]).bind fun r1 => if hasSh (.agg [(.int .i64), .bool]) r1 = true then
    if (!((cel 1 r1.cells).toBool)) = true then
      some (.agg [.sc (.int .i64 ((cel 0 r1.cells).toInt)), .sc (.bool ((cel 1 r1.cells).toBool))])
    else
      (D 131 [.sc (.int .i64 ((cel 0 r1.cells).toInt)), .sc (.int .i64 d_)]).bind fun r2 => if hasSh (.agg [(.int .i64), .bool]) r2 = true then
      some (.agg [.sc (.int .i64 ((cel 0 r2.cells).toInt)), .sc (.bool ((cel 1 r2.cells).toBool))])
      else none
    else none :=
  (denI_eq k _ _).trans (by kernel_rfl)
-- oculus/oculusref08.Scaled
noncomputable def f98.j0a (k : Nat) (a b c q c0 : Int) (c0_1 : Bool) : Option PV := gateK k (placeAt Tryd.prog cf ext hint k 98 [1, 1, 1, 1, 1, 1, 1]) ⟨[.sc (.int .i64 a), .sc (.int .i64 b), .sc (.int .i64 c), .top, .top, .top, .ptr 0 0, .top, .top, .sc (.int .u64 q), .top, .top, .top, .top, .top, .top, .top, .top, .top, .top, .top, .top, .top, .top, .top, .top, .top, .top, .top, .top, .top, .top, .top, .top, .top, .top, .top, .top, .top, .top, .top, .top, .top, .top, .top, .top, .top, .top, .top, .top, .top, .top, .top, .top, .top, .top, .top, .top, .top, .top, .top, .top, .top, .top, .top, .top, .top, .top, .top, .top, .top, .top, .top, .top, .top, .top], [.cells 28 [.sc (.int .i64 c0), .sc (.bool c0_1)]], none⟩
theorem f98_eq (k : Nat) (a b c : Int) : D 98 [.sc (.int .i64 a), .sc (.int .i64 b), .sc (.int .i64 c)] =
  (D 19 [.sc (.int .i64 a)]).bind fun r1 => if hasSh .bool r1 = true then
  Option.bind (α := PV) (
    if (!r1.toBool) = true then
      some (.sc (.bool true))
    else
      Option.bind (α := PV) (
        (D 19 [.sc (.int .i64 b)]).bind fun r2 => if hasSh .bool r2 = true then
        some (.sc (.bool (!r2.toBool)))
        else none) fun r3 =>
      some (.sc (.bool r3.toBool))) fun r4 =>
  Option.bind (α := PV) (
    if r4.toBool = true then
      some (.sc (.bool true))
    else
      Option.bind (α := PV) (
        (D 19 [.sc (.int .i64 c)]).bind fun r5 => if hasSh .bool r5 = true then
        some (.sc (.bool (!r5.toBool)))
        else none) fun r6 =>
      some (.sc (.bool r6.toBool))) fun r7 =>
  Option.bind (α := PV) (
    if r7.toBool = true then
      some (.sc (.bool true))
    else
      some (.sc (.bool (c == 0)))) fun r8 =>
  if r8.toBool = true then
    some (.agg [.sc (.int .i64 0), .sc (.bool false)])
  else
    (D 70 [.sc (.int .i64 c)]).bind fun r9 => if hasSh (.int .u64) r9 = true then
    (D 70 [.sc (.int .i64 a)]).bind fun r10 => if hasSh (.int .u64) r10 = true then
    (D 70 [.sc (.int .i64 b)]).bind fun r11 => if hasSh (.int .u64) r11 = true then
    (D 146 [.sc (.int .u64 r10.toInt), .sc (.int .u64 r11.toInt)]).bind fun r12 => if hasSh (.agg [(.int .u64), (.int .u64)]) r12 = true then
    (D 145 [.agg [.sc (.int .u64 ((cel 0 r12.cells).toInt)), .sc (.int .u64 ((cel 1 r12.cells).toInt))], .sc (.int .u64 r9.toInt)]).bind fun r13 => if hasSh (.agg [(.int .u64), (.int .u64), .bool]) r13 = true then
    Option.bind (α := PV) (
      if (!((cel 2 r13.cells).toBool)) = true then
        some (.sc (.bool true))
      else
        some (.sc (.bool (decide (((cel 0 r13.cells).toInt) > 9223372036854775807))))) fun r14 =>
    if r14.toBool = true then
      some (.agg [.sc (.int .i64 0), .sc (.bool false)])
    else
      if decide ((IntKind.u64.wrap (r9.toInt - ((cel 1 r13.cells).toInt))) ≤ ((cel 1 r13.cells).toInt)) = true then
        f98.j0a k a b c (IntKind.u64.wrap (((cel 0 r13.cells).toInt) + 1)) 0 false
      else
        f98.j0a k a b c ((cel 0 r13.cells).toInt) 0 false
    else none
    else none
    else none
    else none
    else none
  else none :=
  (denI_eq k _ _).trans (by kernel_rfl)
theorem f98.j0a_eq (k : Nat) (a b c q c0 : Int) (c0_1 : Bool) : f98.j0a k a b c q c0 c0_1 =
  if decide (q > 9223372036854775807) = true then
    some (.agg [.sc (.int .i64 0), .sc (.bool false)])
  else
    if (!((decide (a < 0)) == (decide (b < 0)))) = true then
      if decide (c < 0) = true then
        some (.agg [.sc (.int .i64 (IntKind.i64.wrap ((0 : Int) - (IntKind.i64.wrap ((0 : Int) - (IntKind.i64.wrap (q))))))), .sc (.bool true)])
      else
        some (.agg [.sc (.int .i64 (IntKind.i64.wrap ((0 : Int) - (IntKind.i64.wrap (q))))), .sc (.bool true)])
    else
      if decide (c < 0) = true then
        some (.agg [.sc (.int .i64 (IntKind.i64.wrap ((0 : Int) - (IntKind.i64.wrap (q))))), .sc (.bool true)])
      else
        some (.agg [.sc (.int .i64 (IntKind.i64.wrap (q))), .sc (.bool true)]) :=
  (gateK_open _ _ _).trans (by kernel_rfl)
-- oculus/oculusref08.May
theorem f19_eq (k : Nat) (x_ : Int) : D 19 [.sc (.int .i64 x_)] =
  some (.sc (.bool (decide (x_ ≥ (-9223372036854775807))))) :=
  (denI_eq k _ _).trans (by kernel_rfl)
-- oculus/oculusref08.Abs
theorem f70_eq (k : Nat) (x_ : Int) : D 70 [.sc (.int .i64 x_)] =
  if decide (x_ < 0) = true then
    some (.sc (.int .u64 (IntKind.u64.wrap (IntKind.i64.wrap ((0 : Int) - x_)))))
  else
    some (.sc (.int .u64 (IntKind.u64.wrap (x_)))) :=
  (denI_eq k _ _).trans (by kernel_rfl)
-- oculus/oculusref08.Divide
noncomputable def f145.l0a (k : Nat) (by_ i n_ n__1 c1 c1_1 : Int) (c1_2 : Bool) (out out_1 : Int) (out_2 : Bool) : Option PV := loopAt Tryd.prog cf ext hint k 145 [1, 1, 0, 1, 0] ⟨[.top, .sc (.int .u64 by_), .ptr 0 0, .top, .ptr 1 0, .ptr 2 0, .sc (.int .i64 i), .top, .top, .top, .top, .top, .top, .top, .top, .top, .top, .top, .top, .top, .top, .top, .top, .top, .top, .top, .top, .top, .top, .top, .top, .top, .top, .top, .top, .top, .top, .top, .top, .top, .top, .top, .top, .top, .top, .top, .top, .top, .top, .top, .top, .top, .top, .top, .top, .top, .top, .top, .top, .top], [.cells 163 [.sc (.int .u64 n_), .sc (.int .u64 n__1)], .cells 160 [.sc (.int .u64 c1), .sc (.int .u64 c1_1), .sc (.bool c1_2)], .cells 160 [.sc (.int .u64 out), .sc (.int .u64 out_1), .sc (.bool out_2)]], none⟩
theorem f145_eq (k : Nat) (n_ n__1 by_ : Int) : D 145 [.agg [.sc (.int .u64 n_), .sc (.int .u64 n__1)], .sc (.int .u64 by_)] =
  f145.l0a k by_ 0 n_ n__1 0 0 false 0 0 true :=
  (denI_eq k _ _).trans (by kernel_rfl)
theorem f145.l0a_eq (k : Nat) (by_ i n_ n__1 c1 c1_1 : Int) (c1_2 : Bool) (out out_1 : Int) (out_2 : Bool) : f145.l0a k by_ i n_ n__1 c1 c1_1 c1_2 out out_1 out_2 =
  if decide (i < 128) = true then
    Option.bind (α := PV) (
      if out_2 = true then
        some (.sc (.bool (decide (out < 9223372036854775808))))
      else
        some (.sc (.bool false))) fun r1 =>
    if decide ((IntKind.u64.wrap ((IntKind.u64.wrap (out_1 * 2)) + (IntKind.u64.wrap (n_.tdiv 9223372036854775808)))) ≥ by_) = true then
      f145.l0a k by_ (IntKind.i64.wrap (i + 1)) (IntKind.u64.wrap ((IntKind.u64.wrap (n_ * 2)) + (IntKind.u64.wrap (n__1.tdiv 9223372036854775808)))) (IntKind.u64.wrap (n__1 * 2)) c1 c1_1 c1_2 (IntKind.u64.wrap ((IntKind.u64.wrap (out * 2)) + 1)) (IntKind.u64.wrap ((IntKind.u64.wrap ((IntKind.u64.wrap (out_1 * 2)) + (IntKind.u64.wrap (n_.tdiv 9223372036854775808)))) - by_)) r1.toBool
    else
      f145.l0a k by_ (IntKind.i64.wrap (i + 1)) (IntKind.u64.wrap ((IntKind.u64.wrap (n_ * 2)) + (IntKind.u64.wrap (n__1.tdiv 9223372036854775808)))) (IntKind.u64.wrap (n__1 * 2)) c1 c1_1 c1_2 (IntKind.u64.wrap (out * 2)) (IntKind.u64.wrap ((IntKind.u64.wrap (out_1 * 2)) + (IntKind.u64.wrap (n_.tdiv 9223372036854775808)))) r1.toBool
  else
    some (.agg [.sc (.int .u64 out), .sc (.int .u64 out_1), .sc (.bool out_2)]) :=
  (loopAt_eq _ _ _ _).trans (by kernel_rfl)
-- oculus/oculusref08.Times
theorem f146_eq (k : Nat) (a b : Int) : D 146 [.sc (.int .u64 a), .sc (.int .u64 b)] =
  some (.agg [.sc (.int .u64 (IntKind.u64.wrap ((IntKind.u64.wrap ((IntKind.u64.wrap ((IntKind.u64.wrap (a.tdiv 4294967296)) * (IntKind.u64.wrap (b.tdiv 4294967296)))) + (IntKind.u64.wrap ((IntKind.u64.wrap ((IntKind.u64.wrap ((IntKind.u64.wrap (a.tdiv 4294967296)) * (b.tmod 4294967296))) + (IntKind.u64.wrap ((IntKind.u64.wrap ((a.tmod 4294967296) * (b.tmod 4294967296))).tdiv 4294967296)))).tdiv 4294967296)))) + (IntKind.u64.wrap ((IntKind.u64.wrap ((IntKind.u64.wrap ((a.tmod 4294967296) * (IntKind.u64.wrap (b.tdiv 4294967296)))) + ((IntKind.u64.wrap ((IntKind.u64.wrap ((IntKind.u64.wrap (a.tdiv 4294967296)) * (b.tmod 4294967296))) + (IntKind.u64.wrap ((IntKind.u64.wrap ((a.tmod 4294967296) * (b.tmod 4294967296))).tdiv 4294967296)))).tmod 4294967296))).tdiv 4294967296))))), .sc (.int .u64 (IntKind.u64.wrap ((IntKind.u64.wrap (((IntKind.u64.wrap ((IntKind.u64.wrap ((a.tmod 4294967296) * (IntKind.u64.wrap (b.tdiv 4294967296)))) + ((IntKind.u64.wrap ((IntKind.u64.wrap ((IntKind.u64.wrap (a.tdiv 4294967296)) * (b.tmod 4294967296))) + (IntKind.u64.wrap ((IntKind.u64.wrap ((a.tmod 4294967296) * (b.tmod 4294967296))).tdiv 4294967296)))).tmod 4294967296))).tmod 4294967296) * 4294967296)) + ((IntKind.u64.wrap ((a.tmod 4294967296) * (b.tmod 4294967296))).tmod 4294967296))))]) :=
  (denI_eq k _ _).trans (by kernel_rfl)
-- oculus/oculusref08.Add
theorem f131_eq (k : Nat) (a b : Int) : D 131 [.sc (.int .i64 a), .sc (.int .i64 b)] =
  (D 19 [.sc (.int .i64 a)]).bind fun r1 => if hasSh .bool r1 = true then
  Option.bind (α := PV) (
    if (!r1.toBool) = true then
      some (.sc (.bool true))
    else
      Option.bind (α := PV) (
        (D 19 [.sc (.int .i64 b)]).bind fun r2 => if hasSh .bool r2 = true then
        some (.sc (.bool (!r2.toBool)))
        else none) fun r3 =>
      some (.sc (.bool r3.toBool))) fun r4 =>
  Option.bind (α := PV) (
    if r4.toBool = true then
      some (.sc (.bool true))
    else
      Option.bind (α := PV) (
        Option.bind (α := PV) (
          Option.bind (α := PV) (
            if decide (b > 0) = true then
              some (.sc (.bool (decide (a > (IntKind.i64.wrap ((9223372036854775807 : Int) - b))))))
            else
              some (.sc (.bool false))) fun r5 =>
          some (.sc (.bool r5.toBool))) fun r6 =>
        some (.sc (.bool r6.toBool))) fun r7 =>
      some (.sc (.bool r7.toBool))) fun r8 =>
  Option.bind (α := PV) (
    if r8.toBool = true then
      some (.sc (.bool true))
    else
      Option.bind (α := PV) (
        Option.bind (α := PV) (
          Option.bind (α := PV) (
            if decide (b < 0) = true then
              some (.sc (.bool (decide (a < (IntKind.i64.wrap (((-9223372036854775807) : Int) - b))))))
            else
              some (.sc (.bool false))) fun r9 =>
          some (.sc (.bool r9.toBool))) fun r10 =>
        some (.sc (.bool r10.toBool))) fun r11 =>
      some (.sc (.bool r11.toBool))) fun r12 =>
  if r12.toBool = true then
    some (.agg [.sc (.int .i64 0), .sc (.bool false)])
  else
    some (.agg [.sc (.int .i64 (IntKind.i64.wrap (a + b))), .sc (.bool true)])
  else none :=
  (denI_eq k _ _).trans (by kernel_rfl)
end ET
end Go.Den
