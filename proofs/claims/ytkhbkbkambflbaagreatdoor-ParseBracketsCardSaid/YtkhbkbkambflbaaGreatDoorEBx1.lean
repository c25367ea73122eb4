import Derived.Test.YtkhbkbkambflbaaGreatDoorEBh
import Derived.KernelRfl
set_option maxRecDepth 100000
set_option linter.unusedVariables false
namespace Go.Den
open Go Go.Proofs
namespace EB
-- oculus/lex.next
noncomputable def f78.l0a (k : Nat) (s_ : ByteArray) (n_ c0 c0_1 : Int) (c0_2 : ByteArray) (c0_3 : Int) : Option PV := loopAt Tryz.prog cf ext hint k 78 [1, 1, 1, 1, 0, 0] ⟨[.sc (.string s_), .top, .ptr 0 0, .top, .top, .top, .top, .top, .top, .sc (.int .i64 n_), .top, .top, .top, .top, .top, .top, .top, .top, .top, .top, .top, .top, .top, .top, .top, .top, .top, .top, .top, .top, .top, .top, .top, .top, .top, .top, .top, .top, .top, .top, .top, .top, .top, .top, .top, .top, .top, .top, .top, .top, .top, .top, .top, .top, .top, .top, .top, .top, .top, .top, .top, .top, .top, .top, .top, .top, .top, .top, .top, .top, .top, .top, .top, .top, .top, .top], [.cells 70 [.sc (.int .i64 c0), .sc (.int .i64 c0_1), .sc (.string c0_2), .sc (.int .i64 c0_3)]], none⟩
noncomputable def f78.l1a (k : Nat) (s_ : ByteArray) (t61n : Nat) (t61f : Nat → PV) (t62 t63 c0 c0_1 : Int) (c0_2 : ByteArray) (c0_3 : Int) : Option PV := loopAt Tryz.prog cf ext hint k 78 [1, 1, 1, 1, 1, 1, 0, 1, 0] ⟨[.sc (.string s_), .top, .ptr 0 0, .top, .top, .top, .top, .top, .top, .top, .top, .top, .top, .top, .top, .top, .top, .top, .top, .top, .top, .top, .top, .top, .top, .top, .top, .top, .top, .top, .top, .top, .top, .top, .top, .top, .top, .top, .top, .top, .top, .top, .top, .top, .top, .top, .top, .top, .top, .top, .top, .top, .top, .top, .top, .top, .top, .top, .top, .top, .top, .lst 1 t61n t61f, .sc (.int .i64 t62), .sc (.int .i64 t63), .top, .top, .top, .top, .top, .top, .top, .top, .top, .top, .top, .top], [.cells 70 [.sc (.int .i64 c0), .sc (.int .i64 c0_1), .sc (.string c0_2), .sc (.int .i64 c0_3)]], none⟩
theorem f78_eq (k : Nat) (s_ : ByteArray) : D 78 [.sc (.string s_)] =
  if 0 < (s_.size : Int) then
    Option.bind (α := PV) (
      if decide ((bt s_ 0) ≥ 48) = true then
        Option.bind (α := PV) (
          if 0 < (s_.size : Int) then
            some (.sc (.bool (decide ((bt s_ 0) ≤ 57))))
          else none) fun r1 =>
        some (.sc (.bool r1.toBool))
      else
        some (.sc (.bool false))) fun r2 =>
    if r2.toBool = true then
      (D 128 [.sc (.string s_)]).bind fun r3 => if hasSh (.tup [(.int .i64), (.int .i64), .bool]) r3 = true then
      some (.tup [.agg [.sc (.int .i64 1), .sc (.int .i64 0), .sc (.string (⟨#[]⟩ : ByteArray)), .sc (.int .i64 ((cel 0 r3.parts).toInt))], .sc (.int .i64 ((cel 1 r3.parts).toInt))])
      else none
    else
      if 0 < (s_.size : Int) then
        if ((bt s_ 0) == 34) = true then
          (D 129 [.sc (.string s_)]).bind fun r4 => if hasSh (.tup [.str, (.int .i64)]) r4 = true then
          some (.tup [.agg [.sc (.int .i64 2), .sc (.int .i64 0), .sc (.string ((cel 0 r4.parts).toStr)), .sc (.int .i64 0)], .sc (.int .i64 ((cel 1 r4.parts).toInt))])
          else none
        else
          f78.l0a k s_ 0 0 0 (⟨#[]⟩ : ByteArray) 0
      else none
  else none :=
  (denI_eq k _ _).trans (by kernel_rfl)
theorem f78.l0a_eq (k : Nat) (s_ : ByteArray) (n_ c0 c0_1 : Int) (c0_2 : ByteArray) (c0_3 : Int) : f78.l0a k s_ n_ c0 c0_1 c0_2 c0_3 =
  Option.bind (α := PV) (
    if decide (n_ < (s_.size : Int)) = true then
      Option.bind (α := PV) (
        Option.bind (α := PV) (
          if 0 ≤ n_ then
            if n_ < (s_.size : Int) then
              Option.bind (α := PV) (
                Option.bind (α := PV) (
                  Option.bind (α := PV) (
                    (D 130 [.sc (.int .u8 (bt s_ n_)), .sc (.bool (n_ == 0))]).bind fun r5 => if hasSh .bool r5 = true then
                    some (.sc (.bool r5.toBool))
                    else none) fun r6 =>
                  some (.sc (.bool r6.toBool))) fun r7 =>
                some (.sc (.bool r7.toBool))) fun r8 =>
              some (.sc (.bool r8.toBool))
            else none
          else none) fun r9 =>
        some (.sc (.bool r9.toBool))) fun r10 =>
      some (.sc (.bool r10.toBool))
    else
      some (.sc (.bool false))) fun r11 =>
  if r11.toBool = true then
    f78.l0a k s_ (IntKind.i64.wrap (n_ + 1)) c0 c0_1 c0_2 c0_3
  else
    if decide (n_ > 0) = true then
      if 0 ≤ n_ then
        if n_ ≤ (s_.size : Int) then
          if 0 ≤ n_ then
            some (.tup [.agg [.sc (.int .i64 3), .sc (.int .i64 0), .sc (.string (s_.extract 0 n_.toNat)), .sc (.int .i64 0)], .sc (.int .i64 n_)])
          else none
        else none
      else none
    else
      (D 131 [.sc (.string (⟨#[35, 82, 69, 70, 32, 60, 62, 32, 60, 61, 32, 62, 61, 32, 43, 32, 45, 32, 42, 32, 47, 32, 94, 32, 38, 32, 61, 32, 60, 32, 62, 32, 40, 32, 41, 32, 44, 32, 58]⟩ : ByteArray))]).bind fun r12 => if hasSh (.lst 1) r12 = true then
      f78.l1a k s_ r12.len r12.at (r12.len : Int) 0 c0 c0_1 c0_2 c0_3
      else none :=
  (loopAt_eq _ _ _ _).trans (by kernel_rfl)
theorem f78.l1a_eq (k : Nat) (s_ : ByteArray) (t61n : Nat) (t61f : Nat → PV) (t62 t63 c0 c0_1 : Int) (c0_2 : ByteArray) (c0_3 : Int) : f78.l1a k s_ t61n t61f t62 t63 c0 c0_1 c0_2 c0_3 =
  if decide (t63 < t62) = true then
    if 0 ≤ t63 then
      if t63 < (t61n : Int) then
        if hasSh .str (t61f t63.toNat) = true then
          (D 132 [.sc (.string s_), .sc (.string ((t61f t63.toNat).toStr))]).bind fun r13 => if hasSh .bool r13 = true then
          if r13.toBool = true then
            some (.tup [.agg [.sc (.int .i64 4), .sc (.int .i64 0), .sc (.string ((t61f t63.toNat).toStr)), .sc (.int .i64 0)], .sc (.int .i64 (((t61f t63.toNat).toStr).size : Int))])
          else
            f78.l1a k s_ t61n t61f t62 (IntKind.i64.wrap (t63 + 1)) c0 c0_1 c0_2 c0_3
          else none
        else none
      else none
    else none
  else
    some (.tup [.agg [.sc (.int .i64 0), .sc (.int .i64 0), .sc (.string (⟨#[]⟩ : ByteArray)), .sc (.int .i64 0)], .sc (.int .i64 0)]) :=
  (loopAt_eq _ _ _ _).trans (by kernel_rfl)
-- oculus/digits.Lead
noncomputable def f128.l0a (k : Nat) (t : ByteArray) (n_ : Int) : Option PV := loopAt Tryz.prog cf ext hint k 128 [1, 1, 0, 0] ⟨[.sc (.string t), .top, .top, .top, .top, .sc (.int .i64 n_), .top, .top, .top, .top, .top, .top, .top, .top, .top, .top, .top, .top, .top, .top, .top, .top, .top, .top, .top, .top, .top, .top, .top, .top, .top, .top, .top, .top, .top, .top, .top, .top, .top, .top, .top, .top, .top, .top, .top, .top, .top, .top, .top, .top, .top, .top, .top, .top, .top, .top, .top, .top, .top, .top, .top, .top, .top], [], none⟩
noncomputable def f128.l1a (k : Nat) (t : ByteArray) (n_ end_ : Int) : Option PV := loopAt Tryz.prog cf ext hint k 128 [1, 1, 1, 0, 1, 0, 1, 0, 0] ⟨[.sc (.string t), .top, .top, .top, .top, .sc (.int .i64 n_), .sc (.int .i64 end_), .top, .top, .top, .top, .top, .top, .top, .top, .top, .top, .top, .top, .top, .top, .top, .top, .top, .top, .top, .top, .top, .top, .top, .top, .top, .top, .top, .top, .top, .top, .top, .top, .top, .top, .top, .top, .top, .top, .top, .top, .top, .top, .top, .top, .top, .top, .top, .top, .top, .top, .top, .top, .top, .top, .top, .top], [], none⟩
noncomputable def f128.j2a (k : Nat) (t : ByteArray) (n_ : Int) : Option PV := gateK k (placeAt Tryz.prog cf ext hint k 128 [1, 1, 1, 1]) ⟨[.sc (.string t), .top, .top, .top, .top, .sc (.int .i64 n_), .top, .top, .top, .top, .top, .top, .top, .top, .top, .top, .top, .top, .top, .top, .top, .top, .top, .top, .top, .top, .top, .top, .top, .top, .top, .top, .top, .top, .top, .top, .top, .top, .top, .top, .top, .top, .top, .top, .top, .top, .top, .top, .top, .top, .top, .top, .top, .top, .top, .top, .top, .top, .top, .top, .top, .top, .top], [], none⟩
theorem f128_eq (k : Nat) (t : ByteArray) : D 128 [.sc (.string t)] =
  f128.l0a k t 0 :=
  (denI_eq k _ _).trans (by kernel_rfl)
theorem f128.l0a_eq (k : Nat) (t : ByteArray) (n_ : Int) : f128.l0a k t n_ =
  Option.bind (α := PV) (
    if decide (n_ < 30) = true then
      Option.bind (α := PV) (
        Option.bind (α := PV) (
          (D 176 [.sc (.string t), .sc (.int .i64 n_)]).bind fun r1 => if hasSh .bool r1 = true then
          some (.sc (.bool r1.toBool))
          else none) fun r2 =>
        some (.sc (.bool r2.toBool))) fun r3 =>
      some (.sc (.bool r3.toBool))
    else
      some (.sc (.bool false))) fun r4 =>
  if r4.toBool = true then
    f128.l0a k t (IntKind.i64.wrap (n_ + 1))
  else
    Option.bind (α := PV) (
      if decide (n_ > 0) = true then
        some (.sc (.bool (decide (n_ < (t.size : Int)))))
      else
        some (.sc (.bool false))) fun r5 =>
    Option.bind (α := PV) (
      if r5.toBool = true then
        Option.bind (α := PV) (
          Option.bind (α := PV) (
            if 0 ≤ n_ then
              if n_ < (t.size : Int) then
                some (.sc (.bool ((bt t n_) == 46)))
              else none
            else none) fun r6 =>
          some (.sc (.bool r6.toBool))) fun r7 =>
        some (.sc (.bool r7.toBool))
      else
        some (.sc (.bool false))) fun r8 =>
    Option.bind (α := PV) (
      if r8.toBool = true then
        Option.bind (α := PV) (
          Option.bind (α := PV) (
            Option.bind (α := PV) (
              (D 176 [.sc (.string t), .sc (.int .i64 (IntKind.i64.wrap (n_ + 1)))]).bind fun r9 => if hasSh .bool r9 = true then
              some (.sc (.bool r9.toBool))
              else none) fun r10 =>
            some (.sc (.bool r10.toBool))) fun r11 =>
          some (.sc (.bool r11.toBool))) fun r12 =>
        some (.sc (.bool r12.toBool))
      else
        some (.sc (.bool false))) fun r13 =>
    if r13.toBool = true then
      f128.l1a k t n_ (IntKind.i64.wrap (n_ + 1))
    else
      f128.j2a k t n_ :=
  (loopAt_eq _ _ _ _).trans (by kernel_rfl)
theorem f128.l1a_eq (k : Nat) (t : ByteArray) (n_ end_ : Int) : f128.l1a k t n_ end_ =
  Option.bind (α := PV) (
    if decide (end_ ≤ (IntKind.i64.wrap (n_ + 4))) = true then
      Option.bind (α := PV) (
        Option.bind (α := PV) (
          (D 176 [.sc (.string t), .sc (.int .i64 end_)]).bind fun r14 => if hasSh .bool r14 = true then
          some (.sc (.bool r14.toBool))
          else none) fun r15 =>
        some (.sc (.bool r15.toBool))) fun r16 =>
      some (.sc (.bool r16.toBool))
    else
      some (.sc (.bool false))) fun r17 =>
  if r17.toBool = true then
    f128.l1a k t n_ (IntKind.i64.wrap (end_ + 1))
  else
    f128.j2a k t end_ :=
  (loopAt_eq _ _ _ _).trans (by kernel_rfl)
theorem f128.j2a_eq (k : Nat) (t : ByteArray) (n_ : Int) : f128.j2a k t n_ =
  if 0 ≤ n_ then
    if n_ ≤ (t.size : Int) then
      if 0 ≤ n_ then
        (D 177 [.sc (.string (t.extract 0 n_.toNat))]).bind fun r18 => if hasSh (.tup [(.int .i64), .bool]) r18 = true then
        if (!((cel 1 r18.parts).toBool)) = true then
          some (.tup [.sc (.int .i64 0), .sc (.int .i64 0), .sc (.bool false)])
        else
          some (.tup [.sc (.int .i64 ((cel 0 r18.parts).toInt)), .sc (.int .i64 n_), .sc (.bool true)])
        else none
      else none
    else none
  else none :=
  (gateK_open _ _ _).trans (by kernel_rfl)
-- oculus/digits.digit
theorem f176_eq (k : Nat) (t : ByteArray) (i : Int) : D 176 [.sc (.string t), .sc (.int .i64 i)] =
  Option.bind (α := PV) (
    if decide (i < (t.size : Int)) = true then
      Option.bind (α := PV) (
        Option.bind (α := PV) (
          if 0 ≤ i then
            if i < (t.size : Int) then
              some (.sc (.bool (decide ((bt t i) ≥ 48))))
            else none
          else none) fun r1 =>
        some (.sc (.bool r1.toBool))) fun r2 =>
      some (.sc (.bool r2.toBool))
    else
      some (.sc (.bool false))) fun r3 =>
  Option.bind (α := PV) (
    if r3.toBool = true then
      Option.bind (α := PV) (
        Option.bind (α := PV) (
          if 0 ≤ i then
            if i < (t.size : Int) then
              some (.sc (.bool (decide ((bt t i) ≤ 57))))
            else none
          else none) fun r4 =>
        some (.sc (.bool r4.toBool))) fun r5 =>
      some (.sc (.bool r5.toBool))
    else
      some (.sc (.bool false))) fun r6 =>
  some (.sc (.bool r6.toBool)) :=
  (denI_eq k _ _).trans (by kernel_rfl)
-- oculus/digits.Read
noncomputable def f177.l0a (k : Nat) (minus : Bool) (x_ y t53 t54 : Int) : Option PV := loopAt Tryz.prog cf ext hint k 177 [1, 1, 1, 1, 1, 1, 1, 0, 1, 0] ⟨[.top, .top, .top, .top, .top, .sc (.bool minus), .top, .top, .top, .sc (.int .i64 x_), .top, .sc (.int .i64 y), .top, .top, .top, .top, .top, .top, .top, .top, .top, .top, .top, .top, .top, .top, .top, .top, .top, .top, .top, .top, .top, .top, .top, .top, .top, .top, .top, .top, .top, .top, .top, .top, .top, .top, .top, .top, .top, .top, .top, .top, .top, .sc (.int .i64 t53), .sc (.int .i64 t54), .top, .top, .top, .top, .top, .top, .top, .top, .top, .top], [], none⟩
theorem f177_eq (k : Nat) (t : ByteArray) : D 177 [.sc (.string t)] =
  (D 47 [.sc (.string t), .sc (.string (⟨#[45]⟩ : ByteArray))]).bind fun r1 => if hasSh (.tup [.str, .bool]) r1 = true then
  if decide ((t.size : Int) > 40) = true then
    some (.tup [.sc (.int .i64 0), .sc (.bool false)])
  else
    (D 184 [.sc (.string ((cel 0 r1.parts).toStr)), .sc (.string (⟨#[46]⟩ : ByteArray))]).bind fun r2 => if hasSh (.tup [.str, .str, .bool]) r2 = true then
    (D 204 [.sc (.string ((cel 0 r2.parts).toStr))]).bind fun r3 => if hasSh (.tup [(.int .i64), .bool]) r3 = true then
    (D 204 [.sc (.string ((cel 1 r2.parts).toStr))]).bind fun r4 => if hasSh (.tup [(.int .i64), .bool]) r4 = true then
    Option.bind (α := PV) (
      if (!((cel 1 r3.parts).toBool)) = true then
        some (.sc (.bool true))
      else
        Option.bind (α := PV) (
          Option.bind (α := PV) (
            if (cel 2 r2.parts).toBool = true then
              Option.bind (α := PV) (
                Option.bind (α := PV) (
                  Option.bind (α := PV) (
                    if (!((cel 1 r4.parts).toBool)) = true then
                      some (.sc (.bool true))
                    else
                      some (.sc (.bool (decide ((((cel 1 r2.parts).toStr).size : Int) > 4))))) fun r5 =>
                  some (.sc (.bool r5.toBool))) fun r6 =>
                some (.sc (.bool r6.toBool))) fun r7 =>
              some (.sc (.bool r7.toBool))
            else
              some (.sc (.bool false))) fun r8 =>
          some (.sc (.bool r8.toBool))) fun r9 =>
        some (.sc (.bool r9.toBool))) fun r10 =>
    if r10.toBool = true then
      some (.tup [.sc (.int .i64 0), .sc (.bool false)])
    else
      f177.l0a k ((cel 1 r1.parts).toBool) ((cel 0 r3.parts).toInt) ((cel 0 r4.parts).toInt) (IntKind.i64.wrap ((4 : Int) - (((cel 1 r2.parts).toStr).size : Int))) 0
    else none
    else none
    else none
  else none :=
  (denI_eq k _ _).trans (by kernel_rfl)
theorem f177.l0a_eq (k : Nat) (minus : Bool) (x_ y t53 t54 : Int) : f177.l0a k minus x_ y t53 t54 =
  if decide (t54 < t53) = true then
    f177.l0a k minus x_ (IntKind.i64.wrap (y * 10)) t53 (IntKind.i64.wrap (t54 + 1))
  else
    (D 205 [.sc (.int .i64 x_), .sc (.int .i64 y), .sc (.bool minus)]).bind fun r11 => if hasSh (.tup [(.int .i64), .bool]) r11 = true then
    some (.tup [.sc (.int .i64 ((cel 0 r11.parts).toInt)), .sc (.bool ((cel 1 r11.parts).toBool))])
    else none :=
  (loopAt_eq _ _ _ _).trans (by kernel_rfl)
-- oculus/digits.number
noncomputable def f204.l0a (k : Nat) (t : ByteArray) (n_ t11 t12 : Int) : Option PV := loopAt Tryz.prog cf ext hint k 204 [1, 1, 0, 1, 0] ⟨[.sc (.string t), .top, .top, .top, .sc (.int .i64 n_), .top, .top, .top, .top, .top, .top, .sc (.int .i64 t11), .sc (.int .i64 t12), .top, .top, .top, .top, .top, .top, .top, .top, .top, .top, .top, .top, .top, .top, .top, .top, .top, .top, .top, .top, .top, .top, .top, .top, .top, .top, .top, .top, .top, .top, .top, .top, .top, .top, .top, .top, .top, .top], [], none⟩
theorem f204_eq (k : Nat) (t : ByteArray) : D 204 [.sc (.string t)] =
  f204.l0a k t 0 (t.size : Int) 0 :=
  (denI_eq k _ _).trans (by kernel_rfl)
theorem f204.l0a_eq (k : Nat) (t : ByteArray) (n_ t11 t12 : Int) : f204.l0a k t n_ t11 t12 =
  if decide (t12 < t11) = true then
    if 0 ≤ t12 then
      if t12 < (t.size : Int) then
        Option.bind (α := PV) (
          if decide ((bt t t12) < 48) = true then
            some (.sc (.bool true))
          else
            Option.bind (α := PV) (
              Option.bind (α := PV) (
                if 0 ≤ t12 then
                  if t12 < (t.size : Int) then
                    some (.sc (.bool (decide ((bt t t12) > 57))))
                  else none
                else none) fun r1 =>
              some (.sc (.bool r1.toBool))) fun r2 =>
            some (.sc (.bool r2.toBool))) fun r3 =>
        if r3.toBool = true then
          some (.tup [.sc (.int .i64 0), .sc (.bool false)])
        else
          (D 227 [.sc (.int .i64 n_), .sc (.int .i64 10), .sc (.int .i64 1)]).bind fun r4 => if hasSh (.tup [(.int .i64), .bool]) r4 = true then
          if 0 ≤ t12 then
            if t12 < (t.size : Int) then
              (D 228 [.sc (.int .i64 ((cel 0 r4.parts).toInt)), .sc (.int .i64 (IntKind.i64.wrap (IntKind.u8.wrap ((bt t t12) - 48))))]).bind fun r5 => if hasSh (.tup [(.int .i64), .bool]) r5 = true then
              Option.bind (α := PV) (
                if (!((cel 1 r4.parts).toBool)) = true then
                  some (.sc (.bool true))
                else
                  some (.sc (.bool (!((cel 1 r5.parts).toBool))))) fun r6 =>
              if r6.toBool = true then
                some (.tup [.sc (.int .i64 0), .sc (.bool false)])
              else
                f204.l0a k t ((cel 0 r5.parts).toInt) t11 (IntKind.i64.wrap (t12 + 1))
              else none
            else none
          else none
          else none
      else none
    else none
  else
    some (.tup [.sc (.int .i64 n_), .sc (.bool (!(t.toList == (⟨#[]⟩ : ByteArray).toList)))]) :=
  (loopAt_eq _ _ _ _).trans (by kernel_rfl)
-- oculus/dec.Scaled
noncomputable def f227.j0a (k : Nat) (a b c q : Int) : Option PV := gateK k (placeAt Tryz.prog cf ext hint k 227 [1, 1, 1, 1, 1, 1, 1]) ⟨[.sc (.int .i64 a), .sc (.int .i64 b), .sc (.int .i64 c), .top, .top, .top, .top, .top, .top, .top, .top, .sc (.int .u64 q), .top, .top, .top, .top, .top, .top, .top, .top, .top, .top, .top, .top, .top, .top, .top, .top, .top, .top, .top, .top, .top, .top, .top, .top, .top, .top, .top, .top, .top, .top, .top, .top, .top, .top, .top, .top, .top, .top, .top, .top, .top, .top, .top, .top, .top, .top, .top, .top, .top, .top, .top, .top, .top, .top, .top, .top, .top, .top, .top, .top, .top], [], none⟩
theorem f227_eq (k : Nat) (a b c : Int) : D 227 [.sc (.int .i64 a), .sc (.int .i64 b), .sc (.int .i64 c)] =
  (D 148 [.sc (.int .i64 a)]).bind fun r1 => if hasSh .bool r1 = true then
  Option.bind (α := PV) (
    if (!r1.toBool) = true then
      some (.sc (.bool true))
    else
      Option.bind (α := PV) (
        (D 148 [.sc (.int .i64 b)]).bind fun r2 => if hasSh .bool r2 = true then
        some (.sc (.bool (!r2.toBool)))
        else none) fun r3 =>
      some (.sc (.bool r3.toBool))) fun r4 =>
  Option.bind (α := PV) (
    if r4.toBool = true then
      some (.sc (.bool true))
    else
      Option.bind (α := PV) (
        (D 148 [.sc (.int .i64 c)]).bind fun r5 => if hasSh .bool r5 = true then
        some (.sc (.bool (!r5.toBool)))
        else none) fun r6 =>
      some (.sc (.bool r6.toBool))) fun r7 =>
  Option.bind (α := PV) (
    if r7.toBool = true then
      some (.sc (.bool true))
    else
      some (.sc (.bool (c == 0)))) fun r8 =>
  if r8.toBool = true then
    some (.tup [.sc (.int .i64 0), .sc (.bool false)])
  else
    (D 251 [.sc (.int .i64 c)]).bind fun r9 => if hasSh (.int .u64) r9 = true then
    (D 251 [.sc (.int .i64 a)]).bind fun r10 => if hasSh (.int .u64) r10 = true then
    (D 251 [.sc (.int .i64 b)]).bind fun r11 => if hasSh (.int .u64) r11 = true then
    (D 252 [.sc (.int .u64 r10.toInt), .sc (.int .u64 r11.toInt)]).bind fun r12 => if hasSh (.tup [(.int .u64), (.int .u64)]) r12 = true then
    if decide (((cel 0 r12.parts).toInt) ≥ r9.toInt) = true then
      some (.tup [.sc (.int .i64 0), .sc (.bool false)])
    else
      (D 253 [.sc (.int .u64 ((cel 0 r12.parts).toInt)), .sc (.int .u64 ((cel 1 r12.parts).toInt)), .sc (.int .u64 r9.toInt)]).bind fun r13 => if hasSh (.tup [(.int .u64), (.int .u64)]) r13 = true then
      if decide (((cel 1 r13.parts).toInt) ≥ (IntKind.u64.wrap (r9.toInt - ((cel 1 r13.parts).toInt)))) = true then
        f227.j0a k a b c (IntKind.u64.wrap (((cel 0 r13.parts).toInt) + 1))
      else
        f227.j0a k a b c ((cel 0 r13.parts).toInt)
      else none
    else none
    else none
    else none
    else none
  else none :=
  (denI_eq k _ _).trans (by kernel_rfl)
theorem f227.j0a_eq (k : Nat) (a b c q : Int) : f227.j0a k a b c q =
  if decide (q > 9223372036854775807) = true then
    some (.tup [.sc (.int .i64 0), .sc (.bool false)])
  else
    (D 254 [.sc (.int .i64 a)]).bind fun r14 => if hasSh (.int .i64) r14 = true then
    (D 254 [.sc (.int .i64 b)]).bind fun r15 => if hasSh (.int .i64) r15 = true then
    (D 254 [.sc (.int .i64 c)]).bind fun r16 => if hasSh (.int .i64) r16 = true then
    if decide ((IntKind.i64.wrap ((IntKind.i64.wrap (r14.toInt * r15.toInt)) * r16.toInt)) < 0) = true then
      some (.tup [.sc (.int .i64 (IntKind.i64.wrap (0 - (IntKind.i64.wrap (q))))), .sc (.bool true)])
    else
      some (.tup [.sc (.int .i64 (IntKind.i64.wrap (q))), .sc (.bool true)])
    else none
    else none
    else none :=
  (gateK_open _ _ _).trans (by kernel_rfl)
-- oculus/dec.May
theorem f148_eq (k : Nat) (x_ : Int) : D 148 [.sc (.int .i64 x_)] =
  some (.sc (.bool (x_ != (-9223372036854775808)))) :=
  (denI_eq k _ _).trans (by kernel_rfl)
-- oculus/dec.size
theorem f251_eq (k : Nat) (x_ : Int) : D 251 [.sc (.int .i64 x_)] =
  if decide (x_ < 0) = true then
    some (.sc (.int .u64 (IntKind.u64.wrap (IntKind.i64.wrap (0 - x_)))))
  else
    some (.sc (.int .u64 (IntKind.u64.wrap (x_)))) :=
  (denI_eq k _ _).trans (by kernel_rfl)
-- math/bits.Mul64
theorem f252_eq (k : Nat) (x_ y : Int) : D 252 [.sc (.int .u64 x_), .sc (.int .u64 y)] =
  some (.tup [.sc (.int .u64 (IntKind.u64.wrap ((IntKind.u64.wrap ((IntKind.u64.wrap ((x_.fdiv 4294967296) * (y.fdiv 4294967296))) + ((IntKind.u64.wrap ((IntKind.u64.wrap ((x_.fdiv 4294967296) * (bits .and .u64 y 4294967295))) + ((IntKind.u64.wrap ((bits .and .u64 x_ 4294967295) * (bits .and .u64 y 4294967295))).fdiv 4294967296))).fdiv 4294967296))) + ((IntKind.u64.wrap ((bits .and .u64 (IntKind.u64.wrap ((IntKind.u64.wrap ((x_.fdiv 4294967296) * (bits .and .u64 y 4294967295))) + ((IntKind.u64.wrap ((bits .and .u64 x_ 4294967295) * (bits .and .u64 y 4294967295))).fdiv 4294967296))) 4294967295) + (IntKind.u64.wrap ((bits .and .u64 x_ 4294967295) * (y.fdiv 4294967296))))).fdiv 4294967296)))), .sc (.int .u64 (IntKind.u64.wrap (x_ * y)))]) :=
  (denI_eq k _ _).trans (by kernel_rfl)
-- math/bits.Div64
noncomputable def f253.j0a (k : Nat) (hi lo y : Int) : Option PV := gateK k (placeAt Tryz.prog cf ext hint k 253 [1, 1]) ⟨[.sc (.int .u64 hi), .sc (.int .u64 lo), .sc (.int .u64 y), .top, .top, .top, .top, .top, .top, .top, .top, .top, .top, .top, .top, .top, .top, .top, .top, .top, .top, .top, .top, .top, .top, .top, .top, .top, .top, .top, .top, .top, .top, .top, .top, .top, .top, .top, .top, .top, .top, .top, .top, .top, .top, .top, .top, .top, .top, .top, .top, .top, .top, .top, .top, .top, .top, .top, .top, .top, .top, .top, .top, .top, .top, .top, .top, .top, .top, .top, .top, .top, .top, .top, .top, .top, .top, .top, .top, .top, .top, .top, .top, .top, .top, .top, .top, .top, .top, .top, .top, .top, .top, .top, .top, .top, .top, .top, .top, .top, .top, .top, .top, .top, .top, .top, .top, .top, .top, .top, .top, .top, .top, .top, .top, .top, .top, .top, .top, .top, .top, .top, .top, .top, .top, .top, .top, .top, .top, .top, .top, .top, .top, .top, .top], [], none⟩
noncomputable def f253.j1a (k : Nat) (hi lo y : Int) : Option PV := gateK k (placeAt Tryz.prog cf ext hint k 253 [1, 1, 1]) ⟨[.sc (.int .u64 hi), .sc (.int .u64 lo), .sc (.int .u64 y), .top, .top, .top, .top, .top, .top, .top, .top, .top, .top, .top, .top, .top, .top, .top, .top, .top, .top, .top, .top, .top, .top, .top, .top, .top, .top, .top, .top, .top, .top, .top, .top, .top, .top, .top, .top, .top, .top, .top, .top, .top, .top, .top, .top, .top, .top, .top, .top, .top, .top, .top, .top, .top, .top, .top, .top, .top, .top, .top, .top, .top, .top, .top, .top, .top, .top, .top, .top, .top, .top, .top, .top, .top, .top, .top, .top, .top, .top, .top, .top, .top, .top, .top, .top, .top, .top, .top, .top, .top, .top, .top, .top, .top, .top, .top, .top, .top, .top, .top, .top, .top, .top, .top, .top, .top, .top, .top, .top, .top, .top, .top, .top, .top, .top, .top, .top, .top, .top, .top, .top, .top, .top, .top, .top, .top, .top, .top, .top, .top, .top, .top, .top], [], none⟩
noncomputable def f253.l2a (k : Nat) (y s_ yn1 yn0 un32 un1 un0 q1 rhat : Int) : Option PV := loopAt Tryz.prog cf ext hint k 253 [1, 1, 1, 1, 1, 1, 1, 1, 1, 1, 1, 1, 1, 1, 0, 0] ⟨[.top, .top, .sc (.int .u64 y), .top, .top, .top, .top, .top, .sc (.int .u64 s_), .sc (.int .u64 yn1), .sc (.int .u64 yn0), .sc (.int .u64 un32), .top, .sc (.int .u64 un1), .sc (.int .u64 un0), .sc (.int .u64 q1), .sc (.int .u64 rhat), .top, .top, .top, .top, .top, .top, .top, .top, .top, .top, .top, .top, .top, .top, .top, .top, .top, .top, .top, .top, .top, .top, .top, .top, .top, .top, .top, .top, .top, .top, .top, .top, .top, .top, .top, .top, .top, .top, .top, .top, .top, .top, .top, .top, .top, .top, .top, .top, .top, .top, .top, .top, .top, .top, .top, .top, .top, .top, .top, .top, .top, .top, .top, .top, .top, .top, .top, .top, .top, .top, .top, .top, .top, .top, .top, .top, .top, .top, .top, .top, .top, .top, .top, .top, .top, .top, .top, .top, .top, .top, .top, .top, .top, .top, .top, .top, .top, .top, .top, .top, .top, .top, .top, .top, .top, .top, .top, .top, .top, .top, .top, .top, .top, .top, .top, .top, .top, .top], [], none⟩
noncomputable def f253.j3a (k : Nat) (y s_ yn1 yn0 un32 un1 un0 q1 : Int) : Option PV := gateK k (placeAt Tryz.prog cf ext hint k 253 [1, 1, 1, 1, 1, 1, 1, 1, 1, 1, 1, 1, 1, 1, 1]) ⟨[.top, .top, .sc (.int .u64 y), .top, .top, .top, .top, .top, .sc (.int .u64 s_), .sc (.int .u64 yn1), .sc (.int .u64 yn0), .sc (.int .u64 un32), .top, .sc (.int .u64 un1), .sc (.int .u64 un0), .sc (.int .u64 q1), .top, .top, .top, .top, .top, .top, .top, .top, .top, .top, .top, .top, .top, .top, .top, .top, .top, .top, .top, .top, .top, .top, .top, .top, .top, .top, .top, .top, .top, .top, .top, .top, .top, .top, .top, .top, .top, .top, .top, .top, .top, .top, .top, .top, .top, .top, .top, .top, .top, .top, .top, .top, .top, .top, .top, .top, .top, .top, .top, .top, .top, .top, .top, .top, .top, .top, .top, .top, .top, .top, .top, .top, .top, .top, .top, .top, .top, .top, .top, .top, .top, .top, .top, .top, .top, .top, .top, .top, .top, .top, .top, .top, .top, .top, .top, .top, .top, .top, .top, .top, .top, .top, .top, .top, .top, .top, .top, .top, .top, .top, .top, .top, .top, .top, .top, .top, .top, .top, .top], [], none⟩
noncomputable def f253.l4a (k : Nat) (y s_ yn1 yn0 un0 q1 rhat un21 q0 : Int) : Option PV := loopAt Tryz.prog cf ext hint k 253 [1, 1, 1, 1, 1, 1, 1, 1, 1, 1, 1, 1, 1, 1, 1, 1, 1, 1, 0, 0] ⟨[.top, .top, .sc (.int .u64 y), .top, .top, .top, .top, .top, .sc (.int .u64 s_), .sc (.int .u64 yn1), .sc (.int .u64 yn0), .top, .top, .top, .sc (.int .u64 un0), .sc (.int .u64 q1), .sc (.int .u64 rhat), .sc (.int .u64 un21), .sc (.int .u64 q0), .top, .top, .top, .top, .top, .top, .top, .top, .top, .top, .top, .top, .top, .top, .top, .top, .top, .top, .top, .top, .top, .top, .top, .top, .top, .top, .top, .top, .top, .top, .top, .top, .top, .top, .top, .top, .top, .top, .top, .top, .top, .top, .top, .top, .top, .top, .top, .top, .top, .top, .top, .top, .top, .top, .top, .top, .top, .top, .top, .top, .top, .top, .top, .top, .top, .top, .top, .top, .top, .top, .top, .top, .top, .top, .top, .top, .top, .top, .top, .top, .top, .top, .top, .top, .top, .top, .top, .top, .top, .top, .top, .top, .top, .top, .top, .top, .top, .top, .top, .top, .top, .top, .top, .top, .top, .top, .top, .top, .top, .top, .top, .top, .top, .top, .top, .top], [], none⟩
noncomputable def f253.j5a (k : Nat) (y s_ un0 q1 un21 q0 : Int) : Option PV := gateK k (placeAt Tryz.prog cf ext hint k 253 [1, 1, 1, 1, 1, 1, 1, 1, 1, 1, 1, 1, 1, 1, 1, 1, 1, 1, 1]) ⟨[.top, .top, .sc (.int .u64 y), .top, .top, .top, .top, .top, .sc (.int .u64 s_), .top, .top, .top, .top, .top, .sc (.int .u64 un0), .sc (.int .u64 q1), .top, .sc (.int .u64 un21), .sc (.int .u64 q0), .top, .top, .top, .top, .top, .top, .top, .top, .top, .top, .top, .top, .top, .top, .top, .top, .top, .top, .top, .top, .top, .top, .top, .top, .top, .top, .top, .top, .top, .top, .top, .top, .top, .top, .top, .top, .top, .top, .top, .top, .top, .top, .top, .top, .top, .top, .top, .top, .top, .top, .top, .top, .top, .top, .top, .top, .top, .top, .top, .top, .top, .top, .top, .top, .top, .top, .top, .top, .top, .top, .top, .top, .top, .top, .top, .top, .top, .top, .top, .top, .top, .top, .top, .top, .top, .top, .top, .top, .top, .top, .top, .top, .top, .top, .top, .top, .top, .top, .top, .top, .top, .top, .top, .top, .top, .top, .top, .top, .top, .top, .top, .top, .top, .top, .top, .top], [], none⟩
theorem f253_eq (k : Nat) (hi lo y : Int) : D 253 [.sc (.int .u64 hi), .sc (.int .u64 lo), .sc (.int .u64 y)] =
  if (y == 0) = true then
    none
  else
    f253.j0a k hi lo y :=
  (denI_eq k _ _).trans (by kernel_rfl)
theorem f253.j0a_eq (k : Nat) (hi lo y : Int) : f253.j0a k hi lo y =
  if decide (y ≤ hi) = true then
    none
  else
    f253.j1a k hi lo y :=
  (gateK_open _ _ _).trans (by kernel_rfl)
theorem f253.j1a_eq (k : Nat) (hi lo y : Int) : f253.j1a k hi lo y =
  if (hi == 0) = true then
    if IntKind.u64 = IntKind.u64 ∧ y ≠ 0 then
      if IntKind.u64 = IntKind.u64 ∧ y ≠ 0 then
        some (.tup [.sc (.int .u64 (IntKind.u64.wrap (lo.tdiv y))), .sc (.int .u64 (lo.tmod y))])
      else none
    else none
  else
    (D 268 [.sc (.int .u64 y)]).bind fun r1 => if hasSh (.int .i64) r1 = true then
    if 0 ≤ IntKind.u64.wrap (r1.toInt) then
      if 0 ≤ IntKind.u64.wrap (r1.toInt) then
        if 0 ≤ IntKind.u64.wrap ((64 : Int) - (IntKind.u64.wrap (r1.toInt))) then
          if 0 ≤ IntKind.u64.wrap (r1.toInt) then
            if IntKind.u64 = IntKind.u64 ∧ (IntKind.u64.wrap (y * 2 ^ (min (IntKind.u64.wrap (r1.toInt)).toNat 64))).fdiv 4294967296 ≠ 0 then
              f253.l2a k (IntKind.u64.wrap (y * 2 ^ (min (IntKind.u64.wrap (r1.toInt)).toNat 64))) (IntKind.u64.wrap (r1.toInt)) ((IntKind.u64.wrap (y * 2 ^ (min (IntKind.u64.wrap (r1.toInt)).toNat 64))).fdiv 4294967296) (bits .and .u64 (IntKind.u64.wrap (y * 2 ^ (min (IntKind.u64.wrap (r1.toInt)).toNat 64))) 4294967295) (bits .or .u64 (IntKind.u64.wrap (hi * 2 ^ (min (IntKind.u64.wrap (r1.toInt)).toNat 64))) (lo.fdiv (2 ^ (min (IntKind.u64.wrap ((64 : Int) - (IntKind.u64.wrap (r1.toInt)))).toNat 64)))) ((IntKind.u64.wrap (lo * 2 ^ (min (IntKind.u64.wrap (r1.toInt)).toNat 64))).fdiv 4294967296) (bits .and .u64 (IntKind.u64.wrap (lo * 2 ^ (min (IntKind.u64.wrap (r1.toInt)).toNat 64))) 4294967295) (IntKind.u64.wrap ((bits .or .u64 (IntKind.u64.wrap (hi * 2 ^ (min (IntKind.u64.wrap (r1.toInt)).toNat 64))) (lo.fdiv (2 ^ (min (IntKind.u64.wrap ((64 : Int) - (IntKind.u64.wrap (r1.toInt)))).toNat 64)))).tdiv ((IntKind.u64.wrap (y * 2 ^ (min (IntKind.u64.wrap (r1.toInt)).toNat 64))).fdiv 4294967296))) (IntKind.u64.wrap ((bits .or .u64 (IntKind.u64.wrap (hi * 2 ^ (min (IntKind.u64.wrap (r1.toInt)).toNat 64))) (lo.fdiv (2 ^ (min (IntKind.u64.wrap ((64 : Int) - (IntKind.u64.wrap (r1.toInt)))).toNat 64)))) - (IntKind.u64.wrap ((IntKind.u64.wrap ((bits .or .u64 (IntKind.u64.wrap (hi * 2 ^ (min (IntKind.u64.wrap (r1.toInt)).toNat 64))) (lo.fdiv (2 ^ (min (IntKind.u64.wrap ((64 : Int) - (IntKind.u64.wrap (r1.toInt)))).toNat 64)))).tdiv ((IntKind.u64.wrap (y * 2 ^ (min (IntKind.u64.wrap (r1.toInt)).toNat 64))).fdiv 4294967296))) * ((IntKind.u64.wrap (y * 2 ^ (min (IntKind.u64.wrap (r1.toInt)).toNat 64))).fdiv 4294967296)))))
            else none
          else none
        else none
      else none
    else none
    else none :=
  (gateK_open _ _ _).trans (by kernel_rfl)
theorem f253.l2a_eq (k : Nat) (y s_ yn1 yn0 un32 un1 un0 q1 rhat : Int) : f253.l2a k y s_ yn1 yn0 un32 un1 un0 q1 rhat =
  Option.bind (α := PV) (
    if decide (q1 ≥ 4294967296) = true then
      some (.sc (.bool true))
    else
      some (.sc (.bool (decide ((IntKind.u64.wrap (q1 * yn0)) > (IntKind.u64.wrap ((IntKind.u64.wrap ((4294967296 : Int) * rhat)) + un1))))))) fun r2 =>
  if r2.toBool = true then
    if decide ((IntKind.u64.wrap (rhat + yn1)) ≥ 4294967296) = true then
      f253.j3a k y s_ yn1 yn0 un32 un1 un0 (IntKind.u64.wrap (q1 - 1))
    else
      f253.l2a k y s_ yn1 yn0 un32 un1 un0 (IntKind.u64.wrap (q1 - 1)) (IntKind.u64.wrap (rhat + yn1))
  else
    f253.j3a k y s_ yn1 yn0 un32 un1 un0 q1 :=
  (loopAt_eq _ _ _ _).trans (by kernel_rfl)
theorem f253.j3a_eq (k : Nat) (y s_ yn1 yn0 un32 un1 un0 q1 : Int) : f253.j3a k y s_ yn1 yn0 un32 un1 un0 q1 =
  if IntKind.u64 = IntKind.u64 ∧ yn1 ≠ 0 then
    f253.l4a k y s_ yn1 yn0 un0 q1 (IntKind.u64.wrap ((IntKind.u64.wrap ((IntKind.u64.wrap ((IntKind.u64.wrap (un32 * 4294967296)) + un1)) - (IntKind.u64.wrap (q1 * y)))) - (IntKind.u64.wrap ((IntKind.u64.wrap ((IntKind.u64.wrap ((IntKind.u64.wrap ((IntKind.u64.wrap (un32 * 4294967296)) + un1)) - (IntKind.u64.wrap (q1 * y)))).tdiv yn1)) * yn1)))) (IntKind.u64.wrap ((IntKind.u64.wrap ((IntKind.u64.wrap (un32 * 4294967296)) + un1)) - (IntKind.u64.wrap (q1 * y)))) (IntKind.u64.wrap ((IntKind.u64.wrap ((IntKind.u64.wrap ((IntKind.u64.wrap (un32 * 4294967296)) + un1)) - (IntKind.u64.wrap (q1 * y)))).tdiv yn1))
  else none :=
  (gateK_open _ _ _).trans (by kernel_rfl)
theorem f253.l4a_eq (k : Nat) (y s_ yn1 yn0 un0 q1 rhat un21 q0 : Int) : f253.l4a k y s_ yn1 yn0 un0 q1 rhat un21 q0 =
  Option.bind (α := PV) (
    if decide (q0 ≥ 4294967296) = true then
      some (.sc (.bool true))
    else
      some (.sc (.bool (decide ((IntKind.u64.wrap (q0 * yn0)) > (IntKind.u64.wrap ((IntKind.u64.wrap ((4294967296 : Int) * rhat)) + un0))))))) fun r3 =>
  if r3.toBool = true then
    if decide ((IntKind.u64.wrap (rhat + yn1)) ≥ 4294967296) = true then
      f253.j5a k y s_ un0 q1 un21 (IntKind.u64.wrap (q0 - 1))
    else
      f253.l4a k y s_ yn1 yn0 un0 q1 (IntKind.u64.wrap (rhat + yn1)) un21 (IntKind.u64.wrap (q0 - 1))
  else
    f253.j5a k y s_ un0 q1 un21 q0 :=
  (loopAt_eq _ _ _ _).trans (by kernel_rfl)
theorem f253.j5a_eq (k : Nat) (y s_ un0 q1 un21 q0 : Int) : f253.j5a k y s_ un0 q1 un21 q0 =
  if 0 ≤ s_ then
    some (.tup [.sc (.int .u64 (IntKind.u64.wrap ((IntKind.u64.wrap (q1 * 4294967296)) + q0))), .sc (.int .u64 ((IntKind.u64.wrap ((IntKind.u64.wrap ((IntKind.u64.wrap (un21 * 4294967296)) + un0)) - (IntKind.u64.wrap (q0 * y)))).fdiv (2 ^ (min s_.toNat 64))))])
  else none :=
  (gateK_open _ _ _).trans (by kernel_rfl)
-- math/bits.LeadingZeros64
theorem f268_eq (k : Nat) (x_ : Int) : D 268 [.sc (.int .u64 x_)] =
  (D 175 [.sc (.int .u64 x_)]).bind fun r1 => if hasSh (.int .i64) r1 = true then
  some (.sc (.int .i64 (IntKind.i64.wrap ((64 : Int) - r1.toInt))))
  else none :=
  (denI_eq k _ _).trans (by kernel_rfl)
-- math/bits.Len64
noncomputable def f175.j0a (k : Nat) (x_ n_ : Int) : Option PV := gateK k (placeAt Tryz.prog cf ext hint k 175 [1, 1]) ⟨[.sc (.int .u64 x_), .top, .sc (.int .i64 n_), .top, .top, .top, .top, .top, .top, .top, .top, .top, .top, .top, .top, .top, .top, .top, .top, .top, .top, .top, .top, .top, .top], [], none⟩
noncomputable def f175.j1a (k : Nat) (x_ n_ : Int) : Option PV := gateK k (placeAt Tryz.prog cf ext hint k 175 [1, 1, 1]) ⟨[.sc (.int .u64 x_), .top, .sc (.int .i64 n_), .top, .top, .top, .top, .top, .top, .top, .top, .top, .top, .top, .top, .top, .top, .top, .top, .top, .top, .top, .top, .top, .top], [], none⟩
theorem f175_eq (k : Nat) (x_ : Int) : D 175 [.sc (.int .u64 x_)] =
  if decide (x_ ≥ 4294967296) = true then
    f175.j0a k (x_.fdiv 4294967296) 32
  else
    f175.j0a k x_ 0 :=
  (denI_eq k _ _).trans (by kernel_rfl)
theorem f175.j0a_eq (k : Nat) (x_ n_ : Int) : f175.j0a k x_ n_ =
  if decide (x_ ≥ 65536) = true then
    f175.j1a k (x_.fdiv 65536) (IntKind.i64.wrap (n_ + 16))
  else
    f175.j1a k x_ n_ :=
  (gateK_open _ _ _).trans (by kernel_rfl)
theorem f175.j1a_eq (k : Nat) (x_ n_ : Int) : f175.j1a k x_ n_ =
  if decide (x_ ≥ 256) = true then
    if 0 ≤ IntKind.u8.wrap (x_.fdiv 256) then
      if IntKind.u8.wrap (x_.fdiv 256) < (256 : Int) then
        some (.sc (.int .i64 (IntKind.i64.wrap ((IntKind.i64.wrap (n_ + 8)) + (IntKind.i64.wrap (bt (⟨#[0, 1, 2, 2, 3, 3, 3, 3, 4, 4, 4, 4, 4, 4, 4, 4, 5, 5, 5, 5, 5, 5, 5, 5, 5, 5, 5, 5, 5, 5, 5, 5, 6, 6, 6, 6, 6, 6, 6, 6, 6, 6, 6, 6, 6, 6, 6, 6, 6, 6, 6, 6, 6, 6, 6, 6, 6, 6, 6, 6, 6, 6, 6, 6, 7, 7, 7, 7, 7, 7, 7, 7, 7, 7, 7, 7, 7, 7, 7, 7, 7, 7, 7, 7, 7, 7, 7, 7, 7, 7, 7, 7, 7, 7, 7, 7, 7, 7, 7, 7, 7, 7, 7, 7, 7, 7, 7, 7, 7, 7, 7, 7, 7, 7, 7, 7, 7, 7, 7, 7, 7, 7, 7, 7, 7, 7, 7, 7, 8, 8, 8, 8, 8, 8, 8, 8, 8, 8, 8, 8, 8, 8, 8, 8, 8, 8, 8, 8, 8, 8, 8, 8, 8, 8, 8, 8, 8, 8, 8, 8, 8, 8, 8, 8, 8, 8, 8, 8, 8, 8, 8, 8, 8, 8, 8, 8, 8, 8, 8, 8, 8, 8, 8, 8, 8, 8, 8, 8, 8, 8, 8, 8, 8, 8, 8, 8, 8, 8, 8, 8, 8, 8, 8, 8, 8, 8, 8, 8, 8, 8, 8, 8, 8, 8, 8, 8, 8, 8, 8, 8, 8, 8, 8, 8, 8, 8, 8, 8, 8, 8, 8, 8, 8, 8, 8, 8, 8, 8, 8, 8, 8, 8, 8, 8, 8, 8, 8, 8, 8, 8, 8, 8, 8, 8, 8, 8]⟩ : ByteArray) (IntKind.u8.wrap (x_.fdiv 256))))))))
      else none
    else none
  else
    if 0 ≤ IntKind.u8.wrap (x_) then
      if IntKind.u8.wrap (x_) < (256 : Int) then
        some (.sc (.int .i64 (IntKind.i64.wrap (n_ + (IntKind.i64.wrap (bt (⟨#[0, 1, 2, 2, 3, 3, 3, 3, 4, 4, 4, 4, 4, 4, 4, 4, 5, 5, 5, 5, 5, 5, 5, 5, 5, 5, 5, 5, 5, 5, 5, 5, 6, 6, 6, 6, 6, 6, 6, 6, 6, 6, 6, 6, 6, 6, 6, 6, 6, 6, 6, 6, 6, 6, 6, 6, 6, 6, 6, 6, 6, 6, 6, 6, 7, 7, 7, 7, 7, 7, 7, 7, 7, 7, 7, 7, 7, 7, 7, 7, 7, 7, 7, 7, 7, 7, 7, 7, 7, 7, 7, 7, 7, 7, 7, 7, 7, 7, 7, 7, 7, 7, 7, 7, 7, 7, 7, 7, 7, 7, 7, 7, 7, 7, 7, 7, 7, 7, 7, 7, 7, 7, 7, 7, 7, 7, 7, 7, 8, 8, 8, 8, 8, 8, 8, 8, 8, 8, 8, 8, 8, 8, 8, 8, 8, 8, 8, 8, 8, 8, 8, 8, 8, 8, 8, 8, 8, 8, 8, 8, 8, 8, 8, 8, 8, 8, 8, 8, 8, 8, 8, 8, 8, 8, 8, 8, 8, 8, 8, 8, 8, 8, 8, 8, 8, 8, 8, 8, 8, 8, 8, 8, 8, 8, 8, 8, 8, 8, 8, 8, 8, 8, 8, 8, 8, 8, 8, 8, 8, 8, 8, 8, 8, 8, 8, 8, 8, 8, 8, 8, 8, 8, 8, 8, 8, 8, 8, 8, 8, 8, 8, 8, 8, 8, 8, 8, 8, 8, 8, 8, 8, 8, 8, 8, 8, 8, 8, 8, 8, 8, 8, 8, 8, 8, 8, 8]⟩ : ByteArray) (IntKind.u8.wrap (x_))))))))
      else none
    else none :=
  (gateK_open _ _ _).trans (by kernel_rfl)
-- oculus/dec.Sign
theorem f254_eq (k : Nat) (x_ : Int) : D 254 [.sc (.int .i64 x_)] =
  if decide (x_ < 0) = true then
    some (.sc (.int .i64 (-1)))
  else
    if decide (x_ > 0) = true then
      some (.sc (.int .i64 1))
    else
      some (.sc (.int .i64 0)) :=
  (denI_eq k _ _).trans (by kernel_rfl)
end EB
end Go.Den
