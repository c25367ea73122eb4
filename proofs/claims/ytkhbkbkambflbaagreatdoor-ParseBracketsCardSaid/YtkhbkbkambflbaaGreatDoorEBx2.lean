import Derived.Test.YtkhbkbkambflbaaGreatDoorEBh
import Derived.KernelRfl
set_option maxRecDepth 100000
set_option linter.unusedVariables false
namespace Go.Den
open Go Go.Proofs
namespace EB
-- oculus/dec.Add
theorem f228_eq (k : Nat) (a b : Int) : D 228 [.sc (.int .i64 a), .sc (.int .i64 b)] =
  (D 148 [.sc (.int .i64 a)]).bind fun r1 => if hasSh .bool r1 = true then
  Option.bind (α := PV) (
    if (!r1.toBool) = true then
      some (.sc (.bool true))
    else
      Option.bind (α := PV) (
        (D 148 [.sc (.int .i64 b)]).bind fun r2 => if hasSh .bool r2 = true then
        some (.sc (.bool (!r2.toBool)))
        else none) fun r3 =>
      some (.sc (.bool r3.toBool))) fun r4 =>
  Option.bind (α := PV) (
    if r4.toBool = true then
      some (.sc (.bool true))
    else
      Option.bind (α := PV) (
        (D 148 [.sc (.int .i64 (IntKind.i64.wrap (a + b)))]).bind fun r5 => if hasSh .bool r5 = true then
        some (.sc (.bool (!r5.toBool)))
        else none) fun r6 =>
      some (.sc (.bool r6.toBool))) fun r7 =>
  Option.bind (α := PV) (
    if r7.toBool = true then
      some (.sc (.bool true))
    else
      Option.bind (α := PV) (
        Option.bind (α := PV) (
          Option.bind (α := PV) (
            if decide (a > 0) = true then
              some (.sc (.bool (decide (b > 0))))
            else
              some (.sc (.bool false))) fun r8 =>
          Option.bind (α := PV) (
            Option.bind (α := PV) (
              if r8.toBool = true then
                some (.sc (.bool (decide ((IntKind.i64.wrap (a + b)) < 0))))
              else
                some (.sc (.bool false))) fun r9 =>
            some (.sc (.bool r9.toBool))) fun r10 =>
          some (.sc (.bool r10.toBool))) fun r11 =>
        some (.sc (.bool r11.toBool))) fun r12 =>
      some (.sc (.bool r12.toBool))) fun r13 =>
  Option.bind (α := PV) (
    if r13.toBool = true then
      some (.sc (.bool true))
    else
      Option.bind (α := PV) (
        Option.bind (α := PV) (
          Option.bind (α := PV) (
            if decide (a < 0) = true then
              some (.sc (.bool (decide (b < 0))))
            else
              some (.sc (.bool false))) fun r14 =>
          Option.bind (α := PV) (
            Option.bind (α := PV) (
              if r14.toBool = true then
                some (.sc (.bool (decide ((IntKind.i64.wrap (a + b)) ≥ 0))))
              else
                some (.sc (.bool false))) fun r15 =>
            some (.sc (.bool r15.toBool))) fun r16 =>
          some (.sc (.bool r16.toBool))) fun r17 =>
        some (.sc (.bool r17.toBool))) fun r18 =>
      some (.sc (.bool r18.toBool))) fun r19 =>
  if r19.toBool = true then
    some (.tup [.sc (.int .i64 0), .sc (.bool false)])
  else
    some (.tup [.sc (.int .i64 (IntKind.i64.wrap (a + b))), .sc (.bool true)])
  else none :=
  (denI_eq k _ _).trans (by kernel_rfl)
-- oculus/digits.put
theorem f205_eq (k : Nat) (x_ y : Int) (minus : Bool) : D 205 [.sc (.int .i64 x_), .sc (.int .i64 y), .sc (.bool minus)] =
  (D 229 [.sc (.int .i64 x_)]).bind fun r1 => if hasSh (.tup [(.int .i64), .bool]) r1 = true then
  (D 228 [.sc (.int .i64 ((cel 0 r1.parts).toInt)), .sc (.int .i64 y)]).bind fun r2 => if hasSh (.tup [(.int .i64), .bool]) r2 = true then
  Option.bind (α := PV) (
    if (!((cel 1 r1.parts).toBool)) = true then
      some (.sc (.bool true))
    else
      some (.sc (.bool (!((cel 1 r2.parts).toBool))))) fun r3 =>
  if r3.toBool = true then
    some (.tup [.sc (.int .i64 0), .sc (.bool false)])
  else
    if minus = true then
      (D 230 [.sc (.int .i64 ((cel 0 r2.parts).toInt))]).bind fun r4 => if hasSh (.tup [(.int .i64), .bool]) r4 = true then
      some (.tup [.sc (.int .i64 ((cel 0 r4.parts).toInt)), .sc (.bool ((cel 1 r4.parts).toBool))])
      else none
    else
      some (.tup [.sc (.int .i64 ((cel 0 r2.parts).toInt)), .sc (.bool true)])
  else none
  else none :=
  (denI_eq k _ _).trans (by kernel_rfl)
-- oculus/dec.Of
theorem f229_eq (k : Nat) (n_ : Int) : D 229 [.sc (.int .i64 n_)] =
  (D 227 [.sc (.int .i64 n_), .sc (.int .i64 10000), .sc (.int .i64 1)]).bind fun r1 => if hasSh (.tup [(.int .i64), .bool]) r1 = true then
  some (.tup [.sc (.int .i64 ((cel 0 r1.parts).toInt)), .sc (.bool ((cel 1 r1.parts).toBool))])
  else none :=
  (denI_eq k _ _).trans (by kernel_rfl)
-- oculus/dec.Neg
theorem f230_eq (k : Nat) (x_ : Int) : D 230 [.sc (.int .i64 x_)] =
  (D 148 [.sc (.int .i64 x_)]).bind fun r1 => if hasSh .bool r1 = true then
  if (!r1.toBool) = true then
    some (.tup [.sc (.int .i64 0), .sc (.bool false)])
  else
    some (.tup [.sc (.int .i64 (IntKind.i64.wrap (0 - x_))), .sc (.bool true)])
  else none :=
  (denI_eq k _ _).trans (by kernel_rfl)
-- oculus/lex.str
noncomputable def f129.l0a (k : Nat) (s_ : ByteArray) (i : Int) : Option PV := loopAt Tryz.prog cf ext hint k 129 [1, 1, 0, 1, 0] ⟨[.sc (.string s_), .top, .top, .top, .ptr 0 0, .sc (.int .i64 i), .top, .top, .top, .top, .top, .top, .top, .top, .top, .top, .top, .top, .top, .top, .top, .top, .top, .top, .top, .top, .top, .top, .top, .top, .top, .top, .top, .top, .top, .top, .top, .top, .top, .top, .top, .top, .top, .top, .top, .top], [.cells 90 [.sc (.pointer none), .nils]], none⟩
noncomputable def f129.l0b (k : Nat) (s_ : ByteArray) (i : Int) (xs1 : List PV) : Option PV := loopAt Tryz.prog cf ext hint k 129 [1, 1, 0, 1, 0] ⟨[.sc (.string s_), .top, .top, .top, .ptr 0 0, .sc (.int .i64 i), .top, .top, .top, .top, .top, .top, .top, .top, .top, .top, .top, .top, .top, .top, .top, .top, .top, .top, .top, .top, .top, .top, .top, .top, .top, .top, .top, .top, .top, .top, .top, .top, .top, .top, .top, .top, .top, .top, .top, .top], [.cells 90 [.selfp 0, .buf 1 0], .buf 5 0 xs1], none⟩
theorem f129_eq (k : Nat) (s_ : ByteArray) : D 129 [.sc (.string s_)] =
  f129.l0a k s_ 1 :=
  (denI_eq k _ _).trans (by kernel_rfl)
theorem f129.l0a_eq (k : Nat) (s_ : ByteArray) (i : Int) : f129.l0a k s_ i =
  if decide (i < (s_.size : Int)) = true then
    if 0 ≤ i then
      if i < (s_.size : Int) then
        (D 178 [.sc (.int .u8 (bt s_ i))]).bind fun r1 => if hasSh .bool r1 = true then
        if (!r1.toBool) = true then
          some (.tup [.sc (.string (⟨#[]⟩ : ByteArray)), .sc (.int .i64 0)])
        else
          if 0 ≤ i then
            if i < (s_.size : Int) then
              if ((bt s_ i) != 34) = true then
                if 0 ≤ i then
                  if i < (s_.size : Int) then
                    (D 102 [.hp [.iptr (.ptr 90 0 :: [.selfp 0, .buf 1 0]), .tup (.ptr 5 0 :: ([] : List PV))], .ptr 0 0, .sc (.int .u8 (bt s_ i))]).bind fun r2 => if (isHand r2 && (false || objsOk fo102 (handObjs r2)) && retOk Tryz.prog 6 [137] (handRet r2)) = true then
                    f129.l0b k s_ (IntKind.i64.wrap (i + 1)) (hBuf 1 r2)
                    else none
                  else none
                else none
              else
                Option.bind (α := PV) (
                  if decide ((IntKind.i64.wrap (i + 1)) < (s_.size : Int)) = true then
                    Option.bind (α := PV) (
                      Option.bind (α := PV) (
                        Option.bind (α := PV) (
                          if 0 ≤ IntKind.i64.wrap (i + 1) then
                            if IntKind.i64.wrap (i + 1) < (s_.size : Int) then
                              some (.sc (.bool ((bt s_ (IntKind.i64.wrap (i + 1))) == 34)))
                            else none
                          else none) fun r3 =>
                        some (.sc (.bool r3.toBool))) fun r4 =>
                      some (.sc (.bool r4.toBool))) fun r5 =>
                    some (.sc (.bool r5.toBool))
                  else
                    some (.sc (.bool false))) fun r6 =>
                if r6.toBool = true then
                  (D 102 [.hp [.iptr (.ptr 90 0 :: [.selfp 0, .buf 1 0]), .tup (.ptr 5 0 :: ([] : List PV))], .ptr 0 0, .sc (.int .u8 34)]).bind fun r7 => if (isHand r7 && (false || objsOk fo102 (handObjs r7)) && retOk Tryz.prog 6 [137] (handRet r7)) = true then
                  f129.l0b k s_ (IntKind.i64.wrap ((IntKind.i64.wrap (i + 1)) + 1)) (hBuf 1 r7)
                  else none
                else
                  (D 53 [.hp [.iptr (.ptr 90 0 :: [.selfp 0, .buf 1 0]), .tup (.ptr 5 0 :: ([] : List PV))], .ptr 0 0]).bind fun r8 => if (isHand r8 && (true || objsOk fo53 (handObjs r8)) && retOk Tryz.prog 6 [9] (handRet r8)) = true then
                  some (.tup [.sc (.string ((handRet r8).toStr)), .sc (.int .i64 (IntKind.i64.wrap (i + 1)))])
                  else none
            else none
          else none
        else none
      else none
    else none
  else
    some (.tup [.sc (.string (⟨#[]⟩ : ByteArray)), .sc (.int .i64 0)]) :=
  (loopAt_eq _ _ _ _).trans (by kernel_rfl)
theorem f129.l0b_eq (k : Nat) (s_ : ByteArray) (i : Int) (xs1 : List PV) : f129.l0b k s_ i xs1 =
  if decide (i < (s_.size : Int)) = true then
    if 0 ≤ i then
      if i < (s_.size : Int) then
        (D 178 [.sc (.int .u8 (bt s_ i))]).bind fun r9 => if hasSh .bool r9 = true then
        if (!r9.toBool) = true then
          some (.tup [.sc (.string (⟨#[]⟩ : ByteArray)), .sc (.int .i64 0)])
        else
          if 0 ≤ i then
            if i < (s_.size : Int) then
              if ((bt s_ i) != 34) = true then
                if 0 ≤ i then
                  if i < (s_.size : Int) then
                    (D 102 [.hp [.iptr (.ptr 90 0 :: [.selfp 0, .buf 1 0]), .tup (.ptr 5 0 :: xs1)], .ptr 0 0, .sc (.int .u8 (bt s_ i))]).bind fun r10 => if (isHand r10 && (false || objsOk fo102 (handObjs r10)) && retOk Tryz.prog 6 [137] (handRet r10)) = true then
                    f129.l0b k s_ (IntKind.i64.wrap (i + 1)) (hBuf 1 r10)
                    else none
                  else none
                else none
              else
                Option.bind (α := PV) (
                  if decide ((IntKind.i64.wrap (i + 1)) < (s_.size : Int)) = true then
                    Option.bind (α := PV) (
                      Option.bind (α := PV) (
                        Option.bind (α := PV) (
                          if 0 ≤ IntKind.i64.wrap (i + 1) then
                            if IntKind.i64.wrap (i + 1) < (s_.size : Int) then
                              some (.sc (.bool ((bt s_ (IntKind.i64.wrap (i + 1))) == 34)))
                            else none
                          else none) fun r11 =>
                        some (.sc (.bool r11.toBool))) fun r12 =>
                      some (.sc (.bool r12.toBool))) fun r13 =>
                    some (.sc (.bool r13.toBool))
                  else
                    some (.sc (.bool false))) fun r14 =>
                if r14.toBool = true then
                  (D 102 [.hp [.iptr (.ptr 90 0 :: [.selfp 0, .buf 1 0]), .tup (.ptr 5 0 :: xs1)], .ptr 0 0, .sc (.int .u8 34)]).bind fun r15 => if (isHand r15 && (false || objsOk fo102 (handObjs r15)) && retOk Tryz.prog 6 [137] (handRet r15)) = true then
                  f129.l0b k s_ (IntKind.i64.wrap ((IntKind.i64.wrap (i + 1)) + 1)) (hBuf 1 r15)
                  else none
                else
                  (D 53 [.hp [.iptr (.ptr 90 0 :: [.selfp 0, .buf 1 0]), .tup (.ptr 5 0 :: xs1)], .ptr 0 0]).bind fun r16 => if (isHand r16 && (true || objsOk fo53 (handObjs r16)) && retOk Tryz.prog 6 [9] (handRet r16)) = true then
                  some (.tup [.sc (.string ((handRet r16).toStr)), .sc (.int .i64 (IntKind.i64.wrap (i + 1)))])
                  else none
            else none
          else none
        else none
      else none
    else none
  else
    some (.tup [.sc (.string (⟨#[]⟩ : ByteArray)), .sc (.int .i64 0)]) :=
  (loopAt_eq _ _ _ _).trans (by kernel_rfl)
-- (*strings.Builder).WriteByte
theorem f102h_eq (k : Nat) (c : Int) (buf : List PV) : D 102 [.hp [.iptr (.ptr 90 0 :: [.selfp 0, .buf 1 0]), .tup (.ptr 5 0 :: buf)], .ptr 0 0, .sc (.int .u8 c)] =
  (D 147 [.hp [.iptr (.ptr 90 0 :: [.selfp 0, .buf 1 0]), .tup (.ptr 5 0 :: buf)], .ptr 0 0]).bind fun r1 => if (isHand r1 && (false || objsOk fo147 (handObjs r1)) && retOk Tryz.prog 6 [] (handRet r1)) = true then
  if ((hBuf 1 r1).length + ([.sc (.int .u8 c)] : List PV).length) * 1 ≤ 140737488355328 ∧ (hBuf 1 r1).length + ([.sc (.int .u8 c)] : List PV).length ≤ 140737488355328 then
    some (.tup [.hp [.iptr (.ptr 90 0 :: [.selfp 0, .buf 1 0]), .tup (.ptr 5 0 :: ((hBuf 1 r1) ++ ([.sc (.int .u8 c)] : List PV)))], .top])
  else none
  else none :=
  (denI_eq k _ _).trans (by kernel_rfl)
-- oculus/lex.plain
theorem f178_eq (k : Nat) (b : Int) : D 178 [.sc (.int .u8 b)] =
  Option.bind (α := PV) (
    if decide (b ≥ 32) = true then
      some (.sc (.bool (b != 127)))
    else
      some (.sc (.bool false))) fun r1 =>
  some (.sc (.bool r1.toBool)) :=
  (denI_eq k _ _).trans (by kernel_rfl)
-- oculus/lex.inWord
theorem f130_eq (k : Nat) (b : Int) (begins : Bool) : D 130 [.sc (.int .u8 b), .sc (.bool begins)] =
  Option.bind (α := PV) (
    if decide (b ≥ 65) = true then
      some (.sc (.bool (decide (b ≤ 90))))
    else
      some (.sc (.bool false))) fun r1 =>
  Option.bind (α := PV) (
    if r1.toBool = true then
      some (.sc (.bool true))
    else
      some (.sc (.bool (b == 36)))) fun r2 =>
  Option.bind (α := PV) (
    if r2.toBool = true then
      some (.sc (.bool true))
    else
      Option.bind (α := PV) (
        Option.bind (α := PV) (
          Option.bind (α := PV) (
            if (!begins) = true then
              some (.sc (.bool (decide (b ≥ 48))))
            else
              some (.sc (.bool false))) fun r3 =>
          Option.bind (α := PV) (
            Option.bind (α := PV) (
              if r3.toBool = true then
                some (.sc (.bool (decide (b ≤ 57))))
              else
                some (.sc (.bool false))) fun r4 =>
            some (.sc (.bool r4.toBool))) fun r5 =>
          some (.sc (.bool r5.toBool))) fun r6 =>
        some (.sc (.bool r6.toBool))) fun r7 =>
      some (.sc (.bool r7.toBool))) fun r8 =>
  some (.sc (.bool r8.toBool)) :=
  (denI_eq k _ _).trans (by kernel_rfl)
-- (*oculus/parse.parser).binary
noncomputable def f41h.l0a (k : Nat) (level : Int) (pn : Nat) (pf : Nat → PV) (p : Int) (p_1 : Bool) (c1 c1_1 c1_2 c1_3 : Int) (c1_4 : ByteArray) (c1_5 c1_6 : Int) (c1_7 c1_8 : Bool) (c1_9 c1_10 : Int) (c1_11 c1_12 : Bool) (out out_1 out_2 out_3 : Int) (out_4 : ByteArray) (out_5 out_6 : Int) (out_7 out_8 : Bool) (out_9 out_10 : Int) (out_11 out_12 : Bool) (outn : Nat) (outf : Nat → PV) : Option PV := loopAt Tryz.prog cf ext hint k 41 [1, 1, 1, 0, 0] ⟨[.ptr 0 0, .sc (.int .i64 level), .top, .top, .ptr 1 0, .ptr 2 0, .top, .top, .top, .top, .top, .top, .top, .top, .top, .top, .top, .top, .top, .top, .top, .top, .top, .top, .top, .top, .top, .top, .top, .top, .top, .top, .top, .top, .top, .top, .top, .top, .top, .top, .top, .top, .top, .top, .top, .top, .top, .top, .top], [.cells 67 [.lst 4 pn pf, .sc (.int .i64 p), .sc (.bool p_1)], .cells 29 [.sc (.int .i64 c1), .sc (.int .i64 c1_1), .sc (.int .i64 c1_2), .sc (.int .i64 c1_3), .sc (.string c1_4), .sc (.int .i64 c1_5), .sc (.int .i64 c1_6), .sc (.bool c1_7), .sc (.bool c1_8), .sc (.int .i64 c1_9), .sc (.int .i64 c1_10), .sc (.bool c1_11), .sc (.bool c1_12), .nils], .cells 29 [.sc (.int .i64 out), .sc (.int .i64 out_1), .sc (.int .i64 out_2), .sc (.int .i64 out_3), .sc (.string out_4), .sc (.int .i64 out_5), .sc (.int .i64 out_6), .sc (.bool out_7), .sc (.bool out_8), .sc (.int .i64 out_9), .sc (.int .i64 out_10), .sc (.bool out_11), .sc (.bool out_12), .lst 14 outn outf]], (some 1)⟩
noncomputable def f41h.l0b (k : Nat) (level : Int) (pn : Nat) (pf : Nat → PV) (p : Int) (p_1 : Bool) (c1 c1_1 c1_2 c1_3 : Int) (c1_4 : ByteArray) (c1_5 c1_6 : Int) (c1_7 c1_8 : Bool) (c1_9 c1_10 : Int) (c1_11 c1_12 : Bool) (out out_1 out_2 out_3 : Int) (out_4 : ByteArray) (out_5 out_6 : Int) (out_7 out_8 : Bool) (out_9 out_10 : Int) (out_11 out_12 : Bool) (xs3 : List PV) : Option PV := loopAt Tryz.prog cf ext hint k 41 [1, 1, 1, 0, 0] ⟨[.ptr 0 0, .sc (.int .i64 level), .top, .top, .ptr 1 0, .ptr 2 0, .top, .top, .top, .top, .top, .top, .top, .top, .top, .top, .top, .top, .top, .top, .top, .top, .top, .top, .top, .top, .top, .top, .top, .top, .top, .top, .top, .top, .top, .top, .top, .top, .top, .top, .top, .top, .top, .top, .top, .top, .top, .top, .top], [.cells 67 [.lst 4 pn pf, .sc (.int .i64 p), .sc (.bool p_1)], .cells 29 [.sc (.int .i64 c1), .sc (.int .i64 c1_1), .sc (.int .i64 c1_2), .sc (.int .i64 c1_3), .sc (.string c1_4), .sc (.int .i64 c1_5), .sc (.int .i64 c1_6), .sc (.bool c1_7), .sc (.bool c1_8), .sc (.int .i64 c1_9), .sc (.int .i64 c1_10), .sc (.bool c1_11), .sc (.bool c1_12), .nils], .cells 29 [.sc (.int .i64 out), .sc (.int .i64 out_1), .sc (.int .i64 out_2), .sc (.int .i64 out_3), .sc (.string out_4), .sc (.int .i64 out_5), .sc (.int .i64 out_6), .sc (.bool out_7), .sc (.bool out_8), .sc (.int .i64 out_9), .sc (.int .i64 out_10), .sc (.bool out_11), .sc (.bool out_12), .buf 3 0], .buf 29 0 xs3], (some 1)⟩
theorem f41h_eq (k : Nat) (level : Int) (ln : Nat) (lf : Nat → PV) (at_ : Int) (wrong : Bool) : D 41 [.hp [.iptr (.ptr 67 0 :: [.lst 4 ln lf, .sc (.int .i64 at_), .sc (.bool wrong)])], .ptr 0 0, .sc (.int .i64 level)] =
  if decide (level > 5) = true then
    (D 79 [.hp [.iptr (.ptr 67 0 :: [.lst 4 ln lf, .sc (.int .i64 at_), .sc (.bool wrong)])], .ptr 0 0]).bind fun r1 => if (isHand r1 && (false || objsOk fo79 (handObjs r1)) && retOk Tryz.prog 6 [29] (handRet r1)) = true then
    some (.tup [.hp [.iptr (.ptr 67 0 :: [.lst 4 ((hCell 0 0 r1).len) ((hCell 0 0 r1).at), .sc (.int .i64 ((hCell 0 1 r1).toInt)), .sc (.bool ((hCell 0 2 r1).toBool))])], .agg [.sc (.int .i64 ((cel 0 (handRet r1).cells).toInt)), .sc (.int .i64 ((cel 1 (handRet r1).cells).toInt)), .sc (.int .i64 ((cel 2 (handRet r1).cells).toInt)), .sc (.int .i64 ((cel 3 (handRet r1).cells).toInt)), .sc (.string ((cel 4 (handRet r1).cells).toStr)), .sc (.int .i64 ((cel 5 (handRet r1).cells).toInt)), .sc (.int .i64 ((cel 6 (handRet r1).cells).toInt)), .sc (.bool ((cel 7 (handRet r1).cells).toBool)), .sc (.bool ((cel 8 (handRet r1).cells).toBool)), .sc (.int .i64 ((cel 9 (handRet r1).cells).toInt)), .sc (.int .i64 ((cel 10 (handRet r1).cells).toInt)), .sc (.bool ((cel 11 (handRet r1).cells).toBool)), .sc (.bool ((cel 12 (handRet r1).cells).toBool)), .lst 14 ((cel 13 (handRet r1).cells).len) ((cel 13 (handRet r1).cells).at)]])
    else none
  else
    (D 41 [.hp [.iptr (.ptr 67 0 :: [.lst 4 ln lf, .sc (.int .i64 at_), .sc (.bool wrong)])], .ptr 0 0, .sc (.int .i64 (IntKind.i64.wrap (level + 1)))]).bind fun r2 => if (isHand r2 && (false || objsOk fo41 (handObjs r2)) && retOk Tryz.prog 6 [29] (handRet r2)) = true then
    f41h.l0a k level ((hCell 0 0 r2).len) ((hCell 0 0 r2).at) ((hCell 0 1 r2).toInt) ((hCell 0 2 r2).toBool) 0 0 0 0 (⟨#[]⟩ : ByteArray) 0 0 false false 0 0 false false ((cel 0 (handRet r2).cells).toInt) ((cel 1 (handRet r2).cells).toInt) ((cel 2 (handRet r2).cells).toInt) ((cel 3 (handRet r2).cells).toInt) ((cel 4 (handRet r2).cells).toStr) ((cel 5 (handRet r2).cells).toInt) ((cel 6 (handRet r2).cells).toInt) ((cel 7 (handRet r2).cells).toBool) ((cel 8 (handRet r2).cells).toBool) ((cel 9 (handRet r2).cells).toInt) ((cel 10 (handRet r2).cells).toInt) ((cel 11 (handRet r2).cells).toBool) ((cel 12 (handRet r2).cells).toBool) ((cel 13 (handRet r2).cells).len) ((cel 13 (handRet r2).cells).at)
    else none :=
  (denI_eq k _ _).trans (by kernel_rfl)
theorem f41h.l0a_eq (k : Nat) (level : Int) (pn : Nat) (pf : Nat → PV) (p : Int) (p_1 : Bool) (c1 c1_1 c1_2 c1_3 : Int) (c1_4 : ByteArray) (c1_5 c1_6 : Int) (c1_7 c1_8 : Bool) (c1_9 c1_10 : Int) (c1_11 c1_12 : Bool) (out out_1 out_2 out_3 : Int) (out_4 : ByteArray) (out_5 out_6 : Int) (out_7 out_8 : Bool) (out_9 out_10 : Int) (out_11 out_12 : Bool) (outn : Nat) (outf : Nat → PV) : f41h.l0a k level pn pf p p_1 c1 c1_1 c1_2 c1_3 c1_4 c1_5 c1_6 c1_7 c1_8 c1_9 c1_10 c1_11 c1_12 out out_1 out_2 out_3 out_4 out_5 out_6 out_7 out_8 out_9 out_10 out_11 out_12 outn outf =
  if (!p_1) = true then
    (D 42 [.hp [.iptr (.ptr 67 0 :: [.lst 4 pn pf, .sc (.int .i64 p), .sc (.bool p_1)])], .ptr 0 0]).bind fun r3 => if (isHand r3 && (false || objsOk fo42 (handObjs r3)) && retOk Tryz.prog 6 [70] (handRet r3)) = true then
    if (((cel 0 (handRet r3).cells).toInt) == 4) = true then
      (D 42 [.hp [.iptr (.ptr 67 0 :: [.lst 4 ((hCell 0 0 r3).len) ((hCell 0 0 r3).at), .sc (.int .i64 ((hCell 0 1 r3).toInt)), .sc (.bool ((hCell 0 2 r3).toBool))])], .ptr 0 0]).bind fun r4 => if (isHand r4 && (false || objsOk fo42 (handObjs r4)) && retOk Tryz.prog 6 [70] (handRet r4)) = true then
      (D 80 [.sc (.int .i64 level), .sc (.string ((cel 2 (handRet r4).cells).toStr))]).bind fun r5 => if hasSh (.int .i64) r5 = true then
      if (r5.toInt == 0) = true then
        some (.tup [.hp [.iptr (.ptr 67 0 :: [.lst 4 ((hCell 0 0 r4).len) ((hCell 0 0 r4).at), .sc (.int .i64 ((hCell 0 1 r4).toInt)), .sc (.bool ((hCell 0 2 r4).toBool))])], .agg [.sc (.int .i64 out), .sc (.int .i64 out_1), .sc (.int .i64 out_2), .sc (.int .i64 out_3), .sc (.string out_4), .sc (.int .i64 out_5), .sc (.int .i64 out_6), .sc (.bool out_7), .sc (.bool out_8), .sc (.int .i64 out_9), .sc (.int .i64 out_10), .sc (.bool out_11), .sc (.bool out_12), .lst 14 outn outf]])
      else
        (D 41 [.hp [.iptr (.ptr 67 0 :: [.lst 4 ((hCell 0 0 r4).len) ((hCell 0 0 r4).at), .sc (.int .i64 (IntKind.i64.wrap (((hCell 0 1 r4).toInt) + 1))), .sc (.bool ((hCell 0 2 r4).toBool))])], .ptr 0 0, .sc (.int .i64 (IntKind.i64.wrap (level + 1)))]).bind fun r6 => if (isHand r6 && (false || objsOk fo41 (handObjs r6)) && retOk Tryz.prog 6 [29] (handRet r6)) = true then
        f41h.l0b k level ((hCell 0 0 r6).len) ((hCell 0 0 r6).at) ((hCell 0 1 r6).toInt) ((hCell 0 2 r6).toBool) c1 c1_1 c1_2 c1_3 c1_4 c1_5 c1_6 c1_7 c1_8 c1_9 c1_10 c1_11 c1_12 6 r5.toInt 0 0 (⟨#[]⟩ : ByteArray) 0 0 false false 0 0 false false ([.agg [.sc (.int .i64 out), .sc (.int .i64 out_1), .sc (.int .i64 out_2), .sc (.int .i64 out_3), .sc (.string out_4), .sc (.int .i64 out_5), .sc (.int .i64 out_6), .sc (.bool out_7), .sc (.bool out_8), .sc (.int .i64 out_9), .sc (.int .i64 out_10), .sc (.bool out_11), .sc (.bool out_12), .lst 14 outn outf], .agg [.sc (.int .i64 ((cel 0 (handRet r6).cells).toInt)), .sc (.int .i64 ((cel 1 (handRet r6).cells).toInt)), .sc (.int .i64 ((cel 2 (handRet r6).cells).toInt)), .sc (.int .i64 ((cel 3 (handRet r6).cells).toInt)), .sc (.string ((cel 4 (handRet r6).cells).toStr)), .sc (.int .i64 ((cel 5 (handRet r6).cells).toInt)), .sc (.int .i64 ((cel 6 (handRet r6).cells).toInt)), .sc (.bool ((cel 7 (handRet r6).cells).toBool)), .sc (.bool ((cel 8 (handRet r6).cells).toBool)), .sc (.int .i64 ((cel 9 (handRet r6).cells).toInt)), .sc (.int .i64 ((cel 10 (handRet r6).cells).toInt)), .sc (.bool ((cel 11 (handRet r6).cells).toBool)), .sc (.bool ((cel 12 (handRet r6).cells).toBool)), .lst 14 ((cel 13 (handRet r6).cells).len) ((cel 13 (handRet r6).cells).at)]] : List PV)
        else none
      else none
      else none
    else
      some (.tup [.hp [.iptr (.ptr 67 0 :: [.lst 4 ((hCell 0 0 r3).len) ((hCell 0 0 r3).at), .sc (.int .i64 ((hCell 0 1 r3).toInt)), .sc (.bool ((hCell 0 2 r3).toBool))])], .agg [.sc (.int .i64 out), .sc (.int .i64 out_1), .sc (.int .i64 out_2), .sc (.int .i64 out_3), .sc (.string out_4), .sc (.int .i64 out_5), .sc (.int .i64 out_6), .sc (.bool out_7), .sc (.bool out_8), .sc (.int .i64 out_9), .sc (.int .i64 out_10), .sc (.bool out_11), .sc (.bool out_12), .lst 14 outn outf]])
    else none
  else
    some (.tup [.hp [.iptr (.ptr 67 0 :: [.lst 4 pn pf, .sc (.int .i64 p), .sc (.bool p_1)])], .agg [.sc (.int .i64 out), .sc (.int .i64 out_1), .sc (.int .i64 out_2), .sc (.int .i64 out_3), .sc (.string out_4), .sc (.int .i64 out_5), .sc (.int .i64 out_6), .sc (.bool out_7), .sc (.bool out_8), .sc (.int .i64 out_9), .sc (.int .i64 out_10), .sc (.bool out_11), .sc (.bool out_12), .lst 14 outn outf]]) :=
  (loopAt_eq _ _ _ _).trans (by kernel_rfl)
theorem f41h.l0b_eq (k : Nat) (level : Int) (pn : Nat) (pf : Nat → PV) (p : Int) (p_1 : Bool) (c1 c1_1 c1_2 c1_3 : Int) (c1_4 : ByteArray) (c1_5 c1_6 : Int) (c1_7 c1_8 : Bool) (c1_9 c1_10 : Int) (c1_11 c1_12 : Bool) (out out_1 out_2 out_3 : Int) (out_4 : ByteArray) (out_5 out_6 : Int) (out_7 out_8 : Bool) (out_9 out_10 : Int) (out_11 out_12 : Bool) (xs3 : List PV) : f41h.l0b k level pn pf p p_1 c1 c1_1 c1_2 c1_3 c1_4 c1_5 c1_6 c1_7 c1_8 c1_9 c1_10 c1_11 c1_12 out out_1 out_2 out_3 out_4 out_5 out_6 out_7 out_8 out_9 out_10 out_11 out_12 xs3 =
  if (!p_1) = true then
    (D 42 [.hp [.iptr (.ptr 67 0 :: [.lst 4 pn pf, .sc (.int .i64 p), .sc (.bool p_1)])], .ptr 0 0]).bind fun r7 => if (isHand r7 && (false || objsOk fo42 (handObjs r7)) && retOk Tryz.prog 6 [70] (handRet r7)) = true then
    if (((cel 0 (handRet r7).cells).toInt) == 4) = true then
      (D 42 [.hp [.iptr (.ptr 67 0 :: [.lst 4 ((hCell 0 0 r7).len) ((hCell 0 0 r7).at), .sc (.int .i64 ((hCell 0 1 r7).toInt)), .sc (.bool ((hCell 0 2 r7).toBool))])], .ptr 0 0]).bind fun r8 => if (isHand r8 && (false || objsOk fo42 (handObjs r8)) && retOk Tryz.prog 6 [70] (handRet r8)) = true then
      (D 80 [.sc (.int .i64 level), .sc (.string ((cel 2 (handRet r8).cells).toStr))]).bind fun r9 => if hasSh (.int .i64) r9 = true then
      if (r9.toInt == 0) = true then
        some (.tup [.hp [.iptr (.ptr 67 0 :: [.lst 4 ((hCell 0 0 r8).len) ((hCell 0 0 r8).at), .sc (.int .i64 ((hCell 0 1 r8).toInt)), .sc (.bool ((hCell 0 2 r8).toBool))])], .agg [.sc (.int .i64 out), .sc (.int .i64 out_1), .sc (.int .i64 out_2), .sc (.int .i64 out_3), .sc (.string out_4), .sc (.int .i64 out_5), .sc (.int .i64 out_6), .sc (.bool out_7), .sc (.bool out_8), .sc (.int .i64 out_9), .sc (.int .i64 out_10), .sc (.bool out_11), .sc (.bool out_12), frozen 14 xs3]])
      else
        (D 41 [.hp [.iptr (.ptr 67 0 :: [.lst 4 ((hCell 0 0 r8).len) ((hCell 0 0 r8).at), .sc (.int .i64 (IntKind.i64.wrap (((hCell 0 1 r8).toInt) + 1))), .sc (.bool ((hCell 0 2 r8).toBool))])], .ptr 0 0, .sc (.int .i64 (IntKind.i64.wrap (level + 1)))]).bind fun r10 => if (isHand r10 && (false || objsOk fo41 (handObjs r10)) && retOk Tryz.prog 6 [29] (handRet r10)) = true then
        f41h.l0b k level ((hCell 0 0 r10).len) ((hCell 0 0 r10).at) ((hCell 0 1 r10).toInt) ((hCell 0 2 r10).toBool) c1 c1_1 c1_2 c1_3 c1_4 c1_5 c1_6 c1_7 c1_8 c1_9 c1_10 c1_11 c1_12 6 r9.toInt 0 0 (⟨#[]⟩ : ByteArray) 0 0 false false 0 0 false false ([.agg [.sc (.int .i64 out), .sc (.int .i64 out_1), .sc (.int .i64 out_2), .sc (.int .i64 out_3), .sc (.string out_4), .sc (.int .i64 out_5), .sc (.int .i64 out_6), .sc (.bool out_7), .sc (.bool out_8), .sc (.int .i64 out_9), .sc (.int .i64 out_10), .sc (.bool out_11), .sc (.bool out_12), frozen 14 xs3], .agg [.sc (.int .i64 ((cel 0 (handRet r10).cells).toInt)), .sc (.int .i64 ((cel 1 (handRet r10).cells).toInt)), .sc (.int .i64 ((cel 2 (handRet r10).cells).toInt)), .sc (.int .i64 ((cel 3 (handRet r10).cells).toInt)), .sc (.string ((cel 4 (handRet r10).cells).toStr)), .sc (.int .i64 ((cel 5 (handRet r10).cells).toInt)), .sc (.int .i64 ((cel 6 (handRet r10).cells).toInt)), .sc (.bool ((cel 7 (handRet r10).cells).toBool)), .sc (.bool ((cel 8 (handRet r10).cells).toBool)), .sc (.int .i64 ((cel 9 (handRet r10).cells).toInt)), .sc (.int .i64 ((cel 10 (handRet r10).cells).toInt)), .sc (.bool ((cel 11 (handRet r10).cells).toBool)), .sc (.bool ((cel 12 (handRet r10).cells).toBool)), .lst 14 ((cel 13 (handRet r10).cells).len) ((cel 13 (handRet r10).cells).at)]] : List PV)
        else none
      else none
      else none
    else
      some (.tup [.hp [.iptr (.ptr 67 0 :: [.lst 4 ((hCell 0 0 r7).len) ((hCell 0 0 r7).at), .sc (.int .i64 ((hCell 0 1 r7).toInt)), .sc (.bool ((hCell 0 2 r7).toBool))])], .agg [.sc (.int .i64 out), .sc (.int .i64 out_1), .sc (.int .i64 out_2), .sc (.int .i64 out_3), .sc (.string out_4), .sc (.int .i64 out_5), .sc (.int .i64 out_6), .sc (.bool out_7), .sc (.bool out_8), .sc (.int .i64 out_9), .sc (.int .i64 out_10), .sc (.bool out_11), .sc (.bool out_12), frozen 14 xs3]])
    else none
  else
    some (.tup [.hp [.iptr (.ptr 67 0 :: [.lst 4 pn pf, .sc (.int .i64 p), .sc (.bool p_1)])], .agg [.sc (.int .i64 out), .sc (.int .i64 out_1), .sc (.int .i64 out_2), .sc (.int .i64 out_3), .sc (.string out_4), .sc (.int .i64 out_5), .sc (.int .i64 out_6), .sc (.bool out_7), .sc (.bool out_8), .sc (.int .i64 out_9), .sc (.int .i64 out_10), .sc (.bool out_11), .sc (.bool out_12), frozen 14 xs3]]) :=
  (loopAt_eq _ _ _ _).trans (by kernel_rfl)
-- (*oculus/parse.parser).now
theorem f42h_eq (k : Nat) (ln : Nat) (lf : Nat → PV) (at_ : Int) (wrong : Bool) : D 42 [.hp [.iptr (.ptr 67 0 :: [.lst 4 ln lf, .sc (.int .i64 at_), .sc (.bool wrong)])], .ptr 0 0] =
  if 0 ≤ (if IntKind.i64.wrap ((ln : Int) - 1) < at_ then IntKind.i64.wrap ((ln : Int) - 1) else at_) then
    if (if IntKind.i64.wrap ((ln : Int) - 1) < at_ then IntKind.i64.wrap ((ln : Int) - 1) else at_) < (ln : Int) then
      if hasSh (.agg [(.int .i64), (.int .i64), .str, (.int .i64)]) (lf (if IntKind.i64.wrap ((ln : Int) - 1) < at_ then IntKind.i64.wrap ((ln : Int) - 1) else at_).toNat) = true then
        some (.tup [.hp [.iptr (.ptr 67 0 :: [.lst 4 ln lf, .sc (.int .i64 at_), .sc (.bool wrong)])], .agg [.sc (.int .i64 ((cel 0 (lf (if IntKind.i64.wrap ((ln : Int) - 1) < at_ then IntKind.i64.wrap ((ln : Int) - 1) else at_).toNat).cells).toInt)), .sc (.int .i64 ((cel 1 (lf (if IntKind.i64.wrap ((ln : Int) - 1) < at_ then IntKind.i64.wrap ((ln : Int) - 1) else at_).toNat).cells).toInt)), .sc (.string ((cel 2 (lf (if IntKind.i64.wrap ((ln : Int) - 1) < at_ then IntKind.i64.wrap ((ln : Int) - 1) else at_).toNat).cells).toStr)), .sc (.int .i64 ((cel 3 (lf (if IntKind.i64.wrap ((ln : Int) - 1) < at_ then IntKind.i64.wrap ((ln : Int) - 1) else at_).toNat).cells).toInt))]])
      else none
    else none
  else none :=
  (denI_eq k _ _).trans (by kernel_rfl)
-- (*oculus/parse.parser).signed
theorem f79h_eq (k : Nat) (ln : Nat) (lf : Nat → PV) (at_ : Int) (wrong : Bool) : D 79 [.hp [.iptr (.ptr 67 0 :: [.lst 4 ln lf, .sc (.int .i64 at_), .sc (.bool wrong)])], .ptr 0 0] =
  (D 133 [.hp [.iptr (.ptr 67 0 :: [.lst 4 ln lf, .sc (.int .i64 at_), .sc (.bool wrong)])], .ptr 0 0, .sc (.string (⟨#[45]⟩ : ByteArray))]).bind fun r1 => if (isHand r1 && (false || objsOk fo133 (handObjs r1)) && retOk Tryz.prog 6 [4] (handRet r1)) = true then
  if (handRet r1).toBool = true then
    (D 79 [.hp [.iptr (.ptr 67 0 :: [.lst 4 ((hCell 0 0 r1).len) ((hCell 0 0 r1).at), .sc (.int .i64 ((hCell 0 1 r1).toInt)), .sc (.bool ((hCell 0 2 r1).toBool))])], .ptr 0 0]).bind fun r2 => if (isHand r2 && (false || objsOk fo79 (handObjs r2)) && retOk Tryz.prog 6 [29] (handRet r2)) = true then
    some (.tup [.hp [.iptr (.ptr 67 0 :: [.lst 4 ((hCell 0 0 r2).len) ((hCell 0 0 r2).at), .sc (.int .i64 ((hCell 0 1 r2).toInt)), .sc (.bool ((hCell 0 2 r2).toBool))])], .agg [.sc (.int .i64 5), .sc (.int .i64 0), .sc (.int .i64 0), .sc (.int .i64 0), .sc (.string (⟨#[]⟩ : ByteArray)), .sc (.int .i64 0), .sc (.int .i64 0), .sc (.bool false), .sc (.bool false), .sc (.int .i64 0), .sc (.int .i64 0), .sc (.bool false), .sc (.bool false), frozen 14 ([.agg [.sc (.int .i64 ((cel 0 (handRet r2).cells).toInt)), .sc (.int .i64 ((cel 1 (handRet r2).cells).toInt)), .sc (.int .i64 ((cel 2 (handRet r2).cells).toInt)), .sc (.int .i64 ((cel 3 (handRet r2).cells).toInt)), .sc (.string ((cel 4 (handRet r2).cells).toStr)), .sc (.int .i64 ((cel 5 (handRet r2).cells).toInt)), .sc (.int .i64 ((cel 6 (handRet r2).cells).toInt)), .sc (.bool ((cel 7 (handRet r2).cells).toBool)), .sc (.bool ((cel 8 (handRet r2).cells).toBool)), .sc (.int .i64 ((cel 9 (handRet r2).cells).toInt)), .sc (.int .i64 ((cel 10 (handRet r2).cells).toInt)), .sc (.bool ((cel 11 (handRet r2).cells).toBool)), .sc (.bool ((cel 12 (handRet r2).cells).toBool)), .lst 14 ((cel 13 (handRet r2).cells).len) ((cel 13 (handRet r2).cells).at)]] : List PV)]])
    else none
  else
    (D 134 [.hp [.iptr (.ptr 67 0 :: [.lst 4 ((hCell 0 0 r1).len) ((hCell 0 0 r1).at), .sc (.int .i64 ((hCell 0 1 r1).toInt)), .sc (.bool ((hCell 0 2 r1).toBool))])], .ptr 0 0]).bind fun r3 => if (isHand r3 && (false || objsOk fo134 (handObjs r3)) && retOk Tryz.prog 6 [29] (handRet r3)) = true then
    some (.tup [.hp [.iptr (.ptr 67 0 :: [.lst 4 ((hCell 0 0 r3).len) ((hCell 0 0 r3).at), .sc (.int .i64 ((hCell 0 1 r3).toInt)), .sc (.bool ((hCell 0 2 r3).toBool))])], .agg [.sc (.int .i64 ((cel 0 (handRet r3).cells).toInt)), .sc (.int .i64 ((cel 1 (handRet r3).cells).toInt)), .sc (.int .i64 ((cel 2 (handRet r3).cells).toInt)), .sc (.int .i64 ((cel 3 (handRet r3).cells).toInt)), .sc (.string ((cel 4 (handRet r3).cells).toStr)), .sc (.int .i64 ((cel 5 (handRet r3).cells).toInt)), .sc (.int .i64 ((cel 6 (handRet r3).cells).toInt)), .sc (.bool ((cel 7 (handRet r3).cells).toBool)), .sc (.bool ((cel 8 (handRet r3).cells).toBool)), .sc (.int .i64 ((cel 9 (handRet r3).cells).toInt)), .sc (.int .i64 ((cel 10 (handRet r3).cells).toInt)), .sc (.bool ((cel 11 (handRet r3).cells).toBool)), .sc (.bool ((cel 12 (handRet r3).cells).toBool)), .lst 14 ((cel 13 (handRet r3).cells).len) ((cel 13 (handRet r3).cells).at)]])
    else none
  else none :=
  (denI_eq k _ _).trans (by kernel_rfl)
-- (*oculus/parse.parser).sign
theorem f133h_eq (k : Nat) (t : ByteArray) (ln : Nat) (lf : Nat → PV) (at_ : Int) (wrong : Bool) : D 133 [.hp [.iptr (.ptr 67 0 :: [.lst 4 ln lf, .sc (.int .i64 at_), .sc (.bool wrong)])], .ptr 0 0, .sc (.string t)] =
  (D 42 [.hp [.iptr (.ptr 67 0 :: [.lst 4 ln lf, .sc (.int .i64 at_), .sc (.bool wrong)])], .ptr 0 0]).bind fun r1 => if (isHand r1 && (false || objsOk fo42 (handObjs r1)) && retOk Tryz.prog 6 [70] (handRet r1)) = true then
  Option.bind (α := PV) (
    if (((cel 0 (handRet r1).cells).toInt) != 4) = true then
      some (.sc (.bool true))
    else
      some (.sc (.bool (!(((cel 2 (handRet r1).cells).toStr).toList == t.toList))))) fun r2 =>
  if r2.toBool = true then
    some (.tup [.hp [.iptr (.ptr 67 0 :: [.lst 4 ((hCell 0 0 r1).len) ((hCell 0 0 r1).at), .sc (.int .i64 ((hCell 0 1 r1).toInt)), .sc (.bool ((hCell 0 2 r1).toBool))])], .sc (.bool false)])
  else
    some (.tup [.hp [.iptr (.ptr 67 0 :: [.lst 4 ((hCell 0 0 r1).len) ((hCell 0 0 r1).at), .sc (.int .i64 (IntKind.i64.wrap (((hCell 0 1 r1).toInt) + 1))), .sc (.bool ((hCell 0 2 r1).toBool))])], .sc (.bool true)])
  else none :=
  (denI_eq k _ _).trans (by kernel_rfl)
end EB
end Go.Den
