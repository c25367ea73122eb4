import Derived.Test.YtbkdoeghgdbjlaaDoorELh
import Derived.KernelRfl
set_option maxRecDepth 100000
set_option linter.unusedVariables false
namespace Go.Den
open Go Go.Proofs
namespace EL
-- oculus/oculuslaw21.LexBlanks
noncomputable def f4.l0a (k : Nat) (s_ : ByteArray) (k_ : Int) (ln : Nat) (lf : Nat → PV) (n_ : Int) (blanks : ByteArray) (t55 t56 : Int) : Option PV := loopAt Tryd.prog cf ext hint k 4 [1, 1, 1, 1, 1, 0, 1, 0] ⟨[.sc (.string s_), .sc (.int .i64 k_), .top, .top, .top, .top, .top, .lst 4 ln lf, .top, .top, .sc (.int .i64 n_), .sc (.string blanks), .top, .top, .top, .top, .top, .top, .top, .top, .top, .top, .top, .top, .top, .top, .top, .top, .top, .top, .top, .top, .top, .top, .top, .top, .top, .top, .top, .top, .top, .top, .top, .top, .top, .top, .top, .top, .top, .top, .top, .top, .top, .top, .top, .sc (.int .i64 t55), .sc (.int .i64 t56), .top, .top, .top, .top, .top, .top, .top, .top, .top, .top, .top, .top, .top, .top, .top, .top, .top, .top, .top, .top, .top, .top, .top, .top, .top, .top, .top, .top, .top, .top, .top, .top, .top, .top, .top, .top, .top, .top, .top, .top, .top, .top, .top, .top, .top, .top, .top, .top, .top, .top, .top, .top, .top, .top, .top, .top, .top, .top], [], none⟩
noncomputable def f4.l1a (k : Nat) (k_ : Int) (ln : Nat) (lf : Nat → PV) (n_ : Int) (t91n : Nat) (t91f : Nat → PV) (t92 t93 : Int) : Option PV := loopAt Tryd.prog cf ext hint k 4 [1, 1, 1, 1, 1, 1, 1, 1, 0, 1, 0] ⟨[.top, .sc (.int .i64 k_), .top, .top, .top, .top, .top, .lst 4 ln lf, .top, .top, .sc (.int .i64 n_), .top, .top, .top, .top, .top, .top, .top, .top, .top, .top, .top, .top, .top, .top, .top, .top, .top, .top, .top, .top, .top, .top, .top, .top, .top, .top, .top, .top, .top, .top, .top, .top, .top, .top, .top, .top, .top, .top, .top, .top, .top, .top, .top, .top, .top, .top, .top, .top, .top, .top, .top, .top, .top, .top, .top, .top, .top, .top, .top, .top, .top, .top, .top, .top, .top, .top, .top, .top, .top, .top, .top, .top, .top, .top, .top, .top, .top, .top, .top, .top, .lst 4 t91n t91f, .sc (.int .i64 t92), .sc (.int .i64 t93), .top, .top, .top, .top, .top, .top, .top, .top, .top, .top, .top, .top, .top, .top, .top, .top, .top, .top, .top, .top, .top], [], none⟩
theorem f4_eq (k : Nat) (s_ : ByteArray) (k_ many : Int) : D 4 [.sc (.string s_), .sc (.int .i64 k_), .sc (.int .u8 many)] =
  (D 11 [.sc (.string s_)]).bind fun r1 => if hasSh (.tup [(.lst 4), (.int .i64), (.int .i64)]) r1 = true then
  Option.bind (α := PV) (
    if decide ((s_.size : Int) > 150) = true then
      some (.sc (.bool true))
    else
      some (.sc (.bool (((cel 2 r1.parts).toInt) != 0)))) fun r2 =>
  Option.bind (α := PV) (
    if r2.toBool = true then
      some (.sc (.bool true))
    else
      some (.sc (.bool (decide (k_ < 0))))) fun r3 =>
  Option.bind (α := PV) (
    if r3.toBool = true then
      some (.sc (.bool true))
    else
      some (.sc (.bool (decide (k_ ≥ ((cel 0 r1.parts).len : Int)))))) fun r4 =>
  Option.bind (α := PV) (
    if r4.toBool = true then
      some (.sc (.bool true))
    else
      Option.bind (α := PV) (
        Option.bind (α := PV) (
          if 0 ≤ k_ then
            if k_ < ((cel 0 r1.parts).len : Int) then
              if hasSh (.agg [(.int .i64), (.int .i64), .str, (.int .i64)]) (((cel 0 r1.parts).at) k_.toNat) = true then
                some (.sc (.bool (decide (((cel 1 (((cel 0 r1.parts).at) k_.toNat).cells).toInt) > (s_.size : Int)))))
              else none
            else none
          else none) fun r5 =>
        some (.sc (.bool r5.toBool))) fun r6 =>
      some (.sc (.bool r6.toBool))) fun r7 =>
  if r7.toBool = true then
    (D 12 []).bind fun r8 => if hasSh .bool r8 = true then
    some (.sc (.bool r8.toBool))
    else none
  else
    f4.l0a k s_ k_ ((cel 0 r1.parts).len) ((cel 0 r1.parts).at) (IntKind.i64.wrap (many.tmod 31)) (⟨#[]⟩ : ByteArray) (IntKind.i64.wrap (many.tmod 31)) 0
  else none :=
  (denI_eq k _ _).trans (by kernel_rfl)
theorem f4.l0a_eq (k : Nat) (s_ : ByteArray) (k_ : Int) (ln : Nat) (lf : Nat → PV) (n_ : Int) (blanks : ByteArray) (t55 t56 : Int) : f4.l0a k s_ k_ ln lf n_ blanks t55 t56 =
  if decide (t56 < t55) = true then
    if blanks.size + 1 ≤ 9223372036854775807 then
      f4.l0a k s_ k_ ln lf n_ (blanks ++ (⟨#[32]⟩ : ByteArray)) t55 (IntKind.i64.wrap (t56 + 1))
    else none
  else
    if 0 ≤ k_ then
      if k_ < (ln : Int) then
        if hasSh (.agg [(.int .i64), (.int .i64), .str, (.int .i64)]) (lf k_.toNat) = true then
          if 0 ≤ (cel 1 (lf k_.toNat).cells).toInt then
            if (cel 1 (lf k_.toNat).cells).toInt ≤ (s_.size : Int) then
              if 0 ≤ (cel 1 (lf k_.toNat).cells).toInt then
                if (s_.extract 0 ((cel 1 (lf k_.toNat).cells).toInt).toNat).size + blanks.size ≤ 9223372036854775807 then
                  if 0 ≤ k_ then
                    if k_ < (ln : Int) then
                      if hasSh (.agg [(.int .i64), (.int .i64), .str, (.int .i64)]) (lf k_.toNat) = true then
                        if 0 ≤ (s_.size : Int) then
                          if (s_.size : Int) ≤ (s_.size : Int) then
                            if 0 ≤ (cel 1 (lf k_.toNat).cells).toInt then
                              if (cel 1 (lf k_.toNat).cells).toInt ≤ (s_.size : Int) then
                                if ((s_.extract 0 ((cel 1 (lf k_.toNat).cells).toInt).toNat) ++ blanks).size + (s_.extract ((cel 1 (lf k_.toNat).cells).toInt).toNat (s_.size : Int).toNat).size ≤ 9223372036854775807 then
                                  (D 11 [.sc (.string (((s_.extract 0 ((cel 1 (lf k_.toNat).cells).toInt).toNat) ++ blanks) ++ (s_.extract ((cel 1 (lf k_.toNat).cells).toInt).toNat (s_.size : Int).toNat)))]).bind fun r9 => if hasSh (.tup [(.lst 4), (.int .i64), (.int .i64)]) r9 = true then
                                  Option.bind (α := PV) (
                                    if (((cel 2 r9.parts).toInt) != 0) = true then
                                      some (.sc (.bool true))
                                    else
                                      Option.bind (α := PV) (
                                        Option.bind (α := PV) (
                                          (D 13 [.lst 4 ln lf, .lst 4 ((cel 0 r9.parts).len) ((cel 0 r9.parts).at)]).bind fun r10 => if hasSh .bool r10 = true then
                                          some (.sc (.bool (!r10.toBool)))
                                          else none) fun r11 =>
                                        some (.sc (.bool r11.toBool))) fun r12 =>
                                      some (.sc (.bool r12.toBool))) fun r13 =>
                                  if r13.toBool = true then
                                    some (.sc (.bool false))
                                  else
                                    f4.l1a k k_ ln lf n_ ((cel 0 r9.parts).len) ((cel 0 r9.parts).at) ((cel 0 r9.parts).len : Int) 0
                                  else none
                                else none
                              else none
                            else none
                          else none
                        else none
                      else none
                    else none
                  else none
                else none
              else none
            else none
          else none
        else none
      else none
    else none :=
  (loopAt_eq _ _ _ _).trans (by kernel_rfl)
theorem f4.l1a_eq (k : Nat) (k_ : Int) (ln : Nat) (lf : Nat → PV) (n_ : Int) (t91n : Nat) (t91f : Nat → PV) (t92 t93 : Int) : f4.l1a k k_ ln lf n_ t91n t91f t92 t93 =
  if decide (t93 < t92) = true then
    if 0 ≤ t93 then
      if t93 < (t91n : Int) then
        if hasSh (.agg [(.int .i64), (.int .i64), .str, (.int .i64)]) (t91f t93.toNat) = true then
          if 0 ≤ t93 then
            if t93 < (ln : Int) then
              if hasSh (.agg [(.int .i64), (.int .i64), .str, (.int .i64)]) (lf t93.toNat) = true then
                if decide (t93 ≥ k_) = true then
                  if (((cel 1 (t91f t93.toNat).cells).toInt) != (IntKind.i64.wrap (((cel 1 (lf t93.toNat).cells).toInt) + n_))) = true then
                    some (.sc (.bool false))
                  else
                    f4.l1a k k_ ln lf n_ t91n t91f t92 (IntKind.i64.wrap (t93 + 1))
                else
                  if (((cel 1 (t91f t93.toNat).cells).toInt) != ((cel 1 (lf t93.toNat).cells).toInt)) = true then
                    some (.sc (.bool false))
                  else
                    f4.l1a k k_ ln lf n_ t91n t91f t92 (IntKind.i64.wrap (t93 + 1))
              else none
            else none
          else none
        else none
      else none
    else none
  else
    (D 12 []).bind fun r14 => if hasSh .bool r14 = true then
    some (.sc (.bool r14.toBool))
    else none :=
  (loopAt_eq _ _ _ _).trans (by kernel_rfl)
-- oculus/lex.Lex
noncomputable def f11.l0a (k : Nat) (s_ : ByteArray) (at_ : Int) : Option PV := loopAt Tryd.prog cf ext hint k 11 [1, 1, 1, 0, 1, 0] ⟨[.sc (.string s_), .top, .top, .top, .top, .nils, .sc (.int .i64 at_), .top, .top, .top, .top, .top, .top, .top, .top, .top, .top, .top, .top, .top, .top, .top, .top, .top, .top, .top, .top, .top, .top, .top, .top, .top, .top, .top, .top, .top, .top, .top, .top, .top, .top, .top, .top, .top, .top, .top, .top], [], none⟩
noncomputable def f11.l0b (k : Nat) (s_ : ByteArray) (at_ : Int) (out : List PV) : Option PV := loopAt Tryd.prog cf ext hint k 11 [1, 1, 1, 0, 1, 0] ⟨[.sc (.string s_), .top, .top, .top, .top, .buf 0 0, .sc (.int .i64 at_), .top, .top, .top, .top, .top, .top, .top, .top, .top, .top, .top, .top, .top, .top, .top, .top, .top, .top, .top, .top, .top, .top, .top, .top, .top, .top, .top, .top, .top, .top, .top, .top, .top, .top, .top, .top, .top, .top, .top, .top], [.buf 38 0 out], none⟩
theorem f11_eq (k : Nat) (s_ : ByteArray) : D 11 [.sc (.string s_)] =
  if decide ((s_.size : Int) > 200) = true then
    some (.tup [.lst 4 0 (fun _ => .top), .sc (.int .i64 0), .sc (.int .i64 3)])
  else
    f11.l0a k s_ 0 :=
  (denI_eq k _ _).trans (by kernel_rfl)
theorem f11.l0a_eq (k : Nat) (s_ : ByteArray) (at_ : Int) : f11.l0a k s_ at_ =
  if decide (at_ < (s_.size : Int)) = true then
    if 0 ≤ at_ then
      if at_ < (s_.size : Int) then
        if ((bt s_ at_) == 32) = true then
          f11.l0a k s_ (IntKind.i64.wrap (at_ + 1))
        else
          if 0 ≤ (s_.size : Int) then
            if (s_.size : Int) ≤ (s_.size : Int) then
              if 0 ≤ at_ then
                if at_ ≤ (s_.size : Int) then
                  (D 27 [.sc (.string (s_.extract at_.toNat (s_.size : Int).toNat))]).bind fun r1 => if hasSh (.tup [(.agg [(.int .i64), (.int .i64), .str, (.int .i64)]), (.int .i64)]) r1 = true then
                  if (((cel 1 r1.parts).toInt) == 0) = true then
                    some (.tup [.lst 4 0 (fun _ => .top), .sc (.int .i64 at_), .sc (.int .i64 1)])
                  else
                    if ([.agg [.sc (.int .i64 ((cel 0 (cel 0 r1.parts).cells).toInt)), .sc (.int .i64 at_), .sc (.string ((cel 2 (cel 0 r1.parts).cells).toStr)), .sc (.int .i64 ((cel 3 (cel 0 r1.parts).cells).toInt))]] : List PV).length * 40 ≤ 140737488355328 ∧ ([.agg [.sc (.int .i64 ((cel 0 (cel 0 r1.parts).cells).toInt)), .sc (.int .i64 at_), .sc (.string ((cel 2 (cel 0 r1.parts).cells).toStr)), .sc (.int .i64 ((cel 3 (cel 0 r1.parts).cells).toInt))]] : List PV).length ≤ 140737488355328 then
                      f11.l0b k s_ (IntKind.i64.wrap (at_ + ((cel 1 r1.parts).toInt))) ([.agg [.sc (.int .i64 ((cel 0 (cel 0 r1.parts).cells).toInt)), .sc (.int .i64 at_), .sc (.string ((cel 2 (cel 0 r1.parts).cells).toStr)), .sc (.int .i64 ((cel 3 (cel 0 r1.parts).cells).toInt))]] : List PV)
                    else none
                  else none
                else none
              else none
            else none
          else none
      else none
    else none
  else
    if ([.agg [.sc (.int .i64 5), .sc (.int .i64 (s_.size : Int)), .sc (.string (⟨#[]⟩ : ByteArray)), .sc (.int .i64 0)]] : List PV).length * 40 ≤ 140737488355328 ∧ ([.agg [.sc (.int .i64 5), .sc (.int .i64 (s_.size : Int)), .sc (.string (⟨#[]⟩ : ByteArray)), .sc (.int .i64 0)]] : List PV).length ≤ 140737488355328 then
      some (.tup [frozen 4 ([.agg [.sc (.int .i64 5), .sc (.int .i64 (s_.size : Int)), .sc (.string (⟨#[]⟩ : ByteArray)), .sc (.int .i64 0)]] : List PV), .sc (.int .i64 0), .sc (.int .i64 0)])
    else none :=
  (loopAt_eq _ _ _ _).trans (by kernel_rfl)
theorem f11.l0b_eq (k : Nat) (s_ : ByteArray) (at_ : Int) (out : List PV) : f11.l0b k s_ at_ out =
  if decide (at_ < (s_.size : Int)) = true then
    if 0 ≤ at_ then
      if at_ < (s_.size : Int) then
        if ((bt s_ at_) == 32) = true then
          f11.l0b k s_ (IntKind.i64.wrap (at_ + 1)) out
        else
          if 0 ≤ (s_.size : Int) then
            if (s_.size : Int) ≤ (s_.size : Int) then
              if 0 ≤ at_ then
                if at_ ≤ (s_.size : Int) then
                  (D 27 [.sc (.string (s_.extract at_.toNat (s_.size : Int).toNat))]).bind fun r2 => if hasSh (.tup [(.agg [(.int .i64), (.int .i64), .str, (.int .i64)]), (.int .i64)]) r2 = true then
                  if (((cel 1 r2.parts).toInt) == 0) = true then
                    some (.tup [.lst 4 0 (fun _ => .top), .sc (.int .i64 at_), .sc (.int .i64 1)])
                  else
                    if (out.length + ([.agg [.sc (.int .i64 ((cel 0 (cel 0 r2.parts).cells).toInt)), .sc (.int .i64 at_), .sc (.string ((cel 2 (cel 0 r2.parts).cells).toStr)), .sc (.int .i64 ((cel 3 (cel 0 r2.parts).cells).toInt))]] : List PV).length) * 40 ≤ 140737488355328 ∧ out.length + ([.agg [.sc (.int .i64 ((cel 0 (cel 0 r2.parts).cells).toInt)), .sc (.int .i64 at_), .sc (.string ((cel 2 (cel 0 r2.parts).cells).toStr)), .sc (.int .i64 ((cel 3 (cel 0 r2.parts).cells).toInt))]] : List PV).length ≤ 140737488355328 then
                      f11.l0b k s_ (IntKind.i64.wrap (at_ + ((cel 1 r2.parts).toInt))) (out ++ ([.agg [.sc (.int .i64 ((cel 0 (cel 0 r2.parts).cells).toInt)), .sc (.int .i64 at_), .sc (.string ((cel 2 (cel 0 r2.parts).cells).toStr)), .sc (.int .i64 ((cel 3 (cel 0 r2.parts).cells).toInt))]] : List PV))
                    else none
                  else none
                else none
              else none
            else none
          else none
      else none
    else none
  else
    if (out.length + ([.agg [.sc (.int .i64 5), .sc (.int .i64 (s_.size : Int)), .sc (.string (⟨#[]⟩ : ByteArray)), .sc (.int .i64 0)]] : List PV).length) * 40 ≤ 140737488355328 ∧ out.length + ([.agg [.sc (.int .i64 5), .sc (.int .i64 (s_.size : Int)), .sc (.string (⟨#[]⟩ : ByteArray)), .sc (.int .i64 0)]] : List PV).length ≤ 140737488355328 then
      some (.tup [frozen 4 (out ++ ([.agg [.sc (.int .i64 5), .sc (.int .i64 (s_.size : Int)), .sc (.string (⟨#[]⟩ : ByteArray)), .sc (.int .i64 0)]] : List PV)), .sc (.int .i64 0), .sc (.int .i64 0)])
    else none :=
  (loopAt_eq _ _ _ _).trans (by kernel_rfl)
-- oculus/lex.next
noncomputable def f27.l0a (k : Nat) (s_ : ByteArray) (n_ c0 c0_1 : Int) (c0_2 : ByteArray) (c0_3 : Int) : Option PV := loopAt Tryd.prog cf ext hint k 27 [1, 1, 1, 1, 0, 0] ⟨[.sc (.string s_), .top, .ptr 0 0, .top, .top, .top, .top, .top, .top, .sc (.int .i64 n_), .top, .top, .top, .top, .top, .top, .top, .top, .top, .top, .top, .top, .top, .top, .top, .top, .top, .top, .top, .top, .top, .top, .top, .top, .top, .top, .top, .top, .top, .top, .top, .top, .top, .top, .top, .top, .top, .top, .top, .top, .top, .top, .top, .top, .top, .top, .top, .top, .top, .top, .top, .top, .top, .top, .top, .top, .top, .top, .top, .top, .top, .top, .top, .top, .top, .top], [.cells 38 [.sc (.int .i64 c0), .sc (.int .i64 c0_1), .sc (.string c0_2), .sc (.int .i64 c0_3)]], none⟩
noncomputable def f27.l1a (k : Nat) (s_ : ByteArray) (t61n : Nat) (t61f : Nat → PV) (t62 t63 c0 c0_1 : Int) (c0_2 : ByteArray) (c0_3 : Int) : Option PV := loopAt Tryd.prog cf ext hint k 27 [1, 1, 1, 1, 1, 1, 0, 1, 0] ⟨[.sc (.string s_), .top, .ptr 0 0, .top, .top, .top, .top, .top, .top, .top, .top, .top, .top, .top, .top, .top, .top, .top, .top, .top, .top, .top, .top, .top, .top, .top, .top, .top, .top, .top, .top, .top, .top, .top, .top, .top, .top, .top, .top, .top, .top, .top, .top, .top, .top, .top, .top, .top, .top, .top, .top, .top, .top, .top, .top, .top, .top, .top, .top, .top, .top, .lst 1 t61n t61f, .sc (.int .i64 t62), .sc (.int .i64 t63), .top, .top, .top, .top, .top, .top, .top, .top, .top, .top, .top, .top], [.cells 38 [.sc (.int .i64 c0), .sc (.int .i64 c0_1), .sc (.string c0_2), .sc (.int .i64 c0_3)]], none⟩
theorem f27_eq (k : Nat) (s_ : ByteArray) : D 27 [.sc (.string s_)] =
  if 0 < (s_.size : Int) then
    Option.bind (α := PV) (
      if decide ((bt s_ 0) ≥ 48) = true then
        Option.bind (α := PV) (
          if 0 < (s_.size : Int) then
            some (.sc (.bool (decide ((bt s_ 0) ≤ 57))))
          else none) fun r1 =>
        some (.sc (.bool r1.toBool))
      else
        some (.sc (.bool false))) fun r2 =>
    if r2.toBool = true then
      (D 41 [.sc (.string s_)]).bind fun r3 => if hasSh (.tup [(.int .i64), (.int .i64), .bool]) r3 = true then
      some (.tup [.agg [.sc (.int .i64 1), .sc (.int .i64 0), .sc (.string (⟨#[]⟩ : ByteArray)), .sc (.int .i64 ((cel 0 r3.parts).toInt))], .sc (.int .i64 ((cel 1 r3.parts).toInt))])
      else none
    else
      if 0 < (s_.size : Int) then
        if ((bt s_ 0) == 34) = true then
          (D 42 [.sc (.string s_)]).bind fun r4 => if hasSh (.tup [.str, (.int .i64)]) r4 = true then
          some (.tup [.agg [.sc (.int .i64 2), .sc (.int .i64 0), .sc (.string ((cel 0 r4.parts).toStr)), .sc (.int .i64 0)], .sc (.int .i64 ((cel 1 r4.parts).toInt))])
          else none
        else
          f27.l0a k s_ 0 0 0 (⟨#[]⟩ : ByteArray) 0
      else none
  else none :=
  (denI_eq k _ _).trans (by kernel_rfl)
theorem f27.l0a_eq (k : Nat) (s_ : ByteArray) (n_ c0 c0_1 : Int) (c0_2 : ByteArray) (c0_3 : Int) : f27.l0a k s_ n_ c0 c0_1 c0_2 c0_3 =
  Option.bind (α := PV) (
    if decide (n_ < (s_.size : Int)) = true then
      Option.bind (α := PV) (
        Option.bind (α := PV) (
          if 0 ≤ n_ then
            if n_ < (s_.size : Int) then
              Option.bind (α := PV) (
                Option.bind (α := PV) (
                  Option.bind (α := PV) (
                    (D 43 [.sc (.int .u8 (bt s_ n_)), .sc (.bool (n_ == 0))]).bind fun r5 => if hasSh .bool r5 = true then
                    some (.sc (.bool r5.toBool))
                    else none) fun r6 =>
                  some (.sc (.bool r6.toBool))) fun r7 =>
                some (.sc (.bool r7.toBool))) fun r8 =>
              some (.sc (.bool r8.toBool))
            else none
          else none) fun r9 =>
        some (.sc (.bool r9.toBool))) fun r10 =>
      some (.sc (.bool r10.toBool))
    else
      some (.sc (.bool false))) fun r11 =>
  if r11.toBool = true then
    f27.l0a k s_ (IntKind.i64.wrap (n_ + 1)) c0 c0_1 c0_2 c0_3
  else
    if decide (n_ > 0) = true then
      if 0 ≤ n_ then
        if n_ ≤ (s_.size : Int) then
          if 0 ≤ n_ then
            some (.tup [.agg [.sc (.int .i64 3), .sc (.int .i64 0), .sc (.string (s_.extract 0 n_.toNat)), .sc (.int .i64 0)], .sc (.int .i64 n_)])
          else none
        else none
      else none
    else
      (D 17 [.sc (.string (⟨#[35, 82, 69, 70, 32, 60, 62, 32, 60, 61, 32, 62, 61, 32, 43, 32, 45, 32, 42, 32, 47, 32, 94, 32, 38, 32, 61, 32, 60, 32, 62, 32, 40, 32, 41, 32, 44, 32, 58]⟩ : ByteArray))]).bind fun r12 => if hasSh (.lst 1) r12 = true then
      f27.l1a k s_ r12.len r12.at (r12.len : Int) 0 c0 c0_1 c0_2 c0_3
      else none :=
  (loopAt_eq _ _ _ _).trans (by kernel_rfl)
theorem f27.l1a_eq (k : Nat) (s_ : ByteArray) (t61n : Nat) (t61f : Nat → PV) (t62 t63 c0 c0_1 : Int) (c0_2 : ByteArray) (c0_3 : Int) : f27.l1a k s_ t61n t61f t62 t63 c0 c0_1 c0_2 c0_3 =
  if decide (t63 < t62) = true then
    if 0 ≤ t63 then
      if t63 < (t61n : Int) then
        if hasSh .str (t61f t63.toNat) = true then
          (D 44 [.sc (.string s_), .sc (.string ((t61f t63.toNat).toStr))]).bind fun r13 => if hasSh .bool r13 = true then
          if r13.toBool = true then
            some (.tup [.agg [.sc (.int .i64 4), .sc (.int .i64 0), .sc (.string ((t61f t63.toNat).toStr)), .sc (.int .i64 0)], .sc (.int .i64 (((t61f t63.toNat).toStr).size : Int))])
          else
            f27.l1a k s_ t61n t61f t62 (IntKind.i64.wrap (t63 + 1)) c0 c0_1 c0_2 c0_3
          else none
        else none
      else none
    else none
  else
    some (.tup [.agg [.sc (.int .i64 0), .sc (.int .i64 0), .sc (.string (⟨#[]⟩ : ByteArray)), .sc (.int .i64 0)], .sc (.int .i64 0)]) :=
  (loopAt_eq _ _ _ _).trans (by kernel_rfl)
-- oculus/digits.Lead
noncomputable def f41.l0a (k : Nat) (t : ByteArray) (n_ : Int) : Option PV := loopAt Tryd.prog cf ext hint k 41 [1, 1, 0, 0] ⟨[.sc (.string t), .top, .top, .top, .top, .sc (.int .i64 n_), .top, .top, .top, .top, .top, .top, .top, .top, .top, .top, .top, .top, .top, .top, .top, .top, .top, .top, .top, .top, .top, .top, .top, .top, .top, .top, .top, .top, .top, .top, .top, .top, .top, .top, .top, .top, .top, .top, .top, .top, .top, .top, .top, .top, .top, .top, .top, .top, .top, .top, .top, .top, .top, .top, .top, .top, .top], [], none⟩
noncomputable def f41.l1a (k : Nat) (t : ByteArray) (n_ end_ : Int) : Option PV := loopAt Tryd.prog cf ext hint k 41 [1, 1, 1, 0, 1, 0, 1, 0, 0] ⟨[.sc (.string t), .top, .top, .top, .top, .sc (.int .i64 n_), .sc (.int .i64 end_), .top, .top, .top, .top, .top, .top, .top, .top, .top, .top, .top, .top, .top, .top, .top, .top, .top, .top, .top, .top, .top, .top, .top, .top, .top, .top, .top, .top, .top, .top, .top, .top, .top, .top, .top, .top, .top, .top, .top, .top, .top, .top, .top, .top, .top, .top, .top, .top, .top, .top, .top, .top, .top, .top, .top, .top], [], none⟩
noncomputable def f41.j2a (k : Nat) (t : ByteArray) (n_ : Int) : Option PV := gateK k (placeAt Tryd.prog cf ext hint k 41 [1, 1, 1, 1]) ⟨[.sc (.string t), .top, .top, .top, .top, .sc (.int .i64 n_), .top, .top, .top, .top, .top, .top, .top, .top, .top, .top, .top, .top, .top, .top, .top, .top, .top, .top, .top, .top, .top, .top, .top, .top, .top, .top, .top, .top, .top, .top, .top, .top, .top, .top, .top, .top, .top, .top, .top, .top, .top, .top, .top, .top, .top, .top, .top, .top, .top, .top, .top, .top, .top, .top, .top, .top, .top], [], none⟩
theorem f41_eq (k : Nat) (t : ByteArray) : D 41 [.sc (.string t)] =
  f41.l0a k t 0 :=
  (denI_eq k _ _).trans (by kernel_rfl)
theorem f41.l0a_eq (k : Nat) (t : ByteArray) (n_ : Int) : f41.l0a k t n_ =
  Option.bind (α := PV) (
    if decide (n_ < 30) = true then
      Option.bind (α := PV) (
        Option.bind (α := PV) (
          (D 61 [.sc (.string t), .sc (.int .i64 n_)]).bind fun r1 => if hasSh .bool r1 = true then
          some (.sc (.bool r1.toBool))
          else none) fun r2 =>
        some (.sc (.bool r2.toBool))) fun r3 =>
      some (.sc (.bool r3.toBool))
    else
      some (.sc (.bool false))) fun r4 =>
  if r4.toBool = true then
    f41.l0a k t (IntKind.i64.wrap (n_ + 1))
  else
    Option.bind (α := PV) (
      if decide (n_ > 0) = true then
        some (.sc (.bool (decide (n_ < (t.size : Int)))))
      else
        some (.sc (.bool false))) fun r5 =>
    Option.bind (α := PV) (
      if r5.toBool = true then
        Option.bind (α := PV) (
          Option.bind (α := PV) (
            if 0 ≤ n_ then
              if n_ < (t.size : Int) then
                some (.sc (.bool ((bt t n_) == 46)))
              else none
            else none) fun r6 =>
          some (.sc (.bool r6.toBool))) fun r7 =>
        some (.sc (.bool r7.toBool))
      else
        some (.sc (.bool false))) fun r8 =>
    Option.bind (α := PV) (
      if r8.toBool = true then
        Option.bind (α := PV) (
          Option.bind (α := PV) (
            Option.bind (α := PV) (
              (D 61 [.sc (.string t), .sc (.int .i64 (IntKind.i64.wrap (n_ + 1)))]).bind fun r9 => if hasSh .bool r9 = true then
              some (.sc (.bool r9.toBool))
              else none) fun r10 =>
            some (.sc (.bool r10.toBool))) fun r11 =>
          some (.sc (.bool r11.toBool))) fun r12 =>
        some (.sc (.bool r12.toBool))
      else
        some (.sc (.bool false))) fun r13 =>
    if r13.toBool = true then
      f41.l1a k t n_ (IntKind.i64.wrap (n_ + 1))
    else
      f41.j2a k t n_ :=
  (loopAt_eq _ _ _ _).trans (by kernel_rfl)
theorem f41.l1a_eq (k : Nat) (t : ByteArray) (n_ end_ : Int) : f41.l1a k t n_ end_ =
  Option.bind (α := PV) (
    if decide (end_ ≤ (IntKind.i64.wrap (n_ + 4))) = true then
      Option.bind (α := PV) (
        Option.bind (α := PV) (
          (D 61 [.sc (.string t), .sc (.int .i64 end_)]).bind fun r14 => if hasSh .bool r14 = true then
          some (.sc (.bool r14.toBool))
          else none) fun r15 =>
        some (.sc (.bool r15.toBool))) fun r16 =>
      some (.sc (.bool r16.toBool))
    else
      some (.sc (.bool false))) fun r17 =>
  if r17.toBool = true then
    f41.l1a k t n_ (IntKind.i64.wrap (end_ + 1))
  else
    f41.j2a k t end_ :=
  (loopAt_eq _ _ _ _).trans (by kernel_rfl)
theorem f41.j2a_eq (k : Nat) (t : ByteArray) (n_ : Int) : f41.j2a k t n_ =
  if 0 ≤ n_ then
    if n_ ≤ (t.size : Int) then
      if 0 ≤ n_ then
        (D 40 [.sc (.string (t.extract 0 n_.toNat))]).bind fun r18 => if hasSh (.tup [(.int .i64), .bool]) r18 = true then
        if (!((cel 1 r18.parts).toBool)) = true then
          some (.tup [.sc (.int .i64 0), .sc (.int .i64 0), .sc (.bool false)])
        else
          some (.tup [.sc (.int .i64 ((cel 0 r18.parts).toInt)), .sc (.int .i64 n_), .sc (.bool true)])
        else none
      else none
    else none
  else none :=
  (gateK_open _ _ _).trans (by kernel_rfl)
-- oculus/digits.Read
noncomputable def f40.l0a (k : Nat) (minus : Bool) (x_ y t53 t54 : Int) : Option PV := loopAt Tryd.prog cf ext hint k 40 [1, 1, 1, 1, 1, 1, 1, 0, 1, 0] ⟨[.top, .top, .top, .top, .top, .sc (.bool minus), .top, .top, .top, .sc (.int .i64 x_), .top, .sc (.int .i64 y), .top, .top, .top, .top, .top, .top, .top, .top, .top, .top, .top, .top, .top, .top, .top, .top, .top, .top, .top, .top, .top, .top, .top, .top, .top, .top, .top, .top, .top, .top, .top, .top, .top, .top, .top, .top, .top, .top, .top, .top, .top, .sc (.int .i64 t53), .sc (.int .i64 t54), .top, .top, .top, .top, .top, .top, .top, .top, .top, .top], [], none⟩
theorem f40_eq (k : Nat) (t : ByteArray) : D 40 [.sc (.string t)] =
  (D 57 [.sc (.string t), .sc (.string (⟨#[45]⟩ : ByteArray))]).bind fun r1 => if hasSh (.tup [.str, .bool]) r1 = true then
  if decide ((t.size : Int) > 40) = true then
    some (.tup [.sc (.int .i64 0), .sc (.bool false)])
  else
    (D 58 [.sc (.string ((cel 0 r1.parts).toStr)), .sc (.string (⟨#[46]⟩ : ByteArray))]).bind fun r2 => if hasSh (.tup [.str, .str, .bool]) r2 = true then
    (D 59 [.sc (.string ((cel 0 r2.parts).toStr))]).bind fun r3 => if hasSh (.tup [(.int .i64), .bool]) r3 = true then
    (D 59 [.sc (.string ((cel 1 r2.parts).toStr))]).bind fun r4 => if hasSh (.tup [(.int .i64), .bool]) r4 = true then
    Option.bind (α := PV) (
      if (!((cel 1 r3.parts).toBool)) = true then
        some (.sc (.bool true))
      else
        Option.bind (α := PV) (
          Option.bind (α := PV) (
            if (cel 2 r2.parts).toBool = true then
              Option.bind (α := PV) (
                Option.bind (α := PV) (
                  Option.bind (α := PV) (
                    if (!((cel 1 r4.parts).toBool)) = true then
                      some (.sc (.bool true))
                    else
                      some (.sc (.bool (decide ((((cel 1 r2.parts).toStr).size : Int) > 4))))) fun r5 =>
                  some (.sc (.bool r5.toBool))) fun r6 =>
                some (.sc (.bool r6.toBool))) fun r7 =>
              some (.sc (.bool r7.toBool))
            else
              some (.sc (.bool false))) fun r8 =>
          some (.sc (.bool r8.toBool))) fun r9 =>
        some (.sc (.bool r9.toBool))) fun r10 =>
    if r10.toBool = true then
      some (.tup [.sc (.int .i64 0), .sc (.bool false)])
    else
      f40.l0a k ((cel 1 r1.parts).toBool) ((cel 0 r3.parts).toInt) ((cel 0 r4.parts).toInt) (IntKind.i64.wrap ((4 : Int) - (((cel 1 r2.parts).toStr).size : Int))) 0
    else none
    else none
    else none
  else none :=
  (denI_eq k _ _).trans (by kernel_rfl)
theorem f40.l0a_eq (k : Nat) (minus : Bool) (x_ y t53 t54 : Int) : f40.l0a k minus x_ y t53 t54 =
  if decide (t54 < t53) = true then
    f40.l0a k minus x_ (IntKind.i64.wrap (y * 10)) t53 (IntKind.i64.wrap (t54 + 1))
  else
    (D 60 [.sc (.int .i64 x_), .sc (.int .i64 y), .sc (.bool minus)]).bind fun r11 => if hasSh (.tup [(.int .i64), .bool]) r11 = true then
    some (.tup [.sc (.int .i64 ((cel 0 r11.parts).toInt)), .sc (.bool ((cel 1 r11.parts).toBool))])
    else none :=
  (loopAt_eq _ _ _ _).trans (by kernel_rfl)
-- oculus/digits.number
noncomputable def f59.l0a (k : Nat) (t : ByteArray) (n_ t11 t12 : Int) : Option PV := loopAt Tryd.prog cf ext hint k 59 [1, 1, 0, 1, 0] ⟨[.sc (.string t), .top, .top, .top, .sc (.int .i64 n_), .top, .top, .top, .top, .top, .top, .sc (.int .i64 t11), .sc (.int .i64 t12), .top, .top, .top, .top, .top, .top, .top, .top, .top, .top, .top, .top, .top, .top, .top, .top, .top, .top, .top, .top, .top, .top, .top, .top, .top, .top, .top, .top, .top, .top, .top, .top, .top, .top, .top, .top, .top, .top], [], none⟩
theorem f59_eq (k : Nat) (t : ByteArray) : D 59 [.sc (.string t)] =
  f59.l0a k t 0 (t.size : Int) 0 :=
  (denI_eq k _ _).trans (by kernel_rfl)
theorem f59.l0a_eq (k : Nat) (t : ByteArray) (n_ t11 t12 : Int) : f59.l0a k t n_ t11 t12 =
  if decide (t12 < t11) = true then
    if 0 ≤ t12 then
      if t12 < (t.size : Int) then
        Option.bind (α := PV) (
          if decide ((bt t t12) < 48) = true then
            some (.sc (.bool true))
          else
            Option.bind (α := PV) (
              Option.bind (α := PV) (
                if 0 ≤ t12 then
                  if t12 < (t.size : Int) then
                    some (.sc (.bool (decide ((bt t t12) > 57))))
                  else none
                else none) fun r1 =>
              some (.sc (.bool r1.toBool))) fun r2 =>
            some (.sc (.bool r2.toBool))) fun r3 =>
        if r3.toBool = true then
          some (.tup [.sc (.int .i64 0), .sc (.bool false)])
        else
          (D 83 [.sc (.int .i64 n_), .sc (.int .i64 10), .sc (.int .i64 1)]).bind fun r4 => if hasSh (.tup [(.int .i64), .bool]) r4 = true then
          if 0 ≤ t12 then
            if t12 < (t.size : Int) then
              (D 84 [.sc (.int .i64 ((cel 0 r4.parts).toInt)), .sc (.int .i64 (IntKind.i64.wrap (IntKind.u8.wrap ((bt t t12) - 48))))]).bind fun r5 => if hasSh (.tup [(.int .i64), .bool]) r5 = true then
              Option.bind (α := PV) (
                if (!((cel 1 r4.parts).toBool)) = true then
                  some (.sc (.bool true))
                else
                  some (.sc (.bool (!((cel 1 r5.parts).toBool))))) fun r6 =>
              if r6.toBool = true then
                some (.tup [.sc (.int .i64 0), .sc (.bool false)])
              else
                f59.l0a k t ((cel 0 r5.parts).toInt) t11 (IntKind.i64.wrap (t12 + 1))
              else none
            else none
          else none
          else none
      else none
    else none
  else
    some (.tup [.sc (.int .i64 n_), .sc (.bool (!(t.toList == (⟨#[]⟩ : ByteArray).toList)))]) :=
  (loopAt_eq _ _ _ _).trans (by kernel_rfl)
-- oculus/dec.Scaled
noncomputable def f83.j0a (k : Nat) (a b c q : Int) : Option PV := gateK k (placeAt Tryd.prog cf ext hint k 83 [1, 1, 1, 1, 1, 1, 1]) ⟨[.sc (.int .i64 a), .sc (.int .i64 b), .sc (.int .i64 c), .top, .top, .top, .top, .top, .top, .top, .top, .sc (.int .u64 q), .top, .top, .top, .top, .top, .top, .top, .top, .top, .top, .top, .top, .top, .top, .top, .top, .top, .top, .top, .top, .top, .top, .top, .top, .top, .top, .top, .top, .top, .top, .top, .top, .top, .top, .top, .top, .top, .top, .top, .top, .top, .top, .top, .top, .top, .top, .top, .top, .top, .top, .top, .top, .top, .top, .top, .top, .top, .top, .top, .top, .top], [], none⟩
theorem f83_eq (k : Nat) (a b c : Int) : D 83 [.sc (.int .i64 a), .sc (.int .i64 b), .sc (.int .i64 c)] =
  (D 32 [.sc (.int .i64 a)]).bind fun r1 => if hasSh .bool r1 = true then
  Option.bind (α := PV) (
    if (!r1.toBool) = true then
      some (.sc (.bool true))
    else
      Option.bind (α := PV) (
        (D 32 [.sc (.int .i64 b)]).bind fun r2 => if hasSh .bool r2 = true then
        some (.sc (.bool (!r2.toBool)))
        else none) fun r3 =>
      some (.sc (.bool r3.toBool))) fun r4 =>
  Option.bind (α := PV) (
    if r4.toBool = true then
      some (.sc (.bool true))
    else
      Option.bind (α := PV) (
        (D 32 [.sc (.int .i64 c)]).bind fun r5 => if hasSh .bool r5 = true then
        some (.sc (.bool (!r5.toBool)))
        else none) fun r6 =>
      some (.sc (.bool r6.toBool))) fun r7 =>
  Option.bind (α := PV) (
    if r7.toBool = true then
      some (.sc (.bool true))
    else
      some (.sc (.bool (c == 0)))) fun r8 =>
  if r8.toBool = true then
    some (.tup [.sc (.int .i64 0), .sc (.bool false)])
  else
    (D 99 [.sc (.int .i64 c)]).bind fun r9 => if hasSh (.int .u64) r9 = true then
    (D 99 [.sc (.int .i64 a)]).bind fun r10 => if hasSh (.int .u64) r10 = true then
    (D 99 [.sc (.int .i64 b)]).bind fun r11 => if hasSh (.int .u64) r11 = true then
    (D 100 [.sc (.int .u64 r10.toInt), .sc (.int .u64 r11.toInt)]).bind fun r12 => if hasSh (.tup [(.int .u64), (.int .u64)]) r12 = true then
    if decide (((cel 0 r12.parts).toInt) ≥ r9.toInt) = true then
      some (.tup [.sc (.int .i64 0), .sc (.bool false)])
    else
      (D 101 [.sc (.int .u64 ((cel 0 r12.parts).toInt)), .sc (.int .u64 ((cel 1 r12.parts).toInt)), .sc (.int .u64 r9.toInt)]).bind fun r13 => if hasSh (.tup [(.int .u64), (.int .u64)]) r13 = true then
      if decide (((cel 1 r13.parts).toInt) ≥ (IntKind.u64.wrap (r9.toInt - ((cel 1 r13.parts).toInt)))) = true then
        f83.j0a k a b c (IntKind.u64.wrap (((cel 0 r13.parts).toInt) + 1))
      else
        f83.j0a k a b c ((cel 0 r13.parts).toInt)
      else none
    else none
    else none
    else none
    else none
  else none :=
  (denI_eq k _ _).trans (by kernel_rfl)
theorem f83.j0a_eq (k : Nat) (a b c q : Int) : f83.j0a k a b c q =
  if decide (q > 9223372036854775807) = true then
    some (.tup [.sc (.int .i64 0), .sc (.bool false)])
  else
    (D 102 [.sc (.int .i64 a)]).bind fun r14 => if hasSh (.int .i64) r14 = true then
    (D 102 [.sc (.int .i64 b)]).bind fun r15 => if hasSh (.int .i64) r15 = true then
    (D 102 [.sc (.int .i64 c)]).bind fun r16 => if hasSh (.int .i64) r16 = true then
    if decide ((IntKind.i64.wrap ((IntKind.i64.wrap (r14.toInt * r15.toInt)) * r16.toInt)) < 0) = true then
      some (.tup [.sc (.int .i64 (IntKind.i64.wrap (0 - (IntKind.i64.wrap (q))))), .sc (.bool true)])
    else
      some (.tup [.sc (.int .i64 (IntKind.i64.wrap (q))), .sc (.bool true)])
    else none
    else none
    else none :=
  (gateK_open _ _ _).trans (by kernel_rfl)
-- oculus/dec.May
theorem f32_eq (k : Nat) (x_ : Int) : D 32 [.sc (.int .i64 x_)] =
  some (.sc (.bool (x_ != (-9223372036854775808)))) :=
  (denI_eq k _ _).trans (by kernel_rfl)
-- oculus/dec.size
theorem f99_eq (k : Nat) (x_ : Int) : D 99 [.sc (.int .i64 x_)] =
  if decide (x_ < 0) = true then
    some (.sc (.int .u64 (IntKind.u64.wrap (IntKind.i64.wrap (0 - x_)))))
  else
    some (.sc (.int .u64 (IntKind.u64.wrap (x_)))) :=
  (denI_eq k _ _).trans (by kernel_rfl)
-- math/bits.Mul64
theorem f100_eq (k : Nat) (x_ y : Int) : D 100 [.sc (.int .u64 x_), .sc (.int .u64 y)] =
  some (.tup [.sc (.int .u64 (IntKind.u64.wrap ((IntKind.u64.wrap ((IntKind.u64.wrap ((x_.fdiv 4294967296) * (y.fdiv 4294967296))) + ((IntKind.u64.wrap ((IntKind.u64.wrap ((x_.fdiv 4294967296) * (bits .and .u64 y 4294967295))) + ((IntKind.u64.wrap ((bits .and .u64 x_ 4294967295) * (bits .and .u64 y 4294967295))).fdiv 4294967296))).fdiv 4294967296))) + ((IntKind.u64.wrap ((bits .and .u64 (IntKind.u64.wrap ((IntKind.u64.wrap ((x_.fdiv 4294967296) * (bits .and .u64 y 4294967295))) + ((IntKind.u64.wrap ((bits .and .u64 x_ 4294967295) * (bits .and .u64 y 4294967295))).fdiv 4294967296))) 4294967295) + (IntKind.u64.wrap ((bits .and .u64 x_ 4294967295) * (y.fdiv 4294967296))))).fdiv 4294967296)))), .sc (.int .u64 (IntKind.u64.wrap (x_ * y)))]) :=
  (denI_eq k _ _).trans (by kernel_rfl)
end EL
end Go.Den
