import Derived.Test.YtkhbkbkambflbaaGreatDoorESh
import Derived.KernelRfl
set_option maxRecDepth 100000
set_option linter.unusedVariables false
namespace Go.Den
open Go Go.Proofs
namespace ES
-- oculus/oculusref22.Same
noncomputable def f16.l0a (k : Nat) (xn : Nat) (xf : Nat → PV) (yn : Nat) (yf : Nat → PV) (i : Int) : Option PV := loopAt Tryz.prog cf ext hint k 16 [1, 1, 1, 0, 1, 0] ⟨[.top, .top, .top, .top, .top, .lst 14 xn xf, .lst 14 yn yf, .sc (.int .i64 i), .top, .top, .top, .top, .top, .top, .top, .top, .top, .top, .top, .top, .top, .top, .top, .top, .top, .top, .top, .top, .top, .top, .top, .top, .top, .top, .top, .top, .top, .top, .top, .top, .top, .top, .top, .top, .top, .top, .top, .top, .top, .top, .top, .top, .top, .top, .top, .top, .top, .top, .top, .top, .top, .top, .top, .top, .top, .top, .top, .top, .top, .top, .top, .top, .top, .top, .top, .top, .top, .top, .top, .top, .top, .top, .top, .top, .top, .top, .top, .top, .top, .top, .top, .top, .top, .top, .top, .top, .top, .top, .top, .top, .top], [], none⟩
theorem f16_eq (k : Nat) (a a_1 a_2 a_3 : Int) (a_4 : ByteArray) (a_5 a_6 : Int) (a_7 a_8 : Bool) (a_9 a_10 : Int) (a_11 a_12 : Bool) (an : Nat) (af : Nat → PV) (b b_1 b_2 b_3 : Int) (b_4 : ByteArray) (b_5 b_6 : Int) (b_7 b_8 : Bool) (b_9 b_10 : Int) (b_11 b_12 : Bool) (bn : Nat) (bf : Nat → PV) : D 16 [.agg [.sc (.int .i64 a), .sc (.int .i64 a_1), .sc (.int .i64 a_2), .sc (.int .i64 a_3), .sc (.string a_4), .sc (.int .i64 a_5), .sc (.int .i64 a_6), .sc (.bool a_7), .sc (.bool a_8), .sc (.int .i64 a_9), .sc (.int .i64 a_10), .sc (.bool a_11), .sc (.bool a_12), .lst 14 an af], .agg [.sc (.int .i64 b), .sc (.int .i64 b_1), .sc (.int .i64 b_2), .sc (.int .i64 b_3), .sc (.string b_4), .sc (.int .i64 b_5), .sc (.int .i64 b_6), .sc (.bool b_7), .sc (.bool b_8), .sc (.int .i64 b_9), .sc (.int .i64 b_10), .sc (.bool b_11), .sc (.bool b_12), .lst 14 bn bf]] =
  (D 51 [.agg [.sc (.int .i64 a), .sc (.int .i64 a_1), .sc (.int .i64 a_2), .sc (.int .i64 a_3), .sc (.string a_4), .sc (.int .i64 a_5), .sc (.int .i64 a_6), .sc (.bool a_7), .sc (.bool a_8), .sc (.int .i64 a_9), .sc (.int .i64 a_10), .sc (.bool a_11), .sc (.bool a_12), .lst 14 an af]]).bind fun r1 => if hasSh (.lst 14) r1 = true then
  (D 51 [.agg [.sc (.int .i64 b), .sc (.int .i64 b_1), .sc (.int .i64 b_2), .sc (.int .i64 b_3), .sc (.string b_4), .sc (.int .i64 b_5), .sc (.int .i64 b_6), .sc (.bool b_7), .sc (.bool b_8), .sc (.int .i64 b_9), .sc (.int .i64 b_10), .sc (.bool b_11), .sc (.bool b_12), .lst 14 bn bf]]).bind fun r2 => if hasSh (.lst 14) r2 = true then
  if ((r1.len : Int) != (r2.len : Int)) = true then
    some (.sc (.bool false))
  else
    f16.l0a k r1.len r1.at r2.len r2.at 0
  else none
  else none :=
  (denI_eq k _ _).trans (by kernel_rfl)
theorem f16.l0a_eq (k : Nat) (xn : Nat) (xf : Nat → PV) (yn : Nat) (yf : Nat → PV) (i : Int) : f16.l0a k xn xf yn yf i =
  if decide (i < (xn : Int)) = true then
    if 0 ≤ i then
      if i < (xn : Int) then
        if hasSh (.agg [(.int .i64), (.int .i64), (.int .i64), (.int .i64), .str, (.int .i64), (.int .i64), .bool, .bool, (.int .i64), (.int .i64), .bool, .bool, (.lst 14)]) (xf i.toNat) = true then
          if 0 ≤ i then
            if i < (yn : Int) then
              if hasSh (.agg [(.int .i64), (.int .i64), (.int .i64), (.int .i64), .str, (.int .i64), (.int .i64), .bool, .bool, (.int .i64), (.int .i64), .bool, .bool, (.lst 14)]) (yf i.toNat) = true then
                Option.bind (α := PV) (
                  if (((cel 0 (xf i.toNat).cells).toInt) != ((cel 0 (yf i.toNat).cells).toInt)) = true then
                    some (.sc (.bool true))
                  else
                    Option.bind (α := PV) (
                      Option.bind (α := PV) (
                        if 0 ≤ i then
                          if i < (xn : Int) then
                            if hasSh (.agg [(.int .i64), (.int .i64), (.int .i64), (.int .i64), .str, (.int .i64), (.int .i64), .bool, .bool, (.int .i64), (.int .i64), .bool, .bool, (.lst 14)]) (xf i.toNat) = true then
                              Option.bind (α := PV) (
                                Option.bind (α := PV) (
                                  Option.bind (α := PV) (
                                    Option.bind (α := PV) (
                                      Option.bind (α := PV) (
                                        if 0 ≤ i then
                                          if i < (yn : Int) then
                                            if hasSh (.agg [(.int .i64), (.int .i64), (.int .i64), (.int .i64), .str, (.int .i64), (.int .i64), .bool, .bool, (.int .i64), (.int .i64), .bool, .bool, (.lst 14)]) (yf i.toNat) = true then
                                              some (.sc (.bool (((cel 1 (xf i.toNat).cells).toInt) != ((cel 1 (yf i.toNat).cells).toInt))))
                                            else none
                                          else none
                                        else none) fun r3 =>
                                      some (.sc (.bool r3.toBool))) fun r4 =>
                                    some (.sc (.bool r4.toBool))) fun r5 =>
                                  some (.sc (.bool r5.toBool))) fun r6 =>
                                some (.sc (.bool r6.toBool))) fun r7 =>
                              some (.sc (.bool r7.toBool))
                            else none
                          else none
                        else none) fun r8 =>
                      some (.sc (.bool r8.toBool))) fun r9 =>
                    some (.sc (.bool r9.toBool))) fun r10 =>
                Option.bind (α := PV) (
                  if r10.toBool = true then
                    some (.sc (.bool true))
                  else
                    Option.bind (α := PV) (
                      Option.bind (α := PV) (
                        if 0 ≤ i then
                          if i < (xn : Int) then
                            if hasSh (.agg [(.int .i64), (.int .i64), (.int .i64), (.int .i64), .str, (.int .i64), (.int .i64), .bool, .bool, (.int .i64), (.int .i64), .bool, .bool, (.lst 14)]) (xf i.toNat) = true then
                              Option.bind (α := PV) (
                                Option.bind (α := PV) (
                                  Option.bind (α := PV) (
                                    Option.bind (α := PV) (
                                      Option.bind (α := PV) (
                                        if 0 ≤ i then
                                          if i < (yn : Int) then
                                            if hasSh (.agg [(.int .i64), (.int .i64), (.int .i64), (.int .i64), .str, (.int .i64), (.int .i64), .bool, .bool, (.int .i64), (.int .i64), .bool, .bool, (.lst 14)]) (yf i.toNat) = true then
                                              some (.sc (.bool (!((((cel 2 (xf i.toNat).cells).toInt) == ((cel 2 (yf i.toNat).cells).toInt)) && ((((cel 3 (xf i.toNat).cells).toInt) == ((cel 3 (yf i.toNat).cells).toInt)) && ((((cel 4 (xf i.toNat).cells).toStr).toList == ((cel 4 (yf i.toNat).cells).toStr).toList) && true))))))
                                            else none
                                          else none
                                        else none) fun r11 =>
                                      some (.sc (.bool r11.toBool))) fun r12 =>
                                    some (.sc (.bool r12.toBool))) fun r13 =>
                                  some (.sc (.bool r13.toBool))) fun r14 =>
                                some (.sc (.bool r14.toBool))) fun r15 =>
                              some (.sc (.bool r15.toBool))
                            else none
                          else none
                        else none) fun r16 =>
                      some (.sc (.bool r16.toBool))) fun r17 =>
                    some (.sc (.bool r17.toBool))) fun r18 =>
                Option.bind (α := PV) (
                  if r18.toBool = true then
                    some (.sc (.bool true))
                  else
                    Option.bind (α := PV) (
                      Option.bind (α := PV) (
                        if 0 ≤ i then
                          if i < (xn : Int) then
                            if hasSh (.agg [(.int .i64), (.int .i64), (.int .i64), (.int .i64), .str, (.int .i64), (.int .i64), .bool, .bool, (.int .i64), (.int .i64), .bool, .bool, (.lst 14)]) (xf i.toNat) = true then
                              Option.bind (α := PV) (
                                Option.bind (α := PV) (
                                  Option.bind (α := PV) (
                                    Option.bind (α := PV) (
                                      Option.bind (α := PV) (
                                        if 0 ≤ i then
                                          if i < (yn : Int) then
                                            if hasSh (.agg [(.int .i64), (.int .i64), (.int .i64), (.int .i64), .str, (.int .i64), (.int .i64), .bool, .bool, (.int .i64), (.int .i64), .bool, .bool, (.lst 14)]) (yf i.toNat) = true then
                                              some (.sc (.bool (!((((cel 5 (xf i.toNat).cells).toInt) == ((cel 5 (yf i.toNat).cells).toInt)) && ((((cel 6 (xf i.toNat).cells).toInt) == ((cel 6 (yf i.toNat).cells).toInt)) && ((((cel 7 (xf i.toNat).cells).toBool) == ((cel 7 (yf i.toNat).cells).toBool)) && ((((cel 8 (xf i.toNat).cells).toBool) == ((cel 8 (yf i.toNat).cells).toBool)) && true)))))))
                                            else none
                                          else none
                                        else none) fun r19 =>
                                      some (.sc (.bool r19.toBool))) fun r20 =>
                                    some (.sc (.bool r20.toBool))) fun r21 =>
                                  some (.sc (.bool r21.toBool))) fun r22 =>
                                some (.sc (.bool r22.toBool))) fun r23 =>
                              some (.sc (.bool r23.toBool))
                            else none
                          else none
                        else none) fun r24 =>
                      some (.sc (.bool r24.toBool))) fun r25 =>
                    some (.sc (.bool r25.toBool))) fun r26 =>
                Option.bind (α := PV) (
                  if r26.toBool = true then
                    some (.sc (.bool true))
                  else
                    Option.bind (α := PV) (
                      Option.bind (α := PV) (
                        if 0 ≤ i then
                          if i < (xn : Int) then
                            if hasSh (.agg [(.int .i64), (.int .i64), (.int .i64), (.int .i64), .str, (.int .i64), (.int .i64), .bool, .bool, (.int .i64), (.int .i64), .bool, .bool, (.lst 14)]) (xf i.toNat) = true then
                              Option.bind (α := PV) (
                                Option.bind (α := PV) (
                                  Option.bind (α := PV) (
                                    Option.bind (α := PV) (
                                      Option.bind (α := PV) (
                                        if 0 ≤ i then
                                          if i < (yn : Int) then
                                            if hasSh (.agg [(.int .i64), (.int .i64), (.int .i64), (.int .i64), .str, (.int .i64), (.int .i64), .bool, .bool, (.int .i64), (.int .i64), .bool, .bool, (.lst 14)]) (yf i.toNat) = true then
                                              some (.sc (.bool (!((((cel 9 (xf i.toNat).cells).toInt) == ((cel 9 (yf i.toNat).cells).toInt)) && ((((cel 10 (xf i.toNat).cells).toInt) == ((cel 10 (yf i.toNat).cells).toInt)) && ((((cel 11 (xf i.toNat).cells).toBool) == ((cel 11 (yf i.toNat).cells).toBool)) && ((((cel 12 (xf i.toNat).cells).toBool) == ((cel 12 (yf i.toNat).cells).toBool)) && true)))))))
                                            else none
                                          else none
                                        else none) fun r27 =>
                                      some (.sc (.bool r27.toBool))) fun r28 =>
                                    some (.sc (.bool r28.toBool))) fun r29 =>
                                  some (.sc (.bool r29.toBool))) fun r30 =>
                                some (.sc (.bool r30.toBool))) fun r31 =>
                              some (.sc (.bool r31.toBool))
                            else none
                          else none
                        else none) fun r32 =>
                      some (.sc (.bool r32.toBool))) fun r33 =>
                    some (.sc (.bool r33.toBool))) fun r34 =>
                Option.bind (α := PV) (
                  if r34.toBool = true then
                    some (.sc (.bool true))
                  else
                    Option.bind (α := PV) (
                      Option.bind (α := PV) (
                        if 0 ≤ i then
                          if i < (xn : Int) then
                            if hasSh (.agg [(.int .i64), (.int .i64), (.int .i64), (.int .i64), .str, (.int .i64), (.int .i64), .bool, .bool, (.int .i64), (.int .i64), .bool, .bool, (.lst 14)]) (xf i.toNat) = true then
                              Option.bind (α := PV) (
                                Option.bind (α := PV) (
                                  Option.bind (α := PV) (
                                    Option.bind (α := PV) (
                                      Option.bind (α := PV) (
                                        Option.bind (α := PV) (
                                          if 0 ≤ i then
                                            if i < (yn : Int) then
                                              if hasSh (.agg [(.int .i64), (.int .i64), (.int .i64), (.int .i64), .str, (.int .i64), (.int .i64), .bool, .bool, (.int .i64), (.int .i64), .bool, .bool, (.lst 14)]) (yf i.toNat) = true then
                                                some (.sc (.bool (((cel 13 (xf i.toNat).cells).len : Int) != ((cel 13 (yf i.toNat).cells).len : Int))))
                                              else none
                                            else none
                                          else none) fun r35 =>
                                        some (.sc (.bool r35.toBool))) fun r36 =>
                                      some (.sc (.bool r36.toBool))) fun r37 =>
                                    some (.sc (.bool r37.toBool))) fun r38 =>
                                  some (.sc (.bool r38.toBool))) fun r39 =>
                                some (.sc (.bool r39.toBool))) fun r40 =>
                              some (.sc (.bool r40.toBool))
                            else none
                          else none
                        else none) fun r41 =>
                      some (.sc (.bool r41.toBool))) fun r42 =>
                    some (.sc (.bool r42.toBool))) fun r43 =>
                if r43.toBool = true then
                  some (.sc (.bool false))
                else
                  f16.l0a k xn xf yn yf (IntKind.i64.wrap (i + 1))
              else none
            else none
          else none
        else none
      else none
    else none
  else
    some (.sc (.bool true)) :=
  (loopAt_eq _ _ _ _).trans (by kernel_rfl)
-- oculus/oculusref22.List
noncomputable def f51.l0a (k : Nat) (i n_ n__1 n__2 n__3 : Int) (n__4 : ByteArray) (n__5 n__6 : Int) (n__7 n__8 : Bool) (n__9 n__10 : Int) (n__11 n__12 : Bool) (nn : Nat) (nf : Nat → PV) (out : List PV) : Option PV := loopAt Tryz.prog cf ext hint k 51 [1, 1, 1, 0, 1, 0] ⟨[.top, .ptr 0 0, .top, .buf 1 0, .sc (.int .i64 i), .top, .top, .top, .top, .top, .top, .top, .top, .top, .top, .top, .top, .top, .top, .top, .top, .top, .top, .top, .top], [.cells 29 [.sc (.int .i64 n_), .sc (.int .i64 n__1), .sc (.int .i64 n__2), .sc (.int .i64 n__3), .sc (.string n__4), .sc (.int .i64 n__5), .sc (.int .i64 n__6), .sc (.bool n__7), .sc (.bool n__8), .sc (.int .i64 n__9), .sc (.int .i64 n__10), .sc (.bool n__11), .sc (.bool n__12), .lst 14 nn nf], .buf 29 0 out], none⟩
theorem f51_eq (k : Nat) (n_ n__1 n__2 n__3 : Int) (n__4 : ByteArray) (n__5 n__6 : Int) (n__7 n__8 : Bool) (n__9 n__10 : Int) (n__11 n__12 : Bool) (nn : Nat) (nf : Nat → PV) : D 51 [.agg [.sc (.int .i64 n_), .sc (.int .i64 n__1), .sc (.int .i64 n__2), .sc (.int .i64 n__3), .sc (.string n__4), .sc (.int .i64 n__5), .sc (.int .i64 n__6), .sc (.bool n__7), .sc (.bool n__8), .sc (.int .i64 n__9), .sc (.int .i64 n__10), .sc (.bool n__11), .sc (.bool n__12), .lst 14 nn nf]] =
  if ([.agg [.sc (.int .i64 n_), .sc (.int .i64 n__1), .sc (.int .i64 n__2), .sc (.int .i64 n__3), .sc (.string n__4), .sc (.int .i64 n__5), .sc (.int .i64 n__6), .sc (.bool n__7), .sc (.bool n__8), .sc (.int .i64 n__9), .sc (.int .i64 n__10), .sc (.bool n__11), .sc (.bool n__12), .lst 14 nn nf]] : List PV).length * 120 ≤ 140737488355328 ∧ ([.agg [.sc (.int .i64 n_), .sc (.int .i64 n__1), .sc (.int .i64 n__2), .sc (.int .i64 n__3), .sc (.string n__4), .sc (.int .i64 n__5), .sc (.int .i64 n__6), .sc (.bool n__7), .sc (.bool n__8), .sc (.int .i64 n__9), .sc (.int .i64 n__10), .sc (.bool n__11), .sc (.bool n__12), .lst 14 nn nf]] : List PV).length ≤ 140737488355328 then
    f51.l0a k 0 n_ n__1 n__2 n__3 n__4 n__5 n__6 n__7 n__8 n__9 n__10 n__11 n__12 nn nf ([.agg [.sc (.int .i64 n_), .sc (.int .i64 n__1), .sc (.int .i64 n__2), .sc (.int .i64 n__3), .sc (.string n__4), .sc (.int .i64 n__5), .sc (.int .i64 n__6), .sc (.bool n__7), .sc (.bool n__8), .sc (.int .i64 n__9), .sc (.int .i64 n__10), .sc (.bool n__11), .sc (.bool n__12), .lst 14 nn nf]] : List PV)
  else none :=
  (denI_eq k _ _).trans (by kernel_rfl)
theorem f51.l0a_eq (k : Nat) (i n_ n__1 n__2 n__3 : Int) (n__4 : ByteArray) (n__5 n__6 : Int) (n__7 n__8 : Bool) (n__9 n__10 : Int) (n__11 n__12 : Bool) (nn : Nat) (nf : Nat → PV) (out : List PV) : f51.l0a k i n_ n__1 n__2 n__3 n__4 n__5 n__6 n__7 n__8 n__9 n__10 n__11 n__12 nn nf out =
  if decide (i < (nn : Int)) = true then
    if 0 ≤ i then
      if i < (nn : Int) then
        if hasSh (.agg [(.int .i64), (.int .i64), (.int .i64), (.int .i64), .str, (.int .i64), (.int .i64), .bool, .bool, (.int .i64), (.int .i64), .bool, .bool, (.lst 14)]) (nf i.toNat) = true then
          (D 51 [.agg [.sc (.int .i64 ((cel 0 (nf i.toNat).cells).toInt)), .sc (.int .i64 ((cel 1 (nf i.toNat).cells).toInt)), .sc (.int .i64 ((cel 2 (nf i.toNat).cells).toInt)), .sc (.int .i64 ((cel 3 (nf i.toNat).cells).toInt)), .sc (.string ((cel 4 (nf i.toNat).cells).toStr)), .sc (.int .i64 ((cel 5 (nf i.toNat).cells).toInt)), .sc (.int .i64 ((cel 6 (nf i.toNat).cells).toInt)), .sc (.bool ((cel 7 (nf i.toNat).cells).toBool)), .sc (.bool ((cel 8 (nf i.toNat).cells).toBool)), .sc (.int .i64 ((cel 9 (nf i.toNat).cells).toInt)), .sc (.int .i64 ((cel 10 (nf i.toNat).cells).toInt)), .sc (.bool ((cel 11 (nf i.toNat).cells).toBool)), .sc (.bool ((cel 12 (nf i.toNat).cells).toBool)), .lst 14 ((cel 13 (nf i.toNat).cells).len) ((cel 13 (nf i.toNat).cells).at)]]).bind fun r1 => if hasSh (.lst 14) r1 = true then
          if (out.length + ((List.range r1.len).map r1.at).length) * 120 ≤ 140737488355328 ∧ out.length + ((List.range r1.len).map r1.at).length ≤ 140737488355328 then
            f51.l0a k (IntKind.i64.wrap (i + 1)) n_ n__1 n__2 n__3 n__4 n__5 n__6 n__7 n__8 n__9 n__10 n__11 n__12 nn nf (out ++ ((List.range r1.len).map r1.at))
          else none
          else none
        else none
      else none
    else none
  else
    some (frozen 14 out) :=
  (loopAt_eq _ _ _ _).trans (by kernel_rfl)
-- oculus/oculuslaw24.alive
theorem f21_eq (k : Nat)  : D 21 [] =
  (D 12 [.sc (.string (⟨#[32, 40, 49, 43, 40, 50, 41, 41, 42, 45, 40, 65, 36, 49, 45, 40, 66, 50, 45, 51, 41, 41, 32, 38, 32, 83, 85, 77, 40, 32, 40, 52, 41, 32, 44, 32, 36, 67, 51, 58, 68, 52, 32, 41]⟩ : ByteArray))]).bind fun r1 => if hasSh (.tup [(.agg [(.int .i64), (.int .i64), (.int .i64), (.int .i64), .str, (.int .i64), (.int .i64), .bool, .bool, (.int .i64), (.int .i64), .bool, .bool, (.lst 14)]), (.int .i64)]) r1 = true then
  Option.bind (α := PV) (
    if (((cel 1 r1.parts).toInt) == 0) = true then
      Option.bind (α := PV) (
        (D 22 [.agg [.sc (.int .i64 ((cel 0 (cel 0 r1.parts).cells).toInt)), .sc (.int .i64 ((cel 1 (cel 0 r1.parts).cells).toInt)), .sc (.int .i64 ((cel 2 (cel 0 r1.parts).cells).toInt)), .sc (.int .i64 ((cel 3 (cel 0 r1.parts).cells).toInt)), .sc (.string ((cel 4 (cel 0 r1.parts).cells).toStr)), .sc (.int .i64 ((cel 5 (cel 0 r1.parts).cells).toInt)), .sc (.int .i64 ((cel 6 (cel 0 r1.parts).cells).toInt)), .sc (.bool ((cel 7 (cel 0 r1.parts).cells).toBool)), .sc (.bool ((cel 8 (cel 0 r1.parts).cells).toBool)), .sc (.int .i64 ((cel 9 (cel 0 r1.parts).cells).toInt)), .sc (.int .i64 ((cel 10 (cel 0 r1.parts).cells).toInt)), .sc (.bool ((cel 11 (cel 0 r1.parts).cells).toBool)), .sc (.bool ((cel 12 (cel 0 r1.parts).cells).toBool)), .lst 14 ((cel 13 (cel 0 r1.parts).cells).len) ((cel 13 (cel 0 r1.parts).cells).at)]]).bind fun r2 => if hasSh .str r2 = true then
        some (.sc (.bool (r2.toStr.toList == (⟨#[40, 49, 43, 50, 41, 42, 45, 40, 65, 36, 49, 45, 40, 66, 50, 45, 51, 41, 41, 38, 83, 85, 77, 40, 52, 44, 36, 67, 51, 58, 68, 52, 41]⟩ : ByteArray).toList)))
        else none) fun r3 =>
      some (.sc (.bool r3.toBool))
    else
      some (.sc (.bool false))) fun r4 =>
  Option.bind (α := PV) (
    if r4.toBool = true then
      Option.bind (α := PV) (
        (D 24 [.agg [.sc (.int .i64 9), .sc (.int .i64 27), .sc (.bool false), .sc (.bool true)]]).bind fun r5 => if hasSh .str r5 = true then
        some (.sc (.bool (r5.toStr.toList == (⟨#[36, 65, 66, 49, 48]⟩ : ByteArray).toList)))
        else none) fun r6 =>
      some (.sc (.bool r6.toBool))
    else
      some (.sc (.bool false))) fun r7 =>
  some (.sc (.bool r7.toBool))
  else none :=
  (denI_eq k _ _).trans (by kernel_rfl)
-- oculus/canon.Text
theorem f22_eq (k : Nat) (n_ n__1 n__2 n__3 : Int) (n__4 : ByteArray) (n__5 n__6 : Int) (n__7 n__8 : Bool) (n__9 n__10 : Int) (n__11 n__12 : Bool) (nn : Nat) (nf : Nat → PV) : D 22 [.agg [.sc (.int .i64 n_), .sc (.int .i64 n__1), .sc (.int .i64 n__2), .sc (.int .i64 n__3), .sc (.string n__4), .sc (.int .i64 n__5), .sc (.int .i64 n__6), .sc (.bool n__7), .sc (.bool n__8), .sc (.int .i64 n__9), .sc (.int .i64 n__10), .sc (.bool n__11), .sc (.bool n__12), .lst 14 nn nf]] =
  (D 43 [.agg [.sc (.int .i64 n_), .sc (.int .i64 n__1), .sc (.int .i64 n__2), .sc (.int .i64 n__3), .sc (.string n__4), .sc (.int .i64 n__5), .sc (.int .i64 n__6), .sc (.bool n__7), .sc (.bool n__8), .sc (.int .i64 n__9), .sc (.int .i64 n__10), .sc (.bool n__11), .sc (.bool n__12), .lst 14 nn nf]]).bind fun r1 => if hasSh .bool r1 = true then
  if (!r1.toBool) = true then
    some (.sc (.string (⟨#[]⟩ : ByteArray)))
  else
    (D 52 [.hp [.iptr (.ptr 90 0 :: [.selfp 0, .buf 1 0]), .tup (.ptr 5 0 :: ([] : List PV))], .ptr 0 0, .agg [.sc (.int .i64 n_), .sc (.int .i64 n__1), .sc (.int .i64 n__2), .sc (.int .i64 n__3), .sc (.string n__4), .sc (.int .i64 n__5), .sc (.int .i64 n__6), .sc (.bool n__7), .sc (.bool n__8), .sc (.int .i64 n__9), .sc (.int .i64 n__10), .sc (.bool n__11), .sc (.bool n__12), .lst 14 nn nf]]).bind fun r2 => if (isHand r2 && (false || objsOk fo52 (handObjs r2)) && retOk Tryz.prog 6 [] (handRet r2)) = true then
    (D 53 [.hp [.iptr (.ptr 90 0 :: [.selfp 0, .buf 1 0]), .tup (.ptr 5 0 :: (hBuf 1 r2))], .ptr 0 0]).bind fun r3 => if (isHand r3 && (true || objsOk fo53 (handObjs r3)) && retOk Tryz.prog 6 [9] (handRet r3)) = true then
    some (.sc (.string ((handRet r3).toStr)))
    else none
    else none
  else none :=
  (denI_eq k _ _).trans (by kernel_rfl)
-- oculus/canon.put
noncomputable def f52h.l0a (k : Nat) (t96n : Nat) (t96f : Nat → PV) (t97 t98 : Int) (xs1 : List PV) : Option PV := loopAt Tryz.prog cf ext hint k 52 [1, 1, 0, 1, 1, 1, 1, 1, 1, 1, 1, 1, 1, 1, 1, 1, 0, 1, 0, 1, 0] ⟨[.ptr 0 0, .top, .top, .top, .top, .top, .top, .top, .top, .top, .top, .top, .top, .top, .top, .top, .top, .top, .top, .top, .top, .top, .top, .top, .top, .top, .top, .top, .top, .top, .top, .top, .top, .top, .top, .top, .top, .top, .top, .top, .top, .top, .top, .top, .top, .top, .top, .top, .top, .top, .top, .top, .top, .top, .top, .top, .top, .top, .top, .top, .top, .top, .top, .top, .top, .top, .top, .top, .top, .top, .top, .top, .top, .top, .top, .top, .top, .top, .top, .top, .top, .top, .top, .top, .top, .top, .top, .top, .top, .top, .top, .top, .top, .top, .top, .top, .lst 14 t96n t96f, .sc (.int .i64 t97), .sc (.int .i64 t98), .top, .top, .top, .top, .top, .top, .top, .top, .top, .top, .top, .top, .top, .top], [.cells 90 [.selfp 0, .buf 1 0], .buf 5 0 xs1], (some 2)⟩
noncomputable def f52h.j1a (k : Nat) (t96n : Nat) (t96f : Nat → PV) (t97 t98 : Int) (xs1 : List PV) (x_ x__1 x__2 x__3 : Int) (x__4 : ByteArray) (x__5 x__6 : Int) (x__7 x__8 : Bool) (x__9 x__10 : Int) (x__11 x__12 : Bool) (xn : Nat) (xf : Nat → PV) : Option PV := gateK k (placeAt Tryz.prog cf ext hint k 52 [1, 1, 0, 1, 1, 1, 1, 1, 1, 1, 1, 1, 1, 1, 1, 1, 0, 1, 0, 1, 0, 0, 1, 1, 0, 0, 1, 1]) ⟨[.ptr 0 0, .top, .top, .top, .top, .top, .top, .ptr 2 0, .top, .top, .top, .top, .top, .top, .top, .top, .top, .top, .top, .top, .top, .top, .top, .top, .top, .top, .top, .top, .top, .top, .top, .top, .top, .top, .top, .top, .top, .top, .top, .top, .top, .top, .top, .top, .top, .top, .top, .top, .top, .top, .top, .top, .top, .top, .top, .top, .top, .top, .top, .top, .top, .top, .top, .top, .top, .top, .top, .top, .top, .top, .top, .top, .top, .top, .top, .top, .top, .top, .top, .top, .top, .top, .top, .top, .top, .top, .top, .top, .top, .top, .top, .top, .top, .top, .top, .top, .lst 14 t96n t96f, .sc (.int .i64 t97), .sc (.int .i64 t98), .top, .top, .top, .top, .top, .top, .top, .top, .top, .top, .top, .top, .top, .top], [.cells 90 [.selfp 0, .buf 1 0], .buf 5 0 xs1, .cells 29 [.sc (.int .i64 x_), .sc (.int .i64 x__1), .sc (.int .i64 x__2), .sc (.int .i64 x__3), .sc (.string x__4), .sc (.int .i64 x__5), .sc (.int .i64 x__6), .sc (.bool x__7), .sc (.bool x__8), .sc (.int .i64 x__9), .sc (.int .i64 x__10), .sc (.bool x__11), .sc (.bool x__12), .lst 14 xn xf]], (some 2)⟩
theorem f52h_eq (k : Nat) (n_ n__1 n__2 n__3 : Int) (n__4 : ByteArray) (n__5 n__6 : Int) (n__7 n__8 : Bool) (n__9 n__10 : Int) (n__11 n__12 : Bool) (nn : Nat) (nf : Nat → PV) (buf : List PV) : D 52 [.hp [.iptr (.ptr 90 0 :: [.selfp 0, .buf 1 0]), .tup (.ptr 5 0 :: buf)], .ptr 0 0, .agg [.sc (.int .i64 n_), .sc (.int .i64 n__1), .sc (.int .i64 n__2), .sc (.int .i64 n__3), .sc (.string n__4), .sc (.int .i64 n__5), .sc (.int .i64 n__6), .sc (.bool n__7), .sc (.bool n__8), .sc (.int .i64 n__9), .sc (.int .i64 n__10), .sc (.bool n__11), .sc (.bool n__12), .lst 14 nn nf]] =
  if (n_ == 1) = true then
    if (n__2 == 1) = true then
      (D 99 [.sc (.int .i64 n__3)]).bind fun r1 => if hasSh .str r1 = true then
      (D 98 [.hp [.iptr (.ptr 90 0 :: [.selfp 0, .buf 1 0]), .tup (.ptr 5 0 :: buf)], .ptr 0 0, .sc (.string r1.toStr)]).bind fun r2 => if (isHand r2 && (false || objsOk fo98 (handObjs r2)) && retOk Tryz.prog 6 [3, 137] (handRet r2)) = true then
      some (.tup [.hp [.iptr (.ptr 90 0 :: [.selfp 0, .buf 1 0]), .tup (.ptr 5 0 :: (hBuf 1 r2))], .tup []])
      else none
      else none
    else
      (D 100 [.agg [.sc (.int .i64 n__2), .sc (.int .i64 n__3), .sc (.string n__4)]]).bind fun r3 => if hasSh .str r3 = true then
      (D 98 [.hp [.iptr (.ptr 90 0 :: [.selfp 0, .buf 1 0]), .tup (.ptr 5 0 :: buf)], .ptr 0 0, .sc (.string r3.toStr)]).bind fun r4 => if (isHand r4 && (false || objsOk fo98 (handObjs r4)) && retOk Tryz.prog 6 [3, 137] (handRet r4)) = true then
      some (.tup [.hp [.iptr (.ptr 90 0 :: [.selfp 0, .buf 1 0]), .tup (.ptr 5 0 :: (hBuf 1 r4))], .tup []])
      else none
      else none
  else
    if (n_ == 2) = true then
      (D 101 [.sc (.int .i64 3)]).bind fun r5 => if hasSh .str r5 = true then
      (D 98 [.hp [.iptr (.ptr 90 0 :: [.selfp 0, .buf 1 0]), .tup (.ptr 5 0 :: buf)], .ptr 0 0, .sc (.string r5.toStr)]).bind fun r6 => if (isHand r6 && (false || objsOk fo98 (handObjs r6)) && retOk Tryz.prog 6 [3, 137] (handRet r6)) = true then
      some (.tup [.hp [.iptr (.ptr 90 0 :: [.selfp 0, .buf 1 0]), .tup (.ptr 5 0 :: (hBuf 1 r6))], .tup []])
      else none
      else none
    else
      if (n_ == 3) = true then
        (D 24 [.agg [.sc (.int .i64 n__5), .sc (.int .i64 n__6), .sc (.bool n__7), .sc (.bool n__8)]]).bind fun r7 => if hasSh .str r7 = true then
        (D 98 [.hp [.iptr (.ptr 90 0 :: [.selfp 0, .buf 1 0]), .tup (.ptr 5 0 :: buf)], .ptr 0 0, .sc (.string r7.toStr)]).bind fun r8 => if (isHand r8 && (false || objsOk fo98 (handObjs r8)) && retOk Tryz.prog 6 [3, 137] (handRet r8)) = true then
        some (.tup [.hp [.iptr (.ptr 90 0 :: [.selfp 0, .buf 1 0]), .tup (.ptr 5 0 :: (hBuf 1 r8))], .tup []])
        else none
        else none
      else
        if (n_ == 4) = true then
          (D 24 [.agg [.sc (.int .i64 n__5), .sc (.int .i64 n__6), .sc (.bool n__7), .sc (.bool n__8)]]).bind fun r9 => if hasSh .str r9 = true then
          if r9.toStr.size + 1 ≤ 9223372036854775807 then
            (D 24 [.agg [.sc (.int .i64 n__9), .sc (.int .i64 n__10), .sc (.bool n__11), .sc (.bool n__12)]]).bind fun r10 => if hasSh .str r10 = true then
            if (r9.toStr ++ (⟨#[58]⟩ : ByteArray)).size + r10.toStr.size ≤ 9223372036854775807 then
              (D 98 [.hp [.iptr (.ptr 90 0 :: [.selfp 0, .buf 1 0]), .tup (.ptr 5 0 :: buf)], .ptr 0 0, .sc (.string ((r9.toStr ++ (⟨#[58]⟩ : ByteArray)) ++ r10.toStr))]).bind fun r11 => if (isHand r11 && (false || objsOk fo98 (handObjs r11)) && retOk Tryz.prog 6 [3, 137] (handRet r11)) = true then
              some (.tup [.hp [.iptr (.ptr 90 0 :: [.selfp 0, .buf 1 0]), .tup (.ptr 5 0 :: (hBuf 1 r11))], .tup []])
              else none
            else none
            else none
          else none
          else none
        else
          if (n_ == 5) = true then
            (D 102 [.hp [.iptr (.ptr 90 0 :: [.selfp 0, .buf 1 0]), .tup (.ptr 5 0 :: buf)], .ptr 0 0, .sc (.int .u8 45)]).bind fun r12 => if (isHand r12 && (false || objsOk fo102 (handObjs r12)) && retOk Tryz.prog 6 [137] (handRet r12)) = true then
            if 0 < (nn : Int) then
              if hasSh (.agg [(.int .i64), (.int .i64), (.int .i64), (.int .i64), .str, (.int .i64), (.int .i64), .bool, .bool, (.int .i64), (.int .i64), .bool, .bool, (.lst 14)]) (nf 0) = true then
                (D 103 [.hp [.iptr (.ptr 90 0 :: [.selfp 0, .buf 1 0]), .tup (.ptr 5 0 :: (hBuf 1 r12))], .ptr 0 0, .agg [.sc (.int .i64 ((cel 0 (nf 0).cells).toInt)), .sc (.int .i64 ((cel 1 (nf 0).cells).toInt)), .sc (.int .i64 ((cel 2 (nf 0).cells).toInt)), .sc (.int .i64 ((cel 3 (nf 0).cells).toInt)), .sc (.string ((cel 4 (nf 0).cells).toStr)), .sc (.int .i64 ((cel 5 (nf 0).cells).toInt)), .sc (.int .i64 ((cel 6 (nf 0).cells).toInt)), .sc (.bool ((cel 7 (nf 0).cells).toBool)), .sc (.bool ((cel 8 (nf 0).cells).toBool)), .sc (.int .i64 ((cel 9 (nf 0).cells).toInt)), .sc (.int .i64 ((cel 10 (nf 0).cells).toInt)), .sc (.bool ((cel 11 (nf 0).cells).toBool)), .sc (.bool ((cel 12 (nf 0).cells).toBool)), .lst 14 ((cel 13 (nf 0).cells).len) ((cel 13 (nf 0).cells).at)], .sc (.int .i64 9)]).bind fun r13 => if (isHand r13 && (false || objsOk fo103 (handObjs r13)) && retOk Tryz.prog 6 [] (handRet r13)) = true then
                some (.tup [.hp [.iptr (.ptr 90 0 :: [.selfp 0, .buf 1 0]), .tup (.ptr 5 0 :: (hBuf 1 r13))], .tup []])
                else none
              else none
            else none
            else none
          else
            if (n_ == 6) = true then
              (D 104 [.sc (.int .i64 n__1)]).bind fun r14 => if hasSh (.tup [.str, (.int .i64)]) r14 = true then
              if 0 < (nn : Int) then
                if hasSh (.agg [(.int .i64), (.int .i64), (.int .i64), (.int .i64), .str, (.int .i64), (.int .i64), .bool, .bool, (.int .i64), (.int .i64), .bool, .bool, (.lst 14)]) (nf 0) = true then
                  (D 103 [.hp [.iptr (.ptr 90 0 :: [.selfp 0, .buf 1 0]), .tup (.ptr 5 0 :: buf)], .ptr 0 0, .agg [.sc (.int .i64 ((cel 0 (nf 0).cells).toInt)), .sc (.int .i64 ((cel 1 (nf 0).cells).toInt)), .sc (.int .i64 ((cel 2 (nf 0).cells).toInt)), .sc (.int .i64 ((cel 3 (nf 0).cells).toInt)), .sc (.string ((cel 4 (nf 0).cells).toStr)), .sc (.int .i64 ((cel 5 (nf 0).cells).toInt)), .sc (.int .i64 ((cel 6 (nf 0).cells).toInt)), .sc (.bool ((cel 7 (nf 0).cells).toBool)), .sc (.bool ((cel 8 (nf 0).cells).toBool)), .sc (.int .i64 ((cel 9 (nf 0).cells).toInt)), .sc (.int .i64 ((cel 10 (nf 0).cells).toInt)), .sc (.bool ((cel 11 (nf 0).cells).toBool)), .sc (.bool ((cel 12 (nf 0).cells).toBool)), .lst 14 ((cel 13 (nf 0).cells).len) ((cel 13 (nf 0).cells).at)], .sc (.int .i64 ((cel 1 r14.parts).toInt))]).bind fun r15 => if (isHand r15 && (false || objsOk fo103 (handObjs r15)) && retOk Tryz.prog 6 [] (handRet r15)) = true then
                  (D 98 [.hp [.iptr (.ptr 90 0 :: [.selfp 0, .buf 1 0]), .tup (.ptr 5 0 :: (hBuf 1 r15))], .ptr 0 0, .sc (.string ((cel 0 r14.parts).toStr))]).bind fun r16 => if (isHand r16 && (false || objsOk fo98 (handObjs r16)) && retOk Tryz.prog 6 [3, 137] (handRet r16)) = true then
                  if 1 < (nn : Int) then
                    if hasSh (.agg [(.int .i64), (.int .i64), (.int .i64), (.int .i64), .str, (.int .i64), (.int .i64), .bool, .bool, (.int .i64), (.int .i64), .bool, .bool, (.lst 14)]) (nf 1) = true then
                      (D 103 [.hp [.iptr (.ptr 90 0 :: [.selfp 0, .buf 1 0]), .tup (.ptr 5 0 :: (hBuf 1 r16))], .ptr 0 0, .agg [.sc (.int .i64 ((cel 0 (nf 1).cells).toInt)), .sc (.int .i64 ((cel 1 (nf 1).cells).toInt)), .sc (.int .i64 ((cel 2 (nf 1).cells).toInt)), .sc (.int .i64 ((cel 3 (nf 1).cells).toInt)), .sc (.string ((cel 4 (nf 1).cells).toStr)), .sc (.int .i64 ((cel 5 (nf 1).cells).toInt)), .sc (.int .i64 ((cel 6 (nf 1).cells).toInt)), .sc (.bool ((cel 7 (nf 1).cells).toBool)), .sc (.bool ((cel 8 (nf 1).cells).toBool)), .sc (.int .i64 ((cel 9 (nf 1).cells).toInt)), .sc (.int .i64 ((cel 10 (nf 1).cells).toInt)), .sc (.bool ((cel 11 (nf 1).cells).toBool)), .sc (.bool ((cel 12 (nf 1).cells).toBool)), .lst 14 ((cel 13 (nf 1).cells).len) ((cel 13 (nf 1).cells).at)], .sc (.int .i64 (IntKind.i64.wrap (((cel 1 r14.parts).toInt) + 1)))]).bind fun r17 => if (isHand r17 && (false || objsOk fo103 (handObjs r17)) && retOk Tryz.prog 6 [] (handRet r17)) = true then
                      some (.tup [.hp [.iptr (.ptr 90 0 :: [.selfp 0, .buf 1 0]), .tup (.ptr 5 0 :: (hBuf 1 r17))], .tup []])
                      else none
                    else none
                  else none
                  else none
                  else none
                else none
              else none
              else none
            else
              if (n_ == 7) = true then
                (D 105 [.sc (.int .i64 n__1)]).bind fun r18 => if hasSh .str r18 = true then
                if r18.toStr.size + 1 ≤ 9223372036854775807 then
                  (D 98 [.hp [.iptr (.ptr 90 0 :: [.selfp 0, .buf 1 0]), .tup (.ptr 5 0 :: buf)], .ptr 0 0, .sc (.string (r18.toStr ++ (⟨#[40]⟩ : ByteArray)))]).bind fun r19 => if (isHand r19 && (false || objsOk fo98 (handObjs r19)) && retOk Tryz.prog 6 [3, 137] (handRet r19)) = true then
                  f52h.l0a k nn nf (nn : Int) 0 (hBuf 1 r19)
                  else none
                else none
                else none
              else
                some (.tup [.hp [.iptr (.ptr 90 0 :: [.selfp 0, .buf 1 0]), .tup (.ptr 5 0 :: buf)], .tup []]) :=
  (denI_eq k _ _).trans (by kernel_rfl)
theorem f52h.l0a_eq (k : Nat) (t96n : Nat) (t96f : Nat → PV) (t97 t98 : Int) (xs1 : List PV) : f52h.l0a k t96n t96f t97 t98 xs1 =
  if decide (t98 < t97) = true then
    if 0 ≤ t98 then
      if t98 < (t96n : Int) then
        if hasSh (.agg [(.int .i64), (.int .i64), (.int .i64), (.int .i64), .str, (.int .i64), (.int .i64), .bool, .bool, (.int .i64), (.int .i64), .bool, .bool, (.lst 14)]) (t96f t98.toNat) = true then
          if decide (t98 > 0) = true then
            (D 102 [.hp [.iptr (.ptr 90 0 :: [.selfp 0, .buf 1 0]), .tup (.ptr 5 0 :: xs1)], .ptr 0 0, .sc (.int .u8 44)]).bind fun r20 => if (isHand r20 && (false || objsOk fo102 (handObjs r20)) && retOk Tryz.prog 6 [137] (handRet r20)) = true then
            f52h.j1a k t96n t96f t97 t98 (hBuf 1 r20) ((cel 0 (t96f t98.toNat).cells).toInt) ((cel 1 (t96f t98.toNat).cells).toInt) ((cel 2 (t96f t98.toNat).cells).toInt) ((cel 3 (t96f t98.toNat).cells).toInt) ((cel 4 (t96f t98.toNat).cells).toStr) ((cel 5 (t96f t98.toNat).cells).toInt) ((cel 6 (t96f t98.toNat).cells).toInt) ((cel 7 (t96f t98.toNat).cells).toBool) ((cel 8 (t96f t98.toNat).cells).toBool) ((cel 9 (t96f t98.toNat).cells).toInt) ((cel 10 (t96f t98.toNat).cells).toInt) ((cel 11 (t96f t98.toNat).cells).toBool) ((cel 12 (t96f t98.toNat).cells).toBool) ((cel 13 (t96f t98.toNat).cells).len) ((cel 13 (t96f t98.toNat).cells).at)
            else none
          else
            f52h.j1a k t96n t96f t97 t98 xs1 ((cel 0 (t96f t98.toNat).cells).toInt) ((cel 1 (t96f t98.toNat).cells).toInt) ((cel 2 (t96f t98.toNat).cells).toInt) ((cel 3 (t96f t98.toNat).cells).toInt) ((cel 4 (t96f t98.toNat).cells).toStr) ((cel 5 (t96f t98.toNat).cells).toInt) ((cel 6 (t96f t98.toNat).cells).toInt) ((cel 7 (t96f t98.toNat).cells).toBool) ((cel 8 (t96f t98.toNat).cells).toBool) ((cel 9 (t96f t98.toNat).cells).toInt) ((cel 10 (t96f t98.toNat).cells).toInt) ((cel 11 (t96f t98.toNat).cells).toBool) ((cel 12 (t96f t98.toNat).cells).toBool) ((cel 13 (t96f t98.toNat).cells).len) ((cel 13 (t96f t98.toNat).cells).at)
        else none
      else none
    else none
  else
    (D 102 [.hp [.iptr (.ptr 90 0 :: [.selfp 0, .buf 1 0]), .tup (.ptr 5 0 :: xs1)], .ptr 0 0, .sc (.int .u8 41)]).bind fun r21 => if (isHand r21 && (false || objsOk fo102 (handObjs r21)) && retOk Tryz.prog 6 [137] (handRet r21)) = true then
    some (.tup [.hp [.iptr (.ptr 90 0 :: [.selfp 0, .buf 1 0]), .tup (.ptr 5 0 :: (hBuf 1 r21))], .tup []])
    else none :=
  (loopAt_eq _ _ _ _).trans (by kernel_rfl)
theorem f52h.j1a_eq (k : Nat) (t96n : Nat) (t96f : Nat → PV) (t97 t98 : Int) (xs1 : List PV) (x_ x__1 x__2 x__3 : Int) (x__4 : ByteArray) (x__5 x__6 : Int) (x__7 x__8 : Bool) (x__9 x__10 : Int) (x__11 x__12 : Bool) (xn : Nat) (xf : Nat → PV) : f52h.j1a k t96n t96f t97 t98 xs1 x_ x__1 x__2 x__3 x__4 x__5 x__6 x__7 x__8 x__9 x__10 x__11 x__12 xn xf =
  (D 52 [.hp [.iptr (.ptr 90 0 :: [.selfp 0, .buf 1 0]), .tup (.ptr 5 0 :: xs1)], .ptr 0 0, .agg [.sc (.int .i64 x_), .sc (.int .i64 x__1), .sc (.int .i64 x__2), .sc (.int .i64 x__3), .sc (.string x__4), .sc (.int .i64 x__5), .sc (.int .i64 x__6), .sc (.bool x__7), .sc (.bool x__8), .sc (.int .i64 x__9), .sc (.int .i64 x__10), .sc (.bool x__11), .sc (.bool x__12), .lst 14 xn xf]]).bind fun r22 => if (isHand r22 && (false || objsOk fo52 (handObjs r22)) && retOk Tryz.prog 6 [] (handRet r22)) = true then
  f52h.l0a k t96n t96f t97 (IntKind.i64.wrap (t98 + 1)) (hBuf 1 r22)
  else none :=
  (gateK_open _ _ _).trans (by kernel_rfl)
end ES
end Go.Den
