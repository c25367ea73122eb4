import Derived.Test.YtkhbkbkambflbaaGreatDoorEBh
import Derived.KernelRfl
set_option maxRecDepth 100000
set_option linter.unusedVariables false
namespace Go.Den
open Go Go.Proofs
namespace EB
-- oculus/oculuslaw23.ParseBrackets
theorem f4_eq (k : Nat) (s_ t : ByteArray) : D 4 [.sc (.string s_), .sc (.string t)] =
  Option.bind (α := PV) (
    if decide ((s_.size : Int) > 90) = true then
      some (.sc (.bool true))
    else
      some (.sc (.bool (decide ((t.size : Int) > (IntKind.i64.wrap ((90 : Int) - (s_.size : Int)))))))) fun r1 =>
  if r1.toBool = true then
    (D 11 []).bind fun r2 => if hasSh .bool r2 = true then
    some (.sc (.bool r2.toBool))
    else none
  else
    (D 12 [.sc (.string s_)]).bind fun r3 => if hasSh (.tup [(.agg [(.int .i64), (.int .i64), (.int .i64), (.int .i64), .str, (.int .i64), (.int .i64), .bool, .bool, (.int .i64), (.int .i64), .bool, .bool, (.lst 14)]), (.int .i64)]) r3 = true then
    (D 12 [.sc (.string t)]).bind fun r4 => if hasSh (.tup [(.agg [(.int .i64), (.int .i64), (.int .i64), (.int .i64), .str, (.int .i64), (.int .i64), .bool, .bool, (.int .i64), (.int .i64), .bool, .bool, (.lst 14)]), (.int .i64)]) r4 = true then
    Option.bind (α := PV) (
      if (((cel 1 r3.parts).toInt) != 0) = true then
        some (.sc (.bool true))
      else
        some (.sc (.bool (((cel 1 r4.parts).toInt) != 0)))) fun r5 =>
    if r5.toBool = true then
      (D 11 []).bind fun r6 => if hasSh .bool r6 = true then
      some (.sc (.bool r6.toBool))
      else none
    else
      if 3 + s_.size ≤ 9223372036854775807 then
        if ((⟨#[32, 40, 32]⟩ : ByteArray) ++ s_).size + 1 ≤ 9223372036854775807 then
          (D 12 [.sc (.string (((⟨#[32, 40, 32]⟩ : ByteArray) ++ s_) ++ (⟨#[41]⟩ : ByteArray)))]).bind fun r7 => if hasSh (.tup [(.agg [(.int .i64), (.int .i64), (.int .i64), (.int .i64), .str, (.int .i64), (.int .i64), .bool, .bool, (.int .i64), (.int .i64), .bool, .bool, (.lst 14)]), (.int .i64)]) r7 = true then
          Option.bind (α := PV) (
            if (((cel 1 r7.parts).toInt) != 0) = true then
              some (.sc (.bool true))
            else
              Option.bind (α := PV) (
                Option.bind (α := PV) (
                  (D 16 [.agg [.sc (.int .i64 ((cel 0 (cel 0 r7.parts).cells).toInt)), .sc (.int .i64 ((cel 1 (cel 0 r7.parts).cells).toInt)), .sc (.int .i64 ((cel 2 (cel 0 r7.parts).cells).toInt)), .sc (.int .i64 ((cel 3 (cel 0 r7.parts).cells).toInt)), .sc (.string ((cel 4 (cel 0 r7.parts).cells).toStr)), .sc (.int .i64 ((cel 5 (cel 0 r7.parts).cells).toInt)), .sc (.int .i64 ((cel 6 (cel 0 r7.parts).cells).toInt)), .sc (.bool ((cel 7 (cel 0 r7.parts).cells).toBool)), .sc (.bool ((cel 8 (cel 0 r7.parts).cells).toBool)), .sc (.int .i64 ((cel 9 (cel 0 r7.parts).cells).toInt)), .sc (.int .i64 ((cel 10 (cel 0 r7.parts).cells).toInt)), .sc (.bool ((cel 11 (cel 0 r7.parts).cells).toBool)), .sc (.bool ((cel 12 (cel 0 r7.parts).cells).toBool)), .lst 14 ((cel 13 (cel 0 r7.parts).cells).len) ((cel 13 (cel 0 r7.parts).cells).at)], .agg [.sc (.int .i64 ((cel 0 (cel 0 r3.parts).cells).toInt)), .sc (.int .i64 ((cel 1 (cel 0 r3.parts).cells).toInt)), .sc (.int .i64 ((cel 2 (cel 0 r3.parts).cells).toInt)), .sc (.int .i64 ((cel 3 (cel 0 r3.parts).cells).toInt)), .sc (.string ((cel 4 (cel 0 r3.parts).cells).toStr)), .sc (.int .i64 ((cel 5 (cel 0 r3.parts).cells).toInt)), .sc (.int .i64 ((cel 6 (cel 0 r3.parts).cells).toInt)), .sc (.bool ((cel 7 (cel 0 r3.parts).cells).toBool)), .sc (.bool ((cel 8 (cel 0 r3.parts).cells).toBool)), .sc (.int .i64 ((cel 9 (cel 0 r3.parts).cells).toInt)), .sc (.int .i64 ((cel 10 (cel 0 r3.parts).cells).toInt)), .sc (.bool ((cel 11 (cel 0 r3.parts).cells).toBool)), .sc (.bool ((cel 12 (cel 0 r3.parts).cells).toBool)), .lst 14 ((cel 13 (cel 0 r3.parts).cells).len) ((cel 13 (cel 0 r3.parts).cells).at)]]).bind fun r8 => if hasSh .bool r8 = true then
                  some (.sc (.bool (!r8.toBool)))
                  else none) fun r9 =>
                some (.sc (.bool r9.toBool))) fun r10 =>
              some (.sc (.bool r10.toBool))) fun r11 =>
          if r11.toBool = true then
            some (.sc (.bool false))
          else
            (D 17 [.agg [.sc (.int .i64 ((cel 0 (cel 0 r3.parts).cells).toInt)), .sc (.int .i64 ((cel 1 (cel 0 r3.parts).cells).toInt)), .sc (.int .i64 ((cel 2 (cel 0 r3.parts).cells).toInt)), .sc (.int .i64 ((cel 3 (cel 0 r3.parts).cells).toInt)), .sc (.string ((cel 4 (cel 0 r3.parts).cells).toStr)), .sc (.int .i64 ((cel 5 (cel 0 r3.parts).cells).toInt)), .sc (.int .i64 ((cel 6 (cel 0 r3.parts).cells).toInt)), .sc (.bool ((cel 7 (cel 0 r3.parts).cells).toBool)), .sc (.bool ((cel 8 (cel 0 r3.parts).cells).toBool)), .sc (.int .i64 ((cel 9 (cel 0 r3.parts).cells).toInt)), .sc (.int .i64 ((cel 10 (cel 0 r3.parts).cells).toInt)), .sc (.bool ((cel 11 (cel 0 r3.parts).cells).toBool)), .sc (.bool ((cel 12 (cel 0 r3.parts).cells).toBool)), .lst 14 ((cel 13 (cel 0 r3.parts).cells).len) ((cel 13 (cel 0 r3.parts).cells).at)]]).bind fun r12 => if hasSh (.int .i64) r12 = true then
            Option.bind (α := PV) (
              if decide (r12.toInt > 11) = true then
                some (.sc (.bool true))
              else
                Option.bind (α := PV) (
                  (D 17 [.agg [.sc (.int .i64 ((cel 0 (cel 0 r4.parts).cells).toInt)), .sc (.int .i64 ((cel 1 (cel 0 r4.parts).cells).toInt)), .sc (.int .i64 ((cel 2 (cel 0 r4.parts).cells).toInt)), .sc (.int .i64 ((cel 3 (cel 0 r4.parts).cells).toInt)), .sc (.string ((cel 4 (cel 0 r4.parts).cells).toStr)), .sc (.int .i64 ((cel 5 (cel 0 r4.parts).cells).toInt)), .sc (.int .i64 ((cel 6 (cel 0 r4.parts).cells).toInt)), .sc (.bool ((cel 7 (cel 0 r4.parts).cells).toBool)), .sc (.bool ((cel 8 (cel 0 r4.parts).cells).toBool)), .sc (.int .i64 ((cel 9 (cel 0 r4.parts).cells).toInt)), .sc (.int .i64 ((cel 10 (cel 0 r4.parts).cells).toInt)), .sc (.bool ((cel 11 (cel 0 r4.parts).cells).toBool)), .sc (.bool ((cel 12 (cel 0 r4.parts).cells).toBool)), .lst 14 ((cel 13 (cel 0 r4.parts).cells).len) ((cel 13 (cel 0 r4.parts).cells).at)]]).bind fun r13 => if hasSh (.int .i64) r13 = true then
                  some (.sc (.bool (decide (r13.toInt > 11))))
                  else none) fun r14 =>
                some (.sc (.bool r14.toBool))) fun r15 =>
            if r15.toBool = true then
              (D 11 []).bind fun r16 => if hasSh .bool r16 = true then
              some (.sc (.bool r16.toBool))
              else none
            else
              if 2 + s_.size ≤ 9223372036854775807 then
                if ((⟨#[45, 40]⟩ : ByteArray) ++ s_).size + 1 ≤ 9223372036854775807 then
                  (D 12 [.sc (.string (((⟨#[45, 40]⟩ : ByteArray) ++ s_) ++ (⟨#[41]⟩ : ByteArray)))]).bind fun r17 => if hasSh (.tup [(.agg [(.int .i64), (.int .i64), (.int .i64), (.int .i64), .str, (.int .i64), (.int .i64), .bool, .bool, (.int .i64), (.int .i64), .bool, .bool, (.lst 14)]), (.int .i64)]) r17 = true then
                  if 1 + s_.size ≤ 9223372036854775807 then
                    if ((⟨#[40]⟩ : ByteArray) ++ s_).size + 4 ≤ 9223372036854775807 then
                      if (((⟨#[40]⟩ : ByteArray) ++ s_) ++ (⟨#[41, 60, 61, 40]⟩ : ByteArray)).size + t.size ≤ 9223372036854775807 then
                        if ((((⟨#[40]⟩ : ByteArray) ++ s_) ++ (⟨#[41, 60, 61, 40]⟩ : ByteArray)) ++ t).size + 1 ≤ 9223372036854775807 then
                          (D 12 [.sc (.string (((((⟨#[40]⟩ : ByteArray) ++ s_) ++ (⟨#[41, 60, 61, 40]⟩ : ByteArray)) ++ t) ++ (⟨#[41]⟩ : ByteArray)))]).bind fun r18 => if hasSh (.tup [(.agg [(.int .i64), (.int .i64), (.int .i64), (.int .i64), .str, (.int .i64), (.int .i64), .bool, .bool, (.int .i64), (.int .i64), .bool, .bool, (.lst 14)]), (.int .i64)]) r18 = true then
                          Option.bind (α := PV) (
                            if (((cel 1 r17.parts).toInt) == 0) = true then
                              some (.sc (.bool (((cel 1 r18.parts).toInt) == 0)))
                            else
                              some (.sc (.bool false))) fun r19 =>
                          if r19.toBool = true then
                            Option.bind (α := PV) (
                              Option.bind (α := PV) (
                                (D 16 [.agg [.sc (.int .i64 ((cel 0 (cel 0 r17.parts).cells).toInt)), .sc (.int .i64 ((cel 1 (cel 0 r17.parts).cells).toInt)), .sc (.int .i64 ((cel 2 (cel 0 r17.parts).cells).toInt)), .sc (.int .i64 ((cel 3 (cel 0 r17.parts).cells).toInt)), .sc (.string ((cel 4 (cel 0 r17.parts).cells).toStr)), .sc (.int .i64 ((cel 5 (cel 0 r17.parts).cells).toInt)), .sc (.int .i64 ((cel 6 (cel 0 r17.parts).cells).toInt)), .sc (.bool ((cel 7 (cel 0 r17.parts).cells).toBool)), .sc (.bool ((cel 8 (cel 0 r17.parts).cells).toBool)), .sc (.int .i64 ((cel 9 (cel 0 r17.parts).cells).toInt)), .sc (.int .i64 ((cel 10 (cel 0 r17.parts).cells).toInt)), .sc (.bool ((cel 11 (cel 0 r17.parts).cells).toBool)), .sc (.bool ((cel 12 (cel 0 r17.parts).cells).toBool)), .lst 14 ((cel 13 (cel 0 r17.parts).cells).len) ((cel 13 (cel 0 r17.parts).cells).at)], .agg [.sc (.int .i64 5), .sc (.int .i64 0), .sc (.int .i64 0), .sc (.int .i64 0), .sc (.string (⟨#[]⟩ : ByteArray)), .sc (.int .i64 0), .sc (.int .i64 0), .sc (.bool false), .sc (.bool false), .sc (.int .i64 0), .sc (.int .i64 0), .sc (.bool false), .sc (.bool false), frozen 14 ([.agg [.sc (.int .i64 ((cel 0 (cel 0 r3.parts).cells).toInt)), .sc (.int .i64 ((cel 1 (cel 0 r3.parts).cells).toInt)), .sc (.int .i64 ((cel 2 (cel 0 r3.parts).cells).toInt)), .sc (.int .i64 ((cel 3 (cel 0 r3.parts).cells).toInt)), .sc (.string ((cel 4 (cel 0 r3.parts).cells).toStr)), .sc (.int .i64 ((cel 5 (cel 0 r3.parts).cells).toInt)), .sc (.int .i64 ((cel 6 (cel 0 r3.parts).cells).toInt)), .sc (.bool ((cel 7 (cel 0 r3.parts).cells).toBool)), .sc (.bool ((cel 8 (cel 0 r3.parts).cells).toBool)), .sc (.int .i64 ((cel 9 (cel 0 r3.parts).cells).toInt)), .sc (.int .i64 ((cel 10 (cel 0 r3.parts).cells).toInt)), .sc (.bool ((cel 11 (cel 0 r3.parts).cells).toBool)), .sc (.bool ((cel 12 (cel 0 r3.parts).cells).toBool)), .lst 14 ((cel 13 (cel 0 r3.parts).cells).len) ((cel 13 (cel 0 r3.parts).cells).at)]] : List PV)]]).bind fun r20 => if hasSh .bool r20 = true then
                                some (.sc (.bool r20.toBool))
                                else none) fun r21 =>
                              some (.sc (.bool r21.toBool))) fun r22 =>
                            if r22.toBool = true then
                              Option.bind (α := PV) (
                                Option.bind (α := PV) (
                                  (D 16 [.agg [.sc (.int .i64 ((cel 0 (cel 0 r18.parts).cells).toInt)), .sc (.int .i64 ((cel 1 (cel 0 r18.parts).cells).toInt)), .sc (.int .i64 ((cel 2 (cel 0 r18.parts).cells).toInt)), .sc (.int .i64 ((cel 3 (cel 0 r18.parts).cells).toInt)), .sc (.string ((cel 4 (cel 0 r18.parts).cells).toStr)), .sc (.int .i64 ((cel 5 (cel 0 r18.parts).cells).toInt)), .sc (.int .i64 ((cel 6 (cel 0 r18.parts).cells).toInt)), .sc (.bool ((cel 7 (cel 0 r18.parts).cells).toBool)), .sc (.bool ((cel 8 (cel 0 r18.parts).cells).toBool)), .sc (.int .i64 ((cel 9 (cel 0 r18.parts).cells).toInt)), .sc (.int .i64 ((cel 10 (cel 0 r18.parts).cells).toInt)), .sc (.bool ((cel 11 (cel 0 r18.parts).cells).toBool)), .sc (.bool ((cel 12 (cel 0 r18.parts).cells).toBool)), .lst 14 ((cel 13 (cel 0 r18.parts).cells).len) ((cel 13 (cel 0 r18.parts).cells).at)], .agg [.sc (.int .i64 6), .sc (.int .i64 10), .sc (.int .i64 0), .sc (.int .i64 0), .sc (.string (⟨#[]⟩ : ByteArray)), .sc (.int .i64 0), .sc (.int .i64 0), .sc (.bool false), .sc (.bool false), .sc (.int .i64 0), .sc (.int .i64 0), .sc (.bool false), .sc (.bool false), frozen 14 ([.agg [.sc (.int .i64 ((cel 0 (cel 0 r3.parts).cells).toInt)), .sc (.int .i64 ((cel 1 (cel 0 r3.parts).cells).toInt)), .sc (.int .i64 ((cel 2 (cel 0 r3.parts).cells).toInt)), .sc (.int .i64 ((cel 3 (cel 0 r3.parts).cells).toInt)), .sc (.string ((cel 4 (cel 0 r3.parts).cells).toStr)), .sc (.int .i64 ((cel 5 (cel 0 r3.parts).cells).toInt)), .sc (.int .i64 ((cel 6 (cel 0 r3.parts).cells).toInt)), .sc (.bool ((cel 7 (cel 0 r3.parts).cells).toBool)), .sc (.bool ((cel 8 (cel 0 r3.parts).cells).toBool)), .sc (.int .i64 ((cel 9 (cel 0 r3.parts).cells).toInt)), .sc (.int .i64 ((cel 10 (cel 0 r3.parts).cells).toInt)), .sc (.bool ((cel 11 (cel 0 r3.parts).cells).toBool)), .sc (.bool ((cel 12 (cel 0 r3.parts).cells).toBool)), .lst 14 ((cel 13 (cel 0 r3.parts).cells).len) ((cel 13 (cel 0 r3.parts).cells).at)], .agg [.sc (.int .i64 ((cel 0 (cel 0 r4.parts).cells).toInt)), .sc (.int .i64 ((cel 1 (cel 0 r4.parts).cells).toInt)), .sc (.int .i64 ((cel 2 (cel 0 r4.parts).cells).toInt)), .sc (.int .i64 ((cel 3 (cel 0 r4.parts).cells).toInt)), .sc (.string ((cel 4 (cel 0 r4.parts).cells).toStr)), .sc (.int .i64 ((cel 5 (cel 0 r4.parts).cells).toInt)), .sc (.int .i64 ((cel 6 (cel 0 r4.parts).cells).toInt)), .sc (.bool ((cel 7 (cel 0 r4.parts).cells).toBool)), .sc (.bool ((cel 8 (cel 0 r4.parts).cells).toBool)), .sc (.int .i64 ((cel 9 (cel 0 r4.parts).cells).toInt)), .sc (.int .i64 ((cel 10 (cel 0 r4.parts).cells).toInt)), .sc (.bool ((cel 11 (cel 0 r4.parts).cells).toBool)), .sc (.bool ((cel 12 (cel 0 r4.parts).cells).toBool)), .lst 14 ((cel 13 (cel 0 r4.parts).cells).len) ((cel 13 (cel 0 r4.parts).cells).at)]] : List PV)]]).bind fun r23 => if hasSh .bool r23 = true then
                                  some (.sc (.bool r23.toBool))
                                  else none) fun r24 =>
                                some (.sc (.bool r24.toBool))) fun r25 =>
                              Option.bind (α := PV) (
                                if r25.toBool = true then
                                  (D 11 []).bind fun r26 => if hasSh .bool r26 = true then
                                  some (.sc (.bool r26.toBool))
                                  else none
                                else
                                  some (.sc (.bool false))) fun r27 =>
                              some (.sc (.bool r27.toBool))
                            else
                              some (.sc (.bool false))
                          else
                            some (.sc (.bool false))
                          else none
                        else none
                      else none
                    else none
                  else none
                  else none
                else none
              else none
            else none
          else none
        else none
      else none
    else none
    else none :=
  (denI_eq k _ _).trans (by kernel_rfl)
-- oculus/oculuslaw23.alive
theorem f11_eq (k : Nat)  : D 11 [] =
  (D 12 [.sc (.string (⟨#[49, 45, 50, 45, 36, 65, 51, 42, 83, 85, 77, 40, 65, 49, 58, 66, 50, 41]⟩ : ByteArray))]).bind fun r1 => if hasSh (.tup [(.agg [(.int .i64), (.int .i64), (.int .i64), (.int .i64), .str, (.int .i64), (.int .i64), .bool, .bool, (.int .i64), (.int .i64), .bool, .bool, (.lst 14)]), (.int .i64)]) r1 = true then
  (D 12 [.sc (.string (⟨#[83, 85, 77, 40, 49]⟩ : ByteArray))]).bind fun r2 => if hasSh (.tup [(.agg [(.int .i64), (.int .i64), (.int .i64), (.int .i64), .str, (.int .i64), (.int .i64), .bool, .bool, (.int .i64), (.int .i64), .bool, .bool, (.lst 14)]), (.int .i64)]) r2 = true then
  (D 12 [.sc (.string (⟨#[65, 66, 83, 40, 49, 44, 50, 41]⟩ : ByteArray))]).bind fun r3 => if hasSh (.tup [(.agg [(.int .i64), (.int .i64), (.int .i64), (.int .i64), .str, (.int .i64), (.int .i64), .bool, .bool, (.int .i64), (.int .i64), .bool, .bool, (.lst 14)]), (.int .i64)]) r3 = true then
  Option.bind (α := PV) (
    if (((cel 1 r1.parts).toInt) == 0) = true then
      some (.sc (.bool (((cel 0 (cel 0 r1.parts).cells).toInt) == 6)))
    else
      some (.sc (.bool false))) fun r4 =>
  Option.bind (α := PV) (
    if r4.toBool = true then
      some (.sc (.bool (((cel 1 (cel 0 r1.parts).cells).toInt) == 2)))
    else
      some (.sc (.bool false))) fun r5 =>
  Option.bind (α := PV) (
    if r5.toBool = true then
      some (.sc (.bool (((cel 13 (cel 0 r1.parts).cells).len : Int) == 2)))
    else
      some (.sc (.bool false))) fun r6 =>
  Option.bind (α := PV) (
    if r6.toBool = true then
      Option.bind (α := PV) (
        Option.bind (α := PV) (
          if 0 < ((cel 13 (cel 0 r1.parts).cells).len : Int) then
            if hasSh (.agg [(.int .i64), (.int .i64), (.int .i64), (.int .i64), .str, (.int .i64), (.int .i64), .bool, .bool, (.int .i64), (.int .i64), .bool, .bool, (.lst 14)]) (((cel 13 (cel 0 r1.parts).cells).at) 0) = true then
              some (.sc (.bool (((cel 1 (((cel 13 (cel 0 r1.parts).cells).at) 0).cells).toInt) == 2)))
            else none
          else none) fun r7 =>
        some (.sc (.bool r7.toBool))) fun r8 =>
      some (.sc (.bool r8.toBool))
    else
      some (.sc (.bool false))) fun r9 =>
  Option.bind (α := PV) (
    if r9.toBool = true then
      Option.bind (α := PV) (
        Option.bind (α := PV) (
          if 1 < ((cel 13 (cel 0 r1.parts).cells).len : Int) then
            if hasSh (.agg [(.int .i64), (.int .i64), (.int .i64), (.int .i64), .str, (.int .i64), (.int .i64), .bool, .bool, (.int .i64), (.int .i64), .bool, .bool, (.lst 14)]) (((cel 13 (cel 0 r1.parts).cells).at) 1) = true then
              some (.sc (.bool (((cel 1 (((cel 13 (cel 0 r1.parts).cells).at) 1).cells).toInt) == 3)))
            else none
          else none) fun r10 =>
        some (.sc (.bool r10.toBool))) fun r11 =>
      some (.sc (.bool r11.toBool))
    else
      some (.sc (.bool false))) fun r12 =>
  Option.bind (α := PV) (
    if r12.toBool = true then
      Option.bind (α := PV) (
        Option.bind (α := PV) (
          if 1 < ((cel 13 (cel 0 r1.parts).cells).len : Int) then
            if hasSh (.agg [(.int .i64), (.int .i64), (.int .i64), (.int .i64), .str, (.int .i64), (.int .i64), .bool, .bool, (.int .i64), (.int .i64), .bool, .bool, (.lst 14)]) (((cel 13 (cel 0 r1.parts).cells).at) 1) = true then
              Option.bind (α := PV) (
                Option.bind (α := PV) (
                  Option.bind (α := PV) (
                    if 0 < ((cel 13 (((cel 13 (cel 0 r1.parts).cells).at) 1).cells).len : Int) then
                      if hasSh (.agg [(.int .i64), (.int .i64), (.int .i64), (.int .i64), .str, (.int .i64), (.int .i64), .bool, .bool, (.int .i64), (.int .i64), .bool, .bool, (.lst 14)]) (((cel 13 (((cel 13 (cel 0 r1.parts).cells).at) 1).cells).at) 0) = true then
                        some (.sc (.bool ((((cel 5 (((cel 13 (((cel 13 (cel 0 r1.parts).cells).at) 1).cells).at) 0).cells).toInt) == 2) && ((((cel 6 (((cel 13 (((cel 13 (cel 0 r1.parts).cells).at) 1).cells).at) 0).cells).toInt) == 0) && ((((cel 7 (((cel 13 (((cel 13 (cel 0 r1.parts).cells).at) 1).cells).at) 0).cells).toBool) == false) && ((((cel 8 (((cel 13 (((cel 13 (cel 0 r1.parts).cells).at) 1).cells).at) 0).cells).toBool) == true) && true))))))
                      else none
                    else none) fun r13 =>
                  some (.sc (.bool r13.toBool))) fun r14 =>
                some (.sc (.bool r14.toBool))) fun r15 =>
              some (.sc (.bool r15.toBool))
            else none
          else none) fun r16 =>
        some (.sc (.bool r16.toBool))) fun r17 =>
      some (.sc (.bool r17.toBool))
    else
      some (.sc (.bool false))) fun r18 =>
  Option.bind (α := PV) (
    if r18.toBool = true then
      Option.bind (α := PV) (
        Option.bind (α := PV) (
          if 1 < ((cel 13 (cel 0 r1.parts).cells).len : Int) then
            if hasSh (.agg [(.int .i64), (.int .i64), (.int .i64), (.int .i64), .str, (.int .i64), (.int .i64), .bool, .bool, (.int .i64), (.int .i64), .bool, .bool, (.lst 14)]) (((cel 13 (cel 0 r1.parts).cells).at) 1) = true then
              Option.bind (α := PV) (
                Option.bind (α := PV) (
                  Option.bind (α := PV) (
                    if 1 < ((cel 13 (((cel 13 (cel 0 r1.parts).cells).at) 1).cells).len : Int) then
                      if hasSh (.agg [(.int .i64), (.int .i64), (.int .i64), (.int .i64), .str, (.int .i64), (.int .i64), .bool, .bool, (.int .i64), (.int .i64), .bool, .bool, (.lst 14)]) (((cel 13 (((cel 13 (cel 0 r1.parts).cells).at) 1).cells).at) 1) = true then
                        some (.sc (.bool (((cel 1 (((cel 13 (((cel 13 (cel 0 r1.parts).cells).at) 1).cells).at) 1).cells).toInt) == 67)))
                      else none
                    else none) fun r19 =>
                  some (.sc (.bool r19.toBool))) fun r20 =>
                some (.sc (.bool r20.toBool))) fun r21 =>
              some (.sc (.bool r21.toBool))
            else none
          else none) fun r22 =>
        some (.sc (.bool r22.toBool))) fun r23 =>
      some (.sc (.bool r23.toBool))
    else
      some (.sc (.bool false))) fun r24 =>
  Option.bind (α := PV) (
    if r24.toBool = true then
      Option.bind (α := PV) (
        Option.bind (α := PV) (
          if 1 < ((cel 13 (cel 0 r1.parts).cells).len : Int) then
            if hasSh (.agg [(.int .i64), (.int .i64), (.int .i64), (.int .i64), .str, (.int .i64), (.int .i64), .bool, .bool, (.int .i64), (.int .i64), .bool, .bool, (.lst 14)]) (((cel 13 (cel 0 r1.parts).cells).at) 1) = true then
              Option.bind (α := PV) (
                Option.bind (α := PV) (
                  Option.bind (α := PV) (
                    if 1 < ((cel 13 (((cel 13 (cel 0 r1.parts).cells).at) 1).cells).len : Int) then
                      if hasSh (.agg [(.int .i64), (.int .i64), (.int .i64), (.int .i64), .str, (.int .i64), (.int .i64), .bool, .bool, (.int .i64), (.int .i64), .bool, .bool, (.lst 14)]) (((cel 13 (((cel 13 (cel 0 r1.parts).cells).at) 1).cells).at) 1) = true then
                        Option.bind (α := PV) (
                          Option.bind (α := PV) (
                            Option.bind (α := PV) (
                              if 0 < ((cel 13 (((cel 13 (((cel 13 (cel 0 r1.parts).cells).at) 1).cells).at) 1).cells).len : Int) then
                                if hasSh (.agg [(.int .i64), (.int .i64), (.int .i64), (.int .i64), .str, (.int .i64), (.int .i64), .bool, .bool, (.int .i64), (.int .i64), .bool, .bool, (.lst 14)]) (((cel 13 (((cel 13 (((cel 13 (cel 0 r1.parts).cells).at) 1).cells).at) 1).cells).at) 0) = true then
                                  some (.sc (.bool (((cel 0 (((cel 13 (((cel 13 (((cel 13 (cel 0 r1.parts).cells).at) 1).cells).at) 1).cells).at) 0).cells).toInt) == 4)))
                                else none
                              else none) fun r25 =>
                            some (.sc (.bool r25.toBool))) fun r26 =>
                          some (.sc (.bool r26.toBool))) fun r27 =>
                        some (.sc (.bool r27.toBool))
                      else none
                    else none) fun r28 =>
                  some (.sc (.bool r28.toBool))) fun r29 =>
                some (.sc (.bool r29.toBool))) fun r30 =>
              some (.sc (.bool r30.toBool))
            else none
          else none) fun r31 =>
        some (.sc (.bool r31.toBool))) fun r32 =>
      some (.sc (.bool r32.toBool))
    else
      some (.sc (.bool false))) fun r33 =>
  Option.bind (α := PV) (
    if r33.toBool = true then
      some (.sc (.bool (((cel 1 r2.parts).toInt) == 1)))
    else
      some (.sc (.bool false))) fun r34 =>
  Option.bind (α := PV) (
    if r34.toBool = true then
      some (.sc (.bool (((cel 1 r3.parts).toInt) == 6)))
    else
      some (.sc (.bool false))) fun r35 =>
  some (.sc (.bool r35.toBool))
  else none
  else none
  else none :=
  (denI_eq k _ _).trans (by kernel_rfl)
-- oculus/parse.Parse
theorem f12_eq (k : Nat) (s_ : ByteArray) : D 12 [.sc (.string s_)] =
  (D 40 [.sc (.string s_)]).bind fun r1 => if hasSh (.tup [(.lst 4), (.int .i64), (.int .i64)]) r1 = true then
  if (((cel 2 r1.parts).toInt) != 0) = true then
    some (.tup [.agg [.sc (.int .i64 0), .sc (.int .i64 0), .sc (.int .i64 0), .sc (.int .i64 0), .sc (.string (⟨#[]⟩ : ByteArray)), .sc (.int .i64 0), .sc (.int .i64 0), .sc (.bool false), .sc (.bool false), .sc (.int .i64 0), .sc (.int .i64 0), .sc (.bool false), .sc (.bool false), .nils], .sc (.int .i64 ((cel 2 r1.parts).toInt))])
  else
    (D 41 [.hp [.iptr (.ptr 67 0 :: [.lst 4 ((cel 0 r1.parts).len) ((cel 0 r1.parts).at), .sc (.int .i64 0), .sc (.bool false)])], .ptr 0 0, .sc (.int .i64 1)]).bind fun r2 => if (isHand r2 && (false || objsOk fo41 (handObjs r2)) && retOk Tryz.prog 6 [29] (handRet r2)) = true then
    if (hCell 0 2 r2).toBool = true then
      some (.tup [.agg [.sc (.int .i64 0), .sc (.int .i64 0), .sc (.int .i64 0), .sc (.int .i64 0), .sc (.string (⟨#[]⟩ : ByteArray)), .sc (.int .i64 0), .sc (.int .i64 0), .sc (.bool false), .sc (.bool false), .sc (.int .i64 0), .sc (.int .i64 0), .sc (.bool false), .sc (.bool false), .nils], .sc (.int .i64 1)])
    else
      (D 42 [.hp [.iptr (.ptr 67 0 :: [.lst 4 ((hCell 0 0 r2).len) ((hCell 0 0 r2).at), .sc (.int .i64 ((hCell 0 1 r2).toInt)), .sc (.bool ((hCell 0 2 r2).toBool))])], .ptr 0 0]).bind fun r3 => if (isHand r3 && (false || objsOk fo42 (handObjs r3)) && retOk Tryz.prog 6 [70] (handRet r3)) = true then
      if (((cel 0 (handRet r3).cells).toInt) != 5) = true then
        some (.tup [.agg [.sc (.int .i64 0), .sc (.int .i64 0), .sc (.int .i64 0), .sc (.int .i64 0), .sc (.string (⟨#[]⟩ : ByteArray)), .sc (.int .i64 0), .sc (.int .i64 0), .sc (.bool false), .sc (.bool false), .sc (.int .i64 0), .sc (.int .i64 0), .sc (.bool false), .sc (.bool false), .nils], .sc (.int .i64 1)])
      else
        (D 43 [.agg [.sc (.int .i64 ((cel 0 (handRet r2).cells).toInt)), .sc (.int .i64 ((cel 1 (handRet r2).cells).toInt)), .sc (.int .i64 ((cel 2 (handRet r2).cells).toInt)), .sc (.int .i64 ((cel 3 (handRet r2).cells).toInt)), .sc (.string ((cel 4 (handRet r2).cells).toStr)), .sc (.int .i64 ((cel 5 (handRet r2).cells).toInt)), .sc (.int .i64 ((cel 6 (handRet r2).cells).toInt)), .sc (.bool ((cel 7 (handRet r2).cells).toBool)), .sc (.bool ((cel 8 (handRet r2).cells).toBool)), .sc (.int .i64 ((cel 9 (handRet r2).cells).toInt)), .sc (.int .i64 ((cel 10 (handRet r2).cells).toInt)), .sc (.bool ((cel 11 (handRet r2).cells).toBool)), .sc (.bool ((cel 12 (handRet r2).cells).toBool)), .lst 14 ((cel 13 (handRet r2).cells).len) ((cel 13 (handRet r2).cells).at)]]).bind fun r4 => if hasSh .bool r4 = true then
        if (!r4.toBool) = true then
          some (.tup [.agg [.sc (.int .i64 0), .sc (.int .i64 0), .sc (.int .i64 0), .sc (.int .i64 0), .sc (.string (⟨#[]⟩ : ByteArray)), .sc (.int .i64 0), .sc (.int .i64 0), .sc (.bool false), .sc (.bool false), .sc (.int .i64 0), .sc (.int .i64 0), .sc (.bool false), .sc (.bool false), .nils], .sc (.int .i64 6)])
        else
          (D 44 [.agg [.sc (.int .i64 ((cel 0 (handRet r2).cells).toInt)), .sc (.int .i64 ((cel 1 (handRet r2).cells).toInt)), .sc (.int .i64 ((cel 2 (handRet r2).cells).toInt)), .sc (.int .i64 ((cel 3 (handRet r2).cells).toInt)), .sc (.string ((cel 4 (handRet r2).cells).toStr)), .sc (.int .i64 ((cel 5 (handRet r2).cells).toInt)), .sc (.int .i64 ((cel 6 (handRet r2).cells).toInt)), .sc (.bool ((cel 7 (handRet r2).cells).toBool)), .sc (.bool ((cel 8 (handRet r2).cells).toBool)), .sc (.int .i64 ((cel 9 (handRet r2).cells).toInt)), .sc (.int .i64 ((cel 10 (handRet r2).cells).toInt)), .sc (.bool ((cel 11 (handRet r2).cells).toBool)), .sc (.bool ((cel 12 (handRet r2).cells).toBool)), .lst 14 ((cel 13 (handRet r2).cells).len) ((cel 13 (handRet r2).cells).at)]]).bind fun r5 => if hasSh (.int .i64) r5 = true then
          if decide (r5.toInt > 12) = true then
            some (.tup [.agg [.sc (.int .i64 0), .sc (.int .i64 0), .sc (.int .i64 0), .sc (.int .i64 0), .sc (.string (⟨#[]⟩ : ByteArray)), .sc (.int .i64 0), .sc (.int .i64 0), .sc (.bool false), .sc (.bool false), .sc (.int .i64 0), .sc (.int .i64 0), .sc (.bool false), .sc (.bool false), .nils], .sc (.int .i64 4)])
          else
            some (.tup [.agg [.sc (.int .i64 ((cel 0 (handRet r2).cells).toInt)), .sc (.int .i64 ((cel 1 (handRet r2).cells).toInt)), .sc (.int .i64 ((cel 2 (handRet r2).cells).toInt)), .sc (.int .i64 ((cel 3 (handRet r2).cells).toInt)), .sc (.string ((cel 4 (handRet r2).cells).toStr)), .sc (.int .i64 ((cel 5 (handRet r2).cells).toInt)), .sc (.int .i64 ((cel 6 (handRet r2).cells).toInt)), .sc (.bool ((cel 7 (handRet r2).cells).toBool)), .sc (.bool ((cel 8 (handRet r2).cells).toBool)), .sc (.int .i64 ((cel 9 (handRet r2).cells).toInt)), .sc (.int .i64 ((cel 10 (handRet r2).cells).toInt)), .sc (.bool ((cel 11 (handRet r2).cells).toBool)), .sc (.bool ((cel 12 (handRet r2).cells).toBool)), .lst 14 ((cel 13 (handRet r2).cells).len) ((cel 13 (handRet r2).cells).at)], .sc (.int .i64 0)])
          else none
        else none
      else none
    else none
  else none :=
  (denI_eq k _ _).trans (by kernel_rfl)
-- oculus/lex.Lex
noncomputable def f40.l0a (k : Nat) (s_ : ByteArray) (at_ : Int) : Option PV := loopAt Tryz.prog cf ext hint k 40 [1, 1, 1, 0, 1, 0] ⟨[.sc (.string s_), .top, .top, .top, .top, .nils, .sc (.int .i64 at_), .top, .top, .top, .top, .top, .top, .top, .top, .top, .top, .top, .top, .top, .top, .top, .top, .top, .top, .top, .top, .top, .top, .top, .top, .top, .top, .top, .top, .top, .top, .top, .top, .top, .top, .top, .top, .top, .top, .top, .top], [], none⟩
noncomputable def f40.l0b (k : Nat) (s_ : ByteArray) (at_ : Int) (out : List PV) : Option PV := loopAt Tryz.prog cf ext hint k 40 [1, 1, 1, 0, 1, 0] ⟨[.sc (.string s_), .top, .top, .top, .top, .buf 0 0, .sc (.int .i64 at_), .top, .top, .top, .top, .top, .top, .top, .top, .top, .top, .top, .top, .top, .top, .top, .top, .top, .top, .top, .top, .top, .top, .top, .top, .top, .top, .top, .top, .top, .top, .top, .top, .top, .top, .top, .top, .top, .top, .top, .top], [.buf 70 0 out], none⟩
theorem f40_eq (k : Nat) (s_ : ByteArray) : D 40 [.sc (.string s_)] =
  if decide ((s_.size : Int) > 200) = true then
    some (.tup [.lst 4 0 (fun _ => .top), .sc (.int .i64 0), .sc (.int .i64 3)])
  else
    f40.l0a k s_ 0 :=
  (denI_eq k _ _).trans (by kernel_rfl)
theorem f40.l0a_eq (k : Nat) (s_ : ByteArray) (at_ : Int) : f40.l0a k s_ at_ =
  if decide (at_ < (s_.size : Int)) = true then
    if 0 ≤ at_ then
      if at_ < (s_.size : Int) then
        if ((bt s_ at_) == 32) = true then
          f40.l0a k s_ (IntKind.i64.wrap (at_ + 1))
        else
          if 0 ≤ (s_.size : Int) then
            if (s_.size : Int) ≤ (s_.size : Int) then
              if 0 ≤ at_ then
                if at_ ≤ (s_.size : Int) then
                  (D 78 [.sc (.string (s_.extract at_.toNat (s_.size : Int).toNat))]).bind fun r1 => if hasSh (.tup [(.agg [(.int .i64), (.int .i64), .str, (.int .i64)]), (.int .i64)]) r1 = true then
                  if (((cel 1 r1.parts).toInt) == 0) = true then
                    some (.tup [.lst 4 0 (fun _ => .top), .sc (.int .i64 at_), .sc (.int .i64 1)])
                  else
                    if ([.agg [.sc (.int .i64 ((cel 0 (cel 0 r1.parts).cells).toInt)), .sc (.int .i64 at_), .sc (.string ((cel 2 (cel 0 r1.parts).cells).toStr)), .sc (.int .i64 ((cel 3 (cel 0 r1.parts).cells).toInt))]] : List PV).length * 40 ≤ 140737488355328 ∧ ([.agg [.sc (.int .i64 ((cel 0 (cel 0 r1.parts).cells).toInt)), .sc (.int .i64 at_), .sc (.string ((cel 2 (cel 0 r1.parts).cells).toStr)), .sc (.int .i64 ((cel 3 (cel 0 r1.parts).cells).toInt))]] : List PV).length ≤ 140737488355328 then
                      f40.l0b k s_ (IntKind.i64.wrap (at_ + ((cel 1 r1.parts).toInt))) ([.agg [.sc (.int .i64 ((cel 0 (cel 0 r1.parts).cells).toInt)), .sc (.int .i64 at_), .sc (.string ((cel 2 (cel 0 r1.parts).cells).toStr)), .sc (.int .i64 ((cel 3 (cel 0 r1.parts).cells).toInt))]] : List PV)
                    else none
                  else none
                else none
              else none
            else none
          else none
      else none
    else none
  else
    if ([.agg [.sc (.int .i64 5), .sc (.int .i64 (s_.size : Int)), .sc (.string (⟨#[]⟩ : ByteArray)), .sc (.int .i64 0)]] : List PV).length * 40 ≤ 140737488355328 ∧ ([.agg [.sc (.int .i64 5), .sc (.int .i64 (s_.size : Int)), .sc (.string (⟨#[]⟩ : ByteArray)), .sc (.int .i64 0)]] : List PV).length ≤ 140737488355328 then
      some (.tup [frozen 4 ([.agg [.sc (.int .i64 5), .sc (.int .i64 (s_.size : Int)), .sc (.string (⟨#[]⟩ : ByteArray)), .sc (.int .i64 0)]] : List PV), .sc (.int .i64 0), .sc (.int .i64 0)])
    else none :=
  (loopAt_eq _ _ _ _).trans (by kernel_rfl)
theorem f40.l0b_eq (k : Nat) (s_ : ByteArray) (at_ : Int) (out : List PV) : f40.l0b k s_ at_ out =
  if decide (at_ < (s_.size : Int)) = true then
    if 0 ≤ at_ then
      if at_ < (s_.size : Int) then
        if ((bt s_ at_) == 32) = true then
          f40.l0b k s_ (IntKind.i64.wrap (at_ + 1)) out
        else
          if 0 ≤ (s_.size : Int) then
            if (s_.size : Int) ≤ (s_.size : Int) then
              if 0 ≤ at_ then
                if at_ ≤ (s_.size : Int) then
                  (D 78 [.sc (.string (s_.extract at_.toNat (s_.size : Int).toNat))]).bind fun r2 => if hasSh (.tup [(.agg [(.int .i64), (.int .i64), .str, (.int .i64)]), (.int .i64)]) r2 = true then
                  if (((cel 1 r2.parts).toInt) == 0) = true then
                    some (.tup [.lst 4 0 (fun _ => .top), .sc (.int .i64 at_), .sc (.int .i64 1)])
                  else
                    if (out.length + ([.agg [.sc (.int .i64 ((cel 0 (cel 0 r2.parts).cells).toInt)), .sc (.int .i64 at_), .sc (.string ((cel 2 (cel 0 r2.parts).cells).toStr)), .sc (.int .i64 ((cel 3 (cel 0 r2.parts).cells).toInt))]] : List PV).length) * 40 ≤ 140737488355328 ∧ out.length + ([.agg [.sc (.int .i64 ((cel 0 (cel 0 r2.parts).cells).toInt)), .sc (.int .i64 at_), .sc (.string ((cel 2 (cel 0 r2.parts).cells).toStr)), .sc (.int .i64 ((cel 3 (cel 0 r2.parts).cells).toInt))]] : List PV).length ≤ 140737488355328 then
                      f40.l0b k s_ (IntKind.i64.wrap (at_ + ((cel 1 r2.parts).toInt))) (out ++ ([.agg [.sc (.int .i64 ((cel 0 (cel 0 r2.parts).cells).toInt)), .sc (.int .i64 at_), .sc (.string ((cel 2 (cel 0 r2.parts).cells).toStr)), .sc (.int .i64 ((cel 3 (cel 0 r2.parts).cells).toInt))]] : List PV))
                    else none
                  else none
                else none
              else none
            else none
          else none
      else none
    else none
  else
    if (out.length + ([.agg [.sc (.int .i64 5), .sc (.int .i64 (s_.size : Int)), .sc (.string (⟨#[]⟩ : ByteArray)), .sc (.int .i64 0)]] : List PV).length) * 40 ≤ 140737488355328 ∧ out.length + ([.agg [.sc (.int .i64 5), .sc (.int .i64 (s_.size : Int)), .sc (.string (⟨#[]⟩ : ByteArray)), .sc (.int .i64 0)]] : List PV).length ≤ 140737488355328 then
      some (.tup [frozen 4 (out ++ ([.agg [.sc (.int .i64 5), .sc (.int .i64 (s_.size : Int)), .sc (.string (⟨#[]⟩ : ByteArray)), .sc (.int .i64 0)]] : List PV)), .sc (.int .i64 0), .sc (.int .i64 0)])
    else none :=
  (loopAt_eq _ _ _ _).trans (by kernel_rfl)
end EB
end Go.Den
