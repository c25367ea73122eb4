import Derived.Test.YtbkdoeghgdbjlaaGreatDoorECh
import Derived.KernelRfl
set_option maxRecDepth 100000
set_option linter.unusedVariables false
namespace Go.Den
open Go Go.Proofs
namespace EC
-- oculus/reply.Changes
theorem f24_eq (k : Nat) (n_ : Int) (ln : Nat) (lf : Nat → PV) : D 24 [.sc (.int .i64 n_), .lst 10 ln lf] =
  (D 75 [.sc (.int .i64 n_)]).bind fun r1 => if hasSh .str r1 = true then
  if 8 + r1.toStr.size ≤ 9223372036854775807 then
    (D 74 [.sc (.string ((⟨#[99, 104, 97, 110, 103, 101, 115, 32]⟩ : ByteArray) ++ r1.toStr)), .lst 10 ln lf]).bind fun r2 => if hasSh .str r2 = true then
    some (.sc (.string r2.toStr))
    else none
  else none
  else none :=
  (denI_eq k _ _).trans (by kernel_rfl)
-- oculus/oculusref45.Done
theorem f25_eq (k : Nat) (ln : Nat) (lf : Nat → PV) : D 25 [.lst 10 ln lf] =
  (D 76 [.sc (.string (⟨#[111, 107]⟩ : ByteArray)), .lst 10 ln lf]).bind fun r1 => if hasSh .str r1 = true then
  some (.sc (.string r1.toStr))
  else none :=
  (denI_eq k _ _).trans (by kernel_rfl)
-- oculus/oculusref45.lines
noncomputable def f76.l0a (k : Nat) (head : ByteArray) (ln : Nat) (lf : Nat → PV) (i : Int) : Option PV := loopAt Tryz.prog cf ext hint k 76 [1, 0, 1, 0] ⟨[.sc (.string head), .lst 10 ln lf, .top, .top, .top, .sc (.int .i64 i), .top, .top, .top, .top, .top, .top, .top, .top, .top, .top, .top, .top, .top, .top, .top], [], none⟩
theorem f76_eq (k : Nat) (head : ByteArray) (ln : Nat) (lf : Nat → PV) : D 76 [.sc (.string head), .lst 10 ln lf] =
  f76.l0a k head ln lf 0 :=
  (denI_eq k _ _).trans (by kernel_rfl)
theorem f76.l0a_eq (k : Nat) (head : ByteArray) (ln : Nat) (lf : Nat → PV) (i : Int) : f76.l0a k head ln lf i =
  if decide (i < (ln : Int)) = true then
    if head.size + 1 ≤ 9223372036854775807 then
      if 0 ≤ i then
        if i < (ln : Int) then
          if hasSh (.agg [(.int .i64), (.int .i64), .bool, (.int .i64), (.int .i64), .str, .bool, (.int .i64), (.int .i64), .str]) (lf i.toNat) = true then
            (D 113 [.agg [.sc (.int .i64 ((cel 0 (lf i.toNat).cells).toInt)), .sc (.int .i64 ((cel 1 (lf i.toNat).cells).toInt)), .sc (.bool ((cel 2 (lf i.toNat).cells).toBool)), .sc (.int .i64 ((cel 3 (lf i.toNat).cells).toInt)), .sc (.int .i64 ((cel 4 (lf i.toNat).cells).toInt)), .sc (.string ((cel 5 (lf i.toNat).cells).toStr)), .sc (.bool ((cel 6 (lf i.toNat).cells).toBool)), .sc (.int .i64 ((cel 7 (lf i.toNat).cells).toInt)), .sc (.int .i64 ((cel 8 (lf i.toNat).cells).toInt)), .sc (.string ((cel 9 (lf i.toNat).cells).toStr))]]).bind fun r1 => if hasSh .str r1 = true then
            if (head ++ (⟨#[10]⟩ : ByteArray)).size + r1.toStr.size ≤ 9223372036854775807 then
              f76.l0a k ((head ++ (⟨#[10]⟩ : ByteArray)) ++ r1.toStr) ln lf (IntKind.i64.wrap (i + 1))
            else none
            else none
          else none
        else none
      else none
    else none
  else
    some (.sc (.string head)) :=
  (loopAt_eq _ _ _ _).trans (by kernel_rfl)
-- oculus/oculusref41.Text
theorem f113_eq (k : Nat) (c c_1 : Int) (c_2 : Bool) (c_3 c_4 : Int) (c_5 : ByteArray) (c_6 : Bool) (c_7 c_8 : Int) (c_9 : ByteArray) : D 113 [.agg [.sc (.int .i64 c), .sc (.int .i64 c_1), .sc (.bool c_2), .sc (.int .i64 c_3), .sc (.int .i64 c_4), .sc (.string c_5), .sc (.bool c_6), .sc (.int .i64 c_7), .sc (.int .i64 c_8), .sc (.string c_9)]] =
  if c_2 = true then
    (D 80 [.agg [.sc (.int .i64 c_3), .sc (.int .i64 c_4), .sc (.string c_5), .sc (.bool c_6), .sc (.int .i64 c_7), .sc (.int .i64 c_8), .sc (.string c_9)]]).bind fun r1 => if hasSh .str r1 = true then
    some (.sc (.string r1.toStr))
    else none
  else
    (D 118 [.agg [.sc (.int .i64 c), .sc (.int .i64 c_1)]]).bind fun r2 => if hasSh .str r2 = true then
    if r2.toStr.size + 5 ≤ 9223372036854775807 then
      some (.sc (.string (r2.toStr ++ (⟨#[32, 103, 111, 110, 101]⟩ : ByteArray))))
    else none
    else none :=
  (denI_eq k _ _).trans (by kernel_rfl)
-- oculus/oculusref40.Text
theorem f80_eq (k : Nat) (r r_1 : Int) (r_2 : ByteArray) (r_3 : Bool) (r_4 r_5 : Int) (r_6 : ByteArray) : D 80 [.agg [.sc (.int .i64 r), .sc (.int .i64 r_1), .sc (.string r_2), .sc (.bool r_3), .sc (.int .i64 r_4), .sc (.int .i64 r_5), .sc (.string r_6)]] =
  (D 118 [.agg [.sc (.int .i64 r), .sc (.int .i64 r_1)]]).bind fun r1 => if hasSh .str r1 = true then
  if r1.toStr.size + 1 ≤ 9223372036854775807 then
    if (r1.toStr ++ (⟨#[32]⟩ : ByteArray)).size + r_2.size ≤ 9223372036854775807 then
      if ((r1.toStr ++ (⟨#[32]⟩ : ByteArray)) ++ r_2).size + 3 ≤ 9223372036854775807 then
        if r_3 = true then
          if (((r1.toStr ++ (⟨#[32]⟩ : ByteArray)) ++ r_2) ++ (⟨#[32, 61, 32]⟩ : ByteArray)).size + 1 ≤ 9223372036854775807 then
            some (.sc (.string ((((r1.toStr ++ (⟨#[32]⟩ : ByteArray)) ++ r_2) ++ (⟨#[32, 61, 32]⟩ : ByteArray)) ++ (⟨#[63]⟩ : ByteArray))))
          else none
        else
          (D 18 [.agg [.sc (.int .i64 r_4), .sc (.int .i64 r_5), .sc (.string r_6)]]).bind fun r2 => if hasSh .str r2 = true then
          if (((r1.toStr ++ (⟨#[32]⟩ : ByteArray)) ++ r_2) ++ (⟨#[32, 61, 32]⟩ : ByteArray)).size + r2.toStr.size ≤ 9223372036854775807 then
            some (.sc (.string ((((r1.toStr ++ (⟨#[32]⟩ : ByteArray)) ++ r_2) ++ (⟨#[32, 61, 32]⟩ : ByteArray)) ++ r2.toStr)))
          else none
          else none
      else none
    else none
  else none
  else none :=
  (denI_eq k _ _).trans (by kernel_rfl)
-- oculus/oculusref12.Show
theorem f18_eq (k : Nat) (v_ v__1 : Int) (v__2 : ByteArray) : D 18 [.agg [.sc (.int .i64 v_), .sc (.int .i64 v__1), .sc (.string v__2)]] =
  if (v_ == 2) = true then
    (D 20 [.sc (.string v__2)]).bind fun r1 => if hasSh .str r1 = true then
    some (.sc (.string r1.toStr))
    else none
  else
    if (v_ == 4) = true then
      (D 72 [.sc (.int .i64 v__1)]).bind fun r2 => if hasSh .str r2 = true then
      some (.sc (.string r2.toStr))
      else none
    else
      (D 69 [.agg [.sc (.int .i64 v_), .sc (.int .i64 v__1), .sc (.string v__2)]]).bind fun r3 => if hasSh .str r3 = true then
      some (.sc (.string r3.toStr))
      else none :=
  (denI_eq k _ _).trans (by kernel_rfl)
-- oculus/oculusref12.Quote
noncomputable def f20.l0a (k : Nat) (t : ByteArray) (i : Int) (out : List PV) : Option PV := loopAt Tryz.prog cf ext hint k 20 [1, 1, 0, 1, 0] ⟨[.sc (.string t), .top, .top, .buf 0 0, .sc (.int .i64 i), .top, .top, .top, .top, .top, .top, .top, .top, .top, .top, .top, .top, .top, .top, .top, .top, .top, .top, .top, .top, .top, .top, .top, .top, .top], [.buf 5 0 out], none⟩
theorem f20_eq (k : Nat) (t : ByteArray) : D 20 [.sc (.string t)] =
  f20.l0a k t 0 ([.sc (.int .u8 34)] : List PV) :=
  (denI_eq k _ _).trans (by kernel_rfl)
theorem f20.l0a_eq (k : Nat) (t : ByteArray) (i : Int) (out : List PV) : f20.l0a k t i out =
  if decide (i < (t.size : Int)) = true then
    if 0 ≤ i then
      if i < (t.size : Int) then
        if ((bt t i) == 34) = true then
          if (out.length + ([.sc (.int .u8 34)] : List PV).length) * 1 ≤ 140737488355328 ∧ out.length + ([.sc (.int .u8 34)] : List PV).length ≤ 140737488355328 then
            if 0 ≤ i then
              if i < (t.size : Int) then
                if ((out ++ ([.sc (.int .u8 34)] : List PV)).length + ([.sc (.int .u8 (bt t i))] : List PV).length) * 1 ≤ 140737488355328 ∧ (out ++ ([.sc (.int .u8 34)] : List PV)).length + ([.sc (.int .u8 (bt t i))] : List PV).length ≤ 140737488355328 then
                  f20.l0a k t (IntKind.i64.wrap (i + 1)) ((out ++ ([.sc (.int .u8 34)] : List PV)) ++ ([.sc (.int .u8 (bt t i))] : List PV))
                else none
              else none
            else none
          else none
        else
          if 0 ≤ i then
            if i < (t.size : Int) then
              if (out.length + ([.sc (.int .u8 (bt t i))] : List PV).length) * 1 ≤ 140737488355328 ∧ out.length + ([.sc (.int .u8 (bt t i))] : List PV).length ≤ 140737488355328 then
                f20.l0a k t (IntKind.i64.wrap (i + 1)) (out ++ ([.sc (.int .u8 (bt t i))] : List PV))
              else none
            else none
          else none
      else none
    else none
  else
    if (out.length + ([.sc (.int .u8 34)] : List PV).length) * 1 ≤ 140737488355328 ∧ out.length + ([.sc (.int .u8 34)] : List PV).length ≤ 140737488355328 then
      if (out ++ ([.sc (.int .u8 34)] : List PV)).all (hasSh (.int .u8)) = true then
        some (.sc (.string (bytesOf (out ++ ([.sc (.int .u8 34)] : List PV)))))
      else none
    else none :=
  (loopAt_eq _ _ _ _).trans (by kernel_rfl)
-- oculus/oculusref12.Words
theorem f69_eq (k : Nat) (v_ v__1 : Int) (v__2 : ByteArray) : D 69 [.agg [.sc (.int .i64 v_), .sc (.int .i64 v__1), .sc (.string v__2)]] =
  if (v_ == 1) = true then
    (D 92 [.sc (.int .i64 v__1)]).bind fun r1 => if hasSh .str r1 = true then
    some (.sc (.string r1.toStr))
    else none
  else
    Option.bind (α := PV) (
      if (v_ == 3) = true then
        some (.sc (.bool (v__1 == 1)))
      else
        some (.sc (.bool false))) fun r2 =>
    if r2.toBool = true then
      some (.sc (.string (⟨#[84, 82, 85, 69]⟩ : ByteArray)))
    else
      if (v_ == 3) = true then
        some (.sc (.string (⟨#[70, 65, 76, 83, 69]⟩ : ByteArray)))
      else
        some (.sc (.string v__2)) :=
  (denI_eq k _ _).trans (by kernel_rfl)
-- oculus/oculusref11.Text
noncomputable def f92.j0a (k : Nat) (n_ : Int) (s_ : ByteArray) : Option PV := gateK k (placeAt Tryz.prog cf ext hint k 92 [1, 1, 1, 1, 1]) ⟨[.top, .top, .top, .sc (.int .u64 n_), .sc (.string s_), .top, .top, .top, .top, .top, .top, .top, .top, .top, .top, .top, .top, .top, .top, .top, .top, .top, .top, .top, .top, .top, .top, .top, .top, .top, .top, .top, .top, .top, .top], [], none⟩
noncomputable def f92.j1a (k : Nat) (s_ : ByteArray) (rest : Int) : Option PV := gateK k (placeAt Tryz.prog cf ext hint k 92 [1, 1, 1, 1, 1, 1, 1]) ⟨[.top, .top, .top, .top, .sc (.string s_), .sc (.int .u64 rest), .top, .top, .top, .top, .top, .top, .top, .top, .top, .top, .top, .top, .top, .top, .top, .top, .top, .top, .top, .top, .top, .top, .top, .top, .top, .top, .top, .top, .top], [], none⟩
noncomputable def f92.l2a (k : Nat) (s_ : ByteArray) (rest : Int) : Option PV := loopAt Tryz.prog cf ext hint k 92 [1, 1, 1, 1, 1, 1, 1, 0, 0] ⟨[.top, .top, .top, .top, .sc (.string s_), .sc (.int .u64 rest), .top, .top, .top, .top, .top, .top, .top, .top, .top, .top, .top, .top, .top, .top, .top, .top, .top, .top, .top, .top, .top, .top, .top, .top, .top, .top, .top, .top, .top], [], none⟩
theorem f92_eq (k : Nat) (x_ : Int) : D 92 [.sc (.int .i64 x_)] =
  (D 56 [.sc (.int .i64 x_)]).bind fun r1 => if hasSh .bool r1 = true then
  if (!r1.toBool) = true then
    some (.sc (.string (⟨#[]⟩ : ByteArray)))
  else
    (D 132 [.sc (.int .i64 x_)]).bind fun r2 => if hasSh (.int .u64) r2 = true then
    (D 133 [.sc (.int .u64 (IntKind.u64.wrap (r2.toInt.tdiv 10000)))]).bind fun r3 => if hasSh .str r3 = true then
    if decide (x_ < 0) = true then
      if 1 + r3.toStr.size ≤ 9223372036854775807 then
        f92.j0a k r2.toInt ((⟨#[45]⟩ : ByteArray) ++ r3.toStr)
      else none
    else
      f92.j0a k r2.toInt r3.toStr
    else none
    else none
  else none :=
  (denI_eq k _ _).trans (by kernel_rfl)
theorem f92.j0a_eq (k : Nat) (n_ : Int) (s_ : ByteArray) : f92.j0a k n_ s_ =
  if decide ((n_.tmod 10000) > 0) = true then
    if s_.size + 1 ≤ 9223372036854775807 then
      f92.j1a k (s_ ++ (⟨#[46]⟩ : ByteArray)) (n_.tmod 10000)
    else none
  else
    f92.j1a k s_ (n_.tmod 10000) :=
  (gateK_open _ _ _).trans (by kernel_rfl)
theorem f92.j1a_eq (k : Nat) (s_ : ByteArray) (rest : Int) : f92.j1a k s_ rest =
  f92.l2a k s_ rest :=
  (gateK_open _ _ _).trans (by kernel_rfl)
theorem f92.l2a_eq (k : Nat) (s_ : ByteArray) (rest : Int) : f92.l2a k s_ rest =
  if decide (rest > 0) = true then
    (D 133 [.sc (.int .u64 (IntKind.u64.wrap (rest.tdiv 1000)))]).bind fun r4 => if hasSh .str r4 = true then
    if s_.size + r4.toStr.size ≤ 9223372036854775807 then
      f92.l2a k (s_ ++ r4.toStr) (IntKind.u64.wrap ((rest.tmod 1000) * 10))
    else none
    else none
  else
    some (.sc (.string s_)) :=
  (loopAt_eq _ _ _ _).trans (by kernel_rfl)
-- oculus/oculusref08.Abs
theorem f132_eq (k : Nat) (x_ : Int) : D 132 [.sc (.int .i64 x_)] =
  if decide (x_ < 0) = true then
    some (.sc (.int .u64 (IntKind.u64.wrap (IntKind.i64.wrap ((0 : Int) - x_)))))
  else
    some (.sc (.int .u64 (IntKind.u64.wrap (x_)))) :=
  (denI_eq k _ _).trans (by kernel_rfl)
-- oculus/oculusref11.whole
noncomputable def f133.l0a (k : Nat) (n_ : Int) (s_ : ByteArray) : Option PV := loopAt Tryz.prog cf ext hint k 133 [1, 1, 0, 1, 0] ⟨[.sc (.int .u64 n_), .top, .top, .sc (.string s_), .top, .top, .top, .top, .top, .top, .top, .top, .top, .top, .top, .top, .top, .top, .top, .top, .top, .top, .top, .top, .top], [], none⟩
theorem f133_eq (k : Nat) (n_ : Int) : D 133 [.sc (.int .u64 n_)] =
  if ([.sc (.int .u8 (IntKind.u8.wrap (IntKind.u64.wrap ((48 : Int) + (n_.tmod 10)))))] : List PV).all (hasSh (.int .u8)) = true then
    f133.l0a k (IntKind.u64.wrap (n_.tdiv 10)) (bytesOf ([.sc (.int .u8 (IntKind.u8.wrap (IntKind.u64.wrap ((48 : Int) + (n_.tmod 10)))))] : List PV))
  else none :=
  (denI_eq k _ _).trans (by kernel_rfl)
theorem f133.l0a_eq (k : Nat) (n_ : Int) (s_ : ByteArray) : f133.l0a k n_ s_ =
  if decide (n_ > 0) = true then
    if ([.sc (.int .u8 (IntKind.u8.wrap (IntKind.u64.wrap ((48 : Int) + (n_.tmod 10)))))] : List PV).all (hasSh (.int .u8)) = true then
      if (bytesOf ([.sc (.int .u8 (IntKind.u8.wrap (IntKind.u64.wrap ((48 : Int) + (n_.tmod 10)))))] : List PV)).size + s_.size ≤ 9223372036854775807 then
        f133.l0a k (IntKind.u64.wrap (n_.tdiv 10)) ((bytesOf ([.sc (.int .u8 (IntKind.u8.wrap (IntKind.u64.wrap ((48 : Int) + (n_.tmod 10)))))] : List PV)) ++ s_)
      else none
    else none
  else
    some (.sc (.string s_)) :=
  (loopAt_eq _ _ _ _).trans (by kernel_rfl)
-- oculus/oculusref12.FaultText
theorem f72_eq (k : Nat) (code : Int) : D 72 [.sc (.int .i64 code)] =
  Option.bind (α := PV) (
    if decide (code < 1) = true then
      some (.sc (.bool true))
    else
      some (.sc (.bool (decide (code > 7))))) fun r1 =>
  if r1.toBool = true then
    some (.sc (.string (⟨#[]⟩ : ByteArray)))
  else
    if 0 ≤ IntKind.i64.wrap (code - 1) then
      if IntKind.i64.wrap (code - 1) < (([.sc (.string (⟨#[35, 68, 73, 86]⟩ : ByteArray)), .sc (.string (⟨#[35, 86, 65, 76, 85, 69]⟩ : ByteArray)), .sc (.string (⟨#[35, 82, 69, 70]⟩ : ByteArray)), .sc (.string (⟨#[35, 78, 85, 77]⟩ : ByteArray)), .sc (.string (⟨#[35, 78, 65]⟩ : ByteArray)), .sc (.string (⟨#[35, 65, 85, 84, 72]⟩ : ByteArray)), .sc (.string (⟨#[35, 67, 89, 67, 76, 69]⟩ : ByteArray))] : List PV).length : Int) then
        if hasSh .str (([.sc (.string (⟨#[35, 68, 73, 86]⟩ : ByteArray)), .sc (.string (⟨#[35, 86, 65, 76, 85, 69]⟩ : ByteArray)), .sc (.string (⟨#[35, 82, 69, 70]⟩ : ByteArray)), .sc (.string (⟨#[35, 78, 85, 77]⟩ : ByteArray)), .sc (.string (⟨#[35, 78, 65]⟩ : ByteArray)), .sc (.string (⟨#[35, 65, 85, 84, 72]⟩ : ByteArray)), .sc (.string (⟨#[35, 67, 89, 67, 76, 69]⟩ : ByteArray))] : List PV).getD (IntKind.i64.wrap (code - 1)).toNat .top) = true then
          some (.sc (.string ((([.sc (.string (⟨#[35, 68, 73, 86]⟩ : ByteArray)), .sc (.string (⟨#[35, 86, 65, 76, 85, 69]⟩ : ByteArray)), .sc (.string (⟨#[35, 82, 69, 70]⟩ : ByteArray)), .sc (.string (⟨#[35, 78, 85, 77]⟩ : ByteArray)), .sc (.string (⟨#[35, 78, 65]⟩ : ByteArray)), .sc (.string (⟨#[35, 65, 85, 84, 72]⟩ : ByteArray)), .sc (.string (⟨#[35, 67, 89, 67, 76, 69]⟩ : ByteArray))] : List PV).getD (IntKind.i64.wrap (code - 1)).toNat .top).toStr)))
        else none
      else none
    else none :=
  (denI_eq k _ _).trans (by kernel_rfl)
-- oculus/oculusref03.Name
theorem f118_eq (k : Nat) (c c_1 : Int) : D 118 [.agg [.sc (.int .i64 c), .sc (.int .i64 c_1)]] =
  (D 156 [.agg [.sc (.int .i64 c), .sc (.int .i64 c_1)]]).bind fun r1 => if hasSh .bool r1 = true then
  if (!r1.toBool) = true then
    some (.sc (.string (⟨#[]⟩ : ByteArray)))
  else
    (D 157 [.sc (.int .i64 c_1)]).bind fun r2 => if hasSh .str r2 = true then
    (D 77 [.sc (.int .i64 (IntKind.i64.wrap (c + 1)))]).bind fun r3 => if hasSh .str r3 = true then
    if r2.toStr.size + r3.toStr.size ≤ 9223372036854775807 then
      some (.sc (.string (r2.toStr ++ r3.toStr)))
    else none
    else none
    else none
  else none :=
  (denI_eq k _ _).trans (by kernel_rfl)
-- oculus/oculusref01.Digits
noncomputable def f77.l0a (k : Nat) (n_ : Int) (s_ : ByteArray) : Option PV := loopAt Tryz.prog cf ext hint k 77 [1, 1, 0, 1, 0] ⟨[.sc (.int .i64 n_), .top, .top, .sc (.string s_), .top, .top, .top, .top, .top, .top, .top, .top, .top, .top, .top, .top, .top, .top, .top, .top, .top, .top, .top, .top, .top], [], none⟩
theorem f77_eq (k : Nat) (n_ : Int) : D 77 [.sc (.int .i64 n_)] =
  if ([.sc (.int .u8 (IntKind.u8.wrap (IntKind.i64.wrap ((48 : Int) + (n_.tmod 10)))))] : List PV).all (hasSh (.int .u8)) = true then
    f77.l0a k (IntKind.i64.wrap (n_.tdiv 10)) (bytesOf ([.sc (.int .u8 (IntKind.u8.wrap (IntKind.i64.wrap ((48 : Int) + (n_.tmod 10)))))] : List PV))
  else none :=
  (denI_eq k _ _).trans (by kernel_rfl)
theorem f77.l0a_eq (k : Nat) (n_ : Int) (s_ : ByteArray) : f77.l0a k n_ s_ =
  if decide (n_ > 0) = true then
    if ([.sc (.int .u8 (IntKind.u8.wrap (IntKind.i64.wrap ((48 : Int) + (n_.tmod 10)))))] : List PV).all (hasSh (.int .u8)) = true then
      if (bytesOf ([.sc (.int .u8 (IntKind.u8.wrap (IntKind.i64.wrap ((48 : Int) + (n_.tmod 10)))))] : List PV)).size + s_.size ≤ 9223372036854775807 then
        f77.l0a k (IntKind.i64.wrap (n_.tdiv 10)) ((bytesOf ([.sc (.int .u8 (IntKind.u8.wrap (IntKind.i64.wrap ((48 : Int) + (n_.tmod 10)))))] : List PV)) ++ s_)
      else none
    else none
  else
    some (.sc (.string s_)) :=
  (loopAt_eq _ _ _ _).trans (by kernel_rfl)
-- oculus/oculusref03.May
theorem f156_eq (k : Nat) (c c_1 : Int) : D 156 [.agg [.sc (.int .i64 c), .sc (.int .i64 c_1)]] =
  Option.bind (α := PV) (
    if decide (c ≥ 0) = true then
      some (.sc (.bool (decide (c ≤ 998))))
    else
      some (.sc (.bool false))) fun r1 =>
  Option.bind (α := PV) (
    if r1.toBool = true then
      some (.sc (.bool (decide (c_1 ≥ 0))))
    else
      some (.sc (.bool false))) fun r2 =>
  Option.bind (α := PV) (
    if r2.toBool = true then
      some (.sc (.bool (decide (c_1 ≤ 701))))
    else
      some (.sc (.bool false))) fun r3 =>
  some (.sc (.bool r3.toBool)) :=
  (denI_eq k _ _).trans (by kernel_rfl)
-- oculus/oculusref03.Letters
theorem f157_eq (k : Nat) (col : Int) : D 157 [.sc (.int .i64 col)] =
  Option.bind (α := PV) (
    if decide (col < 0) = true then
      some (.sc (.bool true))
    else
      some (.sc (.bool (decide (col > 701))))) fun r1 =>
  if r1.toBool = true then
    some (.sc (.string (⟨#[]⟩ : ByteArray)))
  else
    if decide (col < 26) = true then
      if ([.sc (.int .u8 (IntKind.u8.wrap (IntKind.i64.wrap ((65 : Int) + col))))] : List PV).all (hasSh (.int .u8)) = true then
        some (.sc (.string (bytesOf ([.sc (.int .u8 (IntKind.u8.wrap (IntKind.i64.wrap ((65 : Int) + col))))] : List PV))))
      else none
    else
      if ([.sc (.int .u8 (IntKind.u8.wrap (IntKind.i64.wrap ((64 : Int) + (IntKind.i64.wrap (col.tdiv 26)))))), .sc (.int .u8 (IntKind.u8.wrap (IntKind.i64.wrap ((65 : Int) + (col.tmod 26)))))] : List PV).all (hasSh (.int .u8)) = true then
        some (.sc (.string (bytesOf ([.sc (.int .u8 (IntKind.u8.wrap (IntKind.i64.wrap ((64 : Int) + (IntKind.i64.wrap (col.tdiv 26)))))), .sc (.int .u8 (IntKind.u8.wrap (IntKind.i64.wrap ((65 : Int) + (col.tmod 26)))))] : List PV))))
      else none :=
  (denI_eq k _ _).trans (by kernel_rfl)
-- oculus/oculusref45.Changes
theorem f26_eq (k : Nat) (n_ : Int) (ln : Nat) (lf : Nat → PV) : D 26 [.sc (.int .i64 n_), .lst 10 ln lf] =
  (D 77 [.sc (.int .i64 n_)]).bind fun r1 => if hasSh .str r1 = true then
  if 8 + r1.toStr.size ≤ 9223372036854775807 then
    (D 76 [.sc (.string ((⟨#[99, 104, 97, 110, 103, 101, 115, 32]⟩ : ByteArray) ++ r1.toStr)), .lst 10 ln lf]).bind fun r2 => if hasSh .str r2 = true then
    some (.sc (.string r2.toStr))
    else none
  else none
  else none :=
  (denI_eq k _ _).trans (by kernel_rfl)
end EC
end Go.Den
