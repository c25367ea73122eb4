import Derived.Test.YtbkdoeghgdbjlaaGreatDoorERh
import Derived.KernelRfl
set_option maxRecDepth 100000
set_option linter.unusedVariables false
namespace Go.Den
open Go Go.Proofs
namespace ER
-- oculus/oculusref12.Quote
noncomputable def f20.l0a (k : Nat) (t : ByteArray) (i : Int) (out : List PV) : Option PV := loopAt Tryz.prog cf ext hint k 20 [1, 1, 0, 1, 0] ⟨[.sc (.string t), .top, .top, .buf 0 0, .sc (.int .i64 i), .top, .top, .top, .top, .top, .top, .top, .top, .top, .top, .top, .top, .top, .top, .top, .top, .top, .top, .top, .top, .top, .top, .top, .top, .top], [.buf 5 0 out], none⟩
theorem f20_eq (k : Nat) (t : ByteArray) : D 20 [.sc (.string t)] =
  f20.l0a k t 0 ([.sc (.int .u8 34)] : List PV) :=
  (denI_eq k _ _).trans (by kernel_rfl)
theorem f20.l0a_eq (k : Nat) (t : ByteArray) (i : Int) (out : List PV) : f20.l0a k t i out =
  if decide (i < (t.size : Int)) = true then
    if 0 ≤ i then
      if i < (t.size : Int) then
        if ((bt t i) == 34) = true then
          if (out.length + ([.sc (.int .u8 34)] : List PV).length) * 1 ≤ 140737488355328 ∧ out.length + ([.sc (.int .u8 34)] : List PV).length ≤ 140737488355328 then
            if 0 ≤ i then
              if i < (t.size : Int) then
                if ((out ++ ([.sc (.int .u8 34)] : List PV)).length + ([.sc (.int .u8 (bt t i))] : List PV).length) * 1 ≤ 140737488355328 ∧ (out ++ ([.sc (.int .u8 34)] : List PV)).length + ([.sc (.int .u8 (bt t i))] : List PV).length ≤ 140737488355328 then
                  f20.l0a k t (IntKind.i64.wrap (i + 1)) ((out ++ ([.sc (.int .u8 34)] : List PV)) ++ ([.sc (.int .u8 (bt t i))] : List PV))
                else none
              else none
            else none
          else none
        else
          if 0 ≤ i then
            if i < (t.size : Int) then
              if (out.length + ([.sc (.int .u8 (bt t i))] : List PV).length) * 1 ≤ 140737488355328 ∧ out.length + ([.sc (.int .u8 (bt t i))] : List PV).length ≤ 140737488355328 then
                f20.l0a k t (IntKind.i64.wrap (i + 1)) (out ++ ([.sc (.int .u8 (bt t i))] : List PV))
              else none
            else none
          else none
      else none
    else none
  else
    if (out.length + ([.sc (.int .u8 34)] : List PV).length) * 1 ≤ 140737488355328 ∧ out.length + ([.sc (.int .u8 34)] : List PV).length ≤ 140737488355328 then
      if (out ++ ([.sc (.int .u8 34)] : List PV)).all (hasSh (.int .u8)) = true then
        some (.sc (.string (bytesOf (out ++ ([.sc (.int .u8 34)] : List PV)))))
      else none
    else none :=
  (loopAt_eq _ _ _ _).trans (by kernel_rfl)
-- oculus/oculusref12.Words
theorem f69_eq (k : Nat) (v_ v__1 : Int) (v__2 : ByteArray) : D 69 [.agg [.sc (.int .i64 v_), .sc (.int .i64 v__1), .sc (.string v__2)]] =
  if (v_ == 1) = true then
    (D 92 [.sc (.int .i64 v__1)]).bind fun r1 => if hasSh .str r1 = true then
    some (.sc (.string r1.toStr))
    else none
  else
    Option.bind (α := PV) (
      if (v_ == 3) = true then
        some (.sc (.bool (v__1 == 1)))
      else
        some (.sc (.bool false))) fun r2 =>
    if r2.toBool = true then
      some (.sc (.string (⟨#[84, 82, 85, 69]⟩ : ByteArray)))
    else
      if (v_ == 3) = true then
        some (.sc (.string (⟨#[70, 65, 76, 83, 69]⟩ : ByteArray)))
      else
        some (.sc (.string v__2)) :=
  (denI_eq k _ _).trans (by kernel_rfl)
-- oculus/oculusref11.Text
noncomputable def f92.j0a (k : Nat) (n_ : Int) (s_ : ByteArray) : Option PV := gateK k (placeAt Tryz.prog cf ext hint k 92 [1, 1, 1, 1, 1]) ⟨[.top, .top, .top, .sc (.int .u64 n_), .sc (.string s_), .top, .top, .top, .top, .top, .top, .top, .top, .top, .top, .top, .top, .top, .top, .top, .top, .top, .top, .top, .top, .top, .top, .top, .top, .top, .top, .top, .top, .top, .top], [], none⟩
noncomputable def f92.j1a (k : Nat) (s_ : ByteArray) (rest : Int) : Option PV := gateK k (placeAt Tryz.prog cf ext hint k 92 [1, 1, 1, 1, 1, 1, 1]) ⟨[.top, .top, .top, .top, .sc (.string s_), .sc (.int .u64 rest), .top, .top, .top, .top, .top, .top, .top, .top, .top, .top, .top, .top, .top, .top, .top, .top, .top, .top, .top, .top, .top, .top, .top, .top, .top, .top, .top, .top, .top], [], none⟩
noncomputable def f92.l2a (k : Nat) (s_ : ByteArray) (rest : Int) : Option PV := loopAt Tryz.prog cf ext hint k 92 [1, 1, 1, 1, 1, 1, 1, 0, 0] ⟨[.top, .top, .top, .top, .sc (.string s_), .sc (.int .u64 rest), .top, .top, .top, .top, .top, .top, .top, .top, .top, .top, .top, .top, .top, .top, .top, .top, .top, .top, .top, .top, .top, .top, .top, .top, .top, .top, .top, .top, .top], [], none⟩
theorem f92_eq (k : Nat) (x_ : Int) : D 92 [.sc (.int .i64 x_)] =
  (D 56 [.sc (.int .i64 x_)]).bind fun r1 => if hasSh .bool r1 = true then
  if (!r1.toBool) = true then
    some (.sc (.string (⟨#[]⟩ : ByteArray)))
  else
    (D 132 [.sc (.int .i64 x_)]).bind fun r2 => if hasSh (.int .u64) r2 = true then
    (D 133 [.sc (.int .u64 (IntKind.u64.wrap (r2.toInt.tdiv 10000)))]).bind fun r3 => if hasSh .str r3 = true then
    if decide (x_ < 0) = true then
      if 1 + r3.toStr.size ≤ 9223372036854775807 then
        f92.j0a k r2.toInt ((⟨#[45]⟩ : ByteArray) ++ r3.toStr)
      else none
    else
      f92.j0a k r2.toInt r3.toStr
    else none
    else none
  else none :=
  (denI_eq k _ _).trans (by kernel_rfl)
theorem f92.j0a_eq (k : Nat) (n_ : Int) (s_ : ByteArray) : f92.j0a k n_ s_ =
  if decide ((n_.tmod 10000) > 0) = true then
    if s_.size + 1 ≤ 9223372036854775807 then
      f92.j1a k (s_ ++ (⟨#[46]⟩ : ByteArray)) (n_.tmod 10000)
    else none
  else
    f92.j1a k s_ (n_.tmod 10000) :=
  (gateK_open _ _ _).trans (by kernel_rfl)
theorem f92.j1a_eq (k : Nat) (s_ : ByteArray) (rest : Int) : f92.j1a k s_ rest =
  f92.l2a k s_ rest :=
  (gateK_open _ _ _).trans (by kernel_rfl)
theorem f92.l2a_eq (k : Nat) (s_ : ByteArray) (rest : Int) : f92.l2a k s_ rest =
  if decide (rest > 0) = true then
    (D 133 [.sc (.int .u64 (IntKind.u64.wrap (rest.tdiv 1000)))]).bind fun r4 => if hasSh .str r4 = true then
    if s_.size + r4.toStr.size ≤ 9223372036854775807 then
      f92.l2a k (s_ ++ r4.toStr) (IntKind.u64.wrap ((rest.tmod 1000) * 10))
    else none
    else none
  else
    some (.sc (.string s_)) :=
  (loopAt_eq _ _ _ _).trans (by kernel_rfl)
-- oculus/oculusref08.Abs
theorem f132_eq (k : Nat) (x_ : Int) : D 132 [.sc (.int .i64 x_)] =
  if decide (x_ < 0) = true then
    some (.sc (.int .u64 (IntKind.u64.wrap (IntKind.i64.wrap ((0 : Int) - x_)))))
  else
    some (.sc (.int .u64 (IntKind.u64.wrap (x_)))) :=
  (denI_eq k _ _).trans (by kernel_rfl)
-- oculus/oculusref11.whole
noncomputable def f133.l0a (k : Nat) (n_ : Int) (s_ : ByteArray) : Option PV := loopAt Tryz.prog cf ext hint k 133 [1, 1, 0, 1, 0] ⟨[.sc (.int .u64 n_), .top, .top, .sc (.string s_), .top, .top, .top, .top, .top, .top, .top, .top, .top, .top, .top, .top, .top, .top, .top, .top, .top, .top, .top, .top, .top], [], none⟩
theorem f133_eq (k : Nat) (n_ : Int) : D 133 [.sc (.int .u64 n_)] =
  if ([.sc (.int .u8 (IntKind.u8.wrap (IntKind.u64.wrap ((48 : Int) + (n_.tmod 10)))))] : List PV).all (hasSh (.int .u8)) = true then
    f133.l0a k (IntKind.u64.wrap (n_.tdiv 10)) (bytesOf ([.sc (.int .u8 (IntKind.u8.wrap (IntKind.u64.wrap ((48 : Int) + (n_.tmod 10)))))] : List PV))
  else none :=
  (denI_eq k _ _).trans (by kernel_rfl)
theorem f133.l0a_eq (k : Nat) (n_ : Int) (s_ : ByteArray) : f133.l0a k n_ s_ =
  if decide (n_ > 0) = true then
    if ([.sc (.int .u8 (IntKind.u8.wrap (IntKind.u64.wrap ((48 : Int) + (n_.tmod 10)))))] : List PV).all (hasSh (.int .u8)) = true then
      if (bytesOf ([.sc (.int .u8 (IntKind.u8.wrap (IntKind.u64.wrap ((48 : Int) + (n_.tmod 10)))))] : List PV)).size + s_.size ≤ 9223372036854775807 then
        f133.l0a k (IntKind.u64.wrap (n_.tdiv 10)) ((bytesOf ([.sc (.int .u8 (IntKind.u8.wrap (IntKind.u64.wrap ((48 : Int) + (n_.tmod 10)))))] : List PV)) ++ s_)
      else none
    else none
  else
    some (.sc (.string s_)) :=
  (loopAt_eq _ _ _ _).trans (by kernel_rfl)
-- oculus/oculusref12.FaultText
theorem f72_eq (k : Nat) (code : Int) : D 72 [.sc (.int .i64 code)] =
  Option.bind (α := PV) (
    if decide (code < 1) = true then
      some (.sc (.bool true))
    else
      some (.sc (.bool (decide (code > 7))))) fun r1 =>
  if r1.toBool = true then
    some (.sc (.string (⟨#[]⟩ : ByteArray)))
  else
    if 0 ≤ IntKind.i64.wrap (code - 1) then
      if IntKind.i64.wrap (code - 1) < (([.sc (.string (⟨#[35, 68, 73, 86]⟩ : ByteArray)), .sc (.string (⟨#[35, 86, 65, 76, 85, 69]⟩ : ByteArray)), .sc (.string (⟨#[35, 82, 69, 70]⟩ : ByteArray)), .sc (.string (⟨#[35, 78, 85, 77]⟩ : ByteArray)), .sc (.string (⟨#[35, 78, 65]⟩ : ByteArray)), .sc (.string (⟨#[35, 65, 85, 84, 72]⟩ : ByteArray)), .sc (.string (⟨#[35, 67, 89, 67, 76, 69]⟩ : ByteArray))] : List PV).length : Int) then
        if hasSh .str (([.sc (.string (⟨#[35, 68, 73, 86]⟩ : ByteArray)), .sc (.string (⟨#[35, 86, 65, 76, 85, 69]⟩ : ByteArray)), .sc (.string (⟨#[35, 82, 69, 70]⟩ : ByteArray)), .sc (.string (⟨#[35, 78, 85, 77]⟩ : ByteArray)), .sc (.string (⟨#[35, 78, 65]⟩ : ByteArray)), .sc (.string (⟨#[35, 65, 85, 84, 72]⟩ : ByteArray)), .sc (.string (⟨#[35, 67, 89, 67, 76, 69]⟩ : ByteArray))] : List PV).getD (IntKind.i64.wrap (code - 1)).toNat .top) = true then
          some (.sc (.string ((([.sc (.string (⟨#[35, 68, 73, 86]⟩ : ByteArray)), .sc (.string (⟨#[35, 86, 65, 76, 85, 69]⟩ : ByteArray)), .sc (.string (⟨#[35, 82, 69, 70]⟩ : ByteArray)), .sc (.string (⟨#[35, 78, 85, 77]⟩ : ByteArray)), .sc (.string (⟨#[35, 78, 65]⟩ : ByteArray)), .sc (.string (⟨#[35, 65, 85, 84, 72]⟩ : ByteArray)), .sc (.string (⟨#[35, 67, 89, 67, 76, 69]⟩ : ByteArray))] : List PV).getD (IntKind.i64.wrap (code - 1)).toNat .top).toStr)))
        else none
      else none
    else none :=
  (denI_eq k _ _).trans (by kernel_rfl)
-- oculus/oculusref45.Formula
theorem f30_eq (k : Nat) (r r_1 : Int) (r_2 : ByteArray) (r_3 : Bool) (r_4 r_5 : Int) (r_6 : ByteArray) (there : Bool) : D 30 [.agg [.sc (.int .i64 r), .sc (.int .i64 r_1), .sc (.string r_2), .sc (.bool r_3), .sc (.int .i64 r_4), .sc (.int .i64 r_5), .sc (.string r_6)], .sc (.bool there)] =
  if (!there) = true then
    some (.sc (.string (⟨#[102, 111, 114, 109, 117, 108, 97]⟩ : ByteArray)))
  else
    if 8 + r_2.size ≤ 9223372036854775807 then
      some (.sc (.string ((⟨#[102, 111, 114, 109, 117, 108, 97, 32]⟩ : ByteArray) ++ r_2)))
    else none :=
  (denI_eq k _ _).trans (by kernel_rfl)
-- oculus/oculusref45.View
noncomputable def f32.l0a (k : Nat) (ln : Nat) (lf : Nat → PV) (out : ByteArray) (i : Int) : Option PV := loopAt Tryz.prog cf ext hint k 32 [1, 1, 0, 1, 0] ⟨[.lst 7 ln lf, .top, .top, .sc (.string out), .sc (.int .i64 i), .top, .top, .top, .top, .top, .top, .top, .top, .top, .top, .top, .top, .top, .top, .top, .top, .top, .top, .top], [], none⟩
theorem f32_eq (k : Nat) (ln : Nat) (lf : Nat → PV) : D 32 [.lst 7 ln lf] =
  (D 77 [.sc (.int .i64 (ln : Int))]).bind fun r1 => if hasSh .str r1 = true then
  if 5 + r1.toStr.size ≤ 9223372036854775807 then
    f32.l0a k ln lf ((⟨#[118, 105, 101, 119, 32]⟩ : ByteArray) ++ r1.toStr) 0
  else none
  else none :=
  (denI_eq k _ _).trans (by kernel_rfl)
theorem f32.l0a_eq (k : Nat) (ln : Nat) (lf : Nat → PV) (out : ByteArray) (i : Int) : f32.l0a k ln lf out i =
  if decide (i < (ln : Int)) = true then
    if out.size + 1 ≤ 9223372036854775807 then
      if 0 ≤ i then
        if i < (ln : Int) then
          if hasSh (.agg [(.int .i64), (.int .i64), .str, .bool, (.int .i64), (.int .i64), .str]) (lf i.toNat) = true then
            (D 80 [.agg [.sc (.int .i64 ((cel 0 (lf i.toNat).cells).toInt)), .sc (.int .i64 ((cel 1 (lf i.toNat).cells).toInt)), .sc (.string ((cel 2 (lf i.toNat).cells).toStr)), .sc (.bool ((cel 3 (lf i.toNat).cells).toBool)), .sc (.int .i64 ((cel 4 (lf i.toNat).cells).toInt)), .sc (.int .i64 ((cel 5 (lf i.toNat).cells).toInt)), .sc (.string ((cel 6 (lf i.toNat).cells).toStr))]]).bind fun r2 => if hasSh .str r2 = true then
            if (out ++ (⟨#[10]⟩ : ByteArray)).size + r2.toStr.size ≤ 9223372036854775807 then
              f32.l0a k ln lf ((out ++ (⟨#[10]⟩ : ByteArray)) ++ r2.toStr) (IntKind.i64.wrap (i + 1))
            else none
            else none
          else none
        else none
      else none
    else none
  else
    some (.sc (.string out)) :=
  (loopAt_eq _ _ _ _).trans (by kernel_rfl)
-- oculus/oculusref01.Digits
noncomputable def f77.l0a (k : Nat) (n_ : Int) (s_ : ByteArray) : Option PV := loopAt Tryz.prog cf ext hint k 77 [1, 1, 0, 1, 0] ⟨[.sc (.int .i64 n_), .top, .top, .sc (.string s_), .top, .top, .top, .top, .top, .top, .top, .top, .top, .top, .top, .top, .top, .top, .top, .top, .top, .top, .top, .top, .top], [], none⟩
theorem f77_eq (k : Nat) (n_ : Int) : D 77 [.sc (.int .i64 n_)] =
  if ([.sc (.int .u8 (IntKind.u8.wrap (IntKind.i64.wrap ((48 : Int) + (n_.tmod 10)))))] : List PV).all (hasSh (.int .u8)) = true then
    f77.l0a k (IntKind.i64.wrap (n_.tdiv 10)) (bytesOf ([.sc (.int .u8 (IntKind.u8.wrap (IntKind.i64.wrap ((48 : Int) + (n_.tmod 10)))))] : List PV))
  else none :=
  (denI_eq k _ _).trans (by kernel_rfl)
theorem f77.l0a_eq (k : Nat) (n_ : Int) (s_ : ByteArray) : f77.l0a k n_ s_ =
  if decide (n_ > 0) = true then
    if ([.sc (.int .u8 (IntKind.u8.wrap (IntKind.i64.wrap ((48 : Int) + (n_.tmod 10)))))] : List PV).all (hasSh (.int .u8)) = true then
      if (bytesOf ([.sc (.int .u8 (IntKind.u8.wrap (IntKind.i64.wrap ((48 : Int) + (n_.tmod 10)))))] : List PV)).size + s_.size ≤ 9223372036854775807 then
        f77.l0a k (IntKind.i64.wrap (n_.tdiv 10)) ((bytesOf ([.sc (.int .u8 (IntKind.u8.wrap (IntKind.i64.wrap ((48 : Int) + (n_.tmod 10)))))] : List PV)) ++ s_)
      else none
    else none
  else
    some (.sc (.string s_)) :=
  (loopAt_eq _ _ _ _).trans (by kernel_rfl)
-- oculus/oculusref40.Text
theorem f80_eq (k : Nat) (r r_1 : Int) (r_2 : ByteArray) (r_3 : Bool) (r_4 r_5 : Int) (r_6 : ByteArray) : D 80 [.agg [.sc (.int .i64 r), .sc (.int .i64 r_1), .sc (.string r_2), .sc (.bool r_3), .sc (.int .i64 r_4), .sc (.int .i64 r_5), .sc (.string r_6)]] =
  (D 118 [.agg [.sc (.int .i64 r), .sc (.int .i64 r_1)]]).bind fun r1 => if hasSh .str r1 = true then
  if r1.toStr.size + 1 ≤ 9223372036854775807 then
    if (r1.toStr ++ (⟨#[32]⟩ : ByteArray)).size + r_2.size ≤ 9223372036854775807 then
      if ((r1.toStr ++ (⟨#[32]⟩ : ByteArray)) ++ r_2).size + 3 ≤ 9223372036854775807 then
        if r_3 = true then
          if (((r1.toStr ++ (⟨#[32]⟩ : ByteArray)) ++ r_2) ++ (⟨#[32, 61, 32]⟩ : ByteArray)).size + 1 ≤ 9223372036854775807 then
            some (.sc (.string ((((r1.toStr ++ (⟨#[32]⟩ : ByteArray)) ++ r_2) ++ (⟨#[32, 61, 32]⟩ : ByteArray)) ++ (⟨#[63]⟩ : ByteArray))))
          else none
        else
          (D 18 [.agg [.sc (.int .i64 r_4), .sc (.int .i64 r_5), .sc (.string r_6)]]).bind fun r2 => if hasSh .str r2 = true then
          if (((r1.toStr ++ (⟨#[32]⟩ : ByteArray)) ++ r_2) ++ (⟨#[32, 61, 32]⟩ : ByteArray)).size + r2.toStr.size ≤ 9223372036854775807 then
            some (.sc (.string ((((r1.toStr ++ (⟨#[32]⟩ : ByteArray)) ++ r_2) ++ (⟨#[32, 61, 32]⟩ : ByteArray)) ++ r2.toStr)))
          else none
          else none
      else none
    else none
  else none
  else none :=
  (denI_eq k _ _).trans (by kernel_rfl)
-- oculus/oculusref03.Name
theorem f118_eq (k : Nat) (c c_1 : Int) : D 118 [.agg [.sc (.int .i64 c), .sc (.int .i64 c_1)]] =
  (D 156 [.agg [.sc (.int .i64 c), .sc (.int .i64 c_1)]]).bind fun r1 => if hasSh .bool r1 = true then
  if (!r1.toBool) = true then
    some (.sc (.string (⟨#[]⟩ : ByteArray)))
  else
    (D 157 [.sc (.int .i64 c_1)]).bind fun r2 => if hasSh .str r2 = true then
    (D 77 [.sc (.int .i64 (IntKind.i64.wrap (c + 1)))]).bind fun r3 => if hasSh .str r3 = true then
    if r2.toStr.size + r3.toStr.size ≤ 9223372036854775807 then
      some (.sc (.string (r2.toStr ++ r3.toStr)))
    else none
    else none
    else none
  else none :=
  (denI_eq k _ _).trans (by kernel_rfl)
-- oculus/oculusref03.May
theorem f156_eq (k : Nat) (c c_1 : Int) : D 156 [.agg [.sc (.int .i64 c), .sc (.int .i64 c_1)]] =
  Option.bind (α := PV) (
    if decide (c ≥ 0) = true then
      some (.sc (.bool (decide (c ≤ 998))))
    else
      some (.sc (.bool false))) fun r1 =>
  Option.bind (α := PV) (
    if r1.toBool = true then
      some (.sc (.bool (decide (c_1 ≥ 0))))
    else
      some (.sc (.bool false))) fun r2 =>
  Option.bind (α := PV) (
    if r2.toBool = true then
      some (.sc (.bool (decide (c_1 ≤ 701))))
    else
      some (.sc (.bool false))) fun r3 =>
  some (.sc (.bool r3.toBool)) :=
  (denI_eq k _ _).trans (by kernel_rfl)
-- oculus/oculusref03.Letters
theorem f157_eq (k : Nat) (col : Int) : D 157 [.sc (.int .i64 col)] =
  Option.bind (α := PV) (
    if decide (col < 0) = true then
      some (.sc (.bool true))
    else
      some (.sc (.bool (decide (col > 701))))) fun r1 =>
  if r1.toBool = true then
    some (.sc (.string (⟨#[]⟩ : ByteArray)))
  else
    if decide (col < 26) = true then
      if ([.sc (.int .u8 (IntKind.u8.wrap (IntKind.i64.wrap ((65 : Int) + col))))] : List PV).all (hasSh (.int .u8)) = true then
        some (.sc (.string (bytesOf ([.sc (.int .u8 (IntKind.u8.wrap (IntKind.i64.wrap ((65 : Int) + col))))] : List PV))))
      else none
    else
      if ([.sc (.int .u8 (IntKind.u8.wrap (IntKind.i64.wrap ((64 : Int) + (IntKind.i64.wrap (col.tdiv 26)))))), .sc (.int .u8 (IntKind.u8.wrap (IntKind.i64.wrap ((65 : Int) + (col.tmod 26)))))] : List PV).all (hasSh (.int .u8)) = true then
        some (.sc (.string (bytesOf ([.sc (.int .u8 (IntKind.u8.wrap (IntKind.i64.wrap ((64 : Int) + (IntKind.i64.wrap (col.tdiv 26)))))), .sc (.int .u8 (IntKind.u8.wrap (IntKind.i64.wrap ((65 : Int) + (col.tmod 26)))))] : List PV))))
      else none :=
  (denI_eq k _ _).trans (by kernel_rfl)
-- oculus/reply.Rev
theorem f33_eq (k : Nat) (n_ : Int) : D 33 [.sc (.int .i64 n_)] =
  (D 75 [.sc (.int .i64 n_)]).bind fun r1 => if hasSh .str r1 = true then
  if 9 + r1.toStr.size ≤ 9223372036854775807 then
    some (.sc (.string ((⟨#[114, 101, 118, 105, 115, 105, 111, 110, 32]⟩ : ByteArray) ++ r1.toStr)))
  else none
  else none :=
  (denI_eq k _ _).trans (by kernel_rfl)
-- oculus/oculusref45.Rev
theorem f34_eq (k : Nat) (n_ : Int) : D 34 [.sc (.int .i64 n_)] =
  (D 77 [.sc (.int .i64 n_)]).bind fun r1 => if hasSh .str r1 = true then
  if 9 + r1.toStr.size ≤ 9223372036854775807 then
    some (.sc (.string ((⟨#[114, 101, 118, 105, 115, 105, 111, 110, 32]⟩ : ByteArray) ++ r1.toStr)))
  else none
  else none :=
  (denI_eq k _ _).trans (by kernel_rfl)
-- oculus/reply.Stats
theorem f35_eq (k : Nat) (s_ s__1 s__2 s__3 s__4 s__5 s__6 s__7 rev : Int) : D 35 [.agg [.sc (.int .i64 s_), .sc (.int .i64 s__1), .sc (.int .i64 s__2), .sc (.int .i64 s__3), .sc (.int .i64 s__4), .sc (.int .i64 s__5), .sc (.int .i64 s__6), .sc (.int .i64 s__7)], .sc (.int .i64 rev)] =
  (D 81 [.agg [.sc (.int .i64 s_), .sc (.int .i64 s__1), .sc (.int .i64 s__2), .sc (.int .i64 s__3), .sc (.int .i64 s__4), .sc (.int .i64 s__5), .sc (.int .i64 s__6), .sc (.int .i64 s__7)]]).bind fun r1 => if hasSh .str r1 = true then
  if r1.toStr.size + 1 ≤ 9223372036854775807 then
    (D 33 [.sc (.int .i64 rev)]).bind fun r2 => if hasSh .str r2 = true then
    if (r1.toStr ++ (⟨#[32]⟩ : ByteArray)).size + r2.toStr.size ≤ 9223372036854775807 then
      some (.sc (.string ((r1.toStr ++ (⟨#[32]⟩ : ByteArray)) ++ r2.toStr)))
    else none
    else none
  else none
  else none :=
  (denI_eq k _ _).trans (by kernel_rfl)
-- oculus/stats.Text
noncomputable def f81.l0a (k : Nat) (t9n : Nat) (t9f : Nat → PV) (t10 n_ n__1 n__2 n__3 n__4 n__5 n__6 n__7 : Int) : Option PV := loopAt Tryz.prog cf ext hint k 81 [1, 1, 1, 0, 1, 0] ⟨[.top, .top, .top, .nils, .ptr 0 0, .top, .top, .top, .top, .lst 1 t9n t9f, .sc (.int .i64 t10), .sc (.int .i64 0), .top, .top, .top, .top, .top, .top, .top, .top, .top, .top, .top, .top, .top, .top, .top, .top, .top, .top, .top, .top, .top, .top, .top, .top, .top, .top], [.cells 145 [.sc (.int .i64 n_), .sc (.int .i64 n__1), .sc (.int .i64 n__2), .sc (.int .i64 n__3), .sc (.int .i64 n__4), .sc (.int .i64 n__5), .sc (.int .i64 n__6), .sc (.int .i64 n__7)]], none⟩
noncomputable def f81.l0b (k : Nat) (t9n : Nat) (t9f : Nat → PV) (t10 : Int) (out : List PV) (n_ n__1 n__2 n__3 n__4 n__5 n__6 n__7 : Int) : Option PV := loopAt Tryz.prog cf ext hint k 81 [1, 1, 1, 0, 1, 0] ⟨[.top, .top, .top, .buf 0 0, .ptr 1 0, .top, .top, .top, .top, .lst 1 t9n t9f, .sc (.int .i64 t10), .sc (.int .i64 1), .top, .top, .top, .top, .top, .top, .top, .top, .top, .top, .top, .top, .top, .top, .top, .top, .top, .top, .top, .top, .top, .top, .top, .top, .top, .top], [.buf 9 0 out, .cells 145 [.sc (.int .i64 n_), .sc (.int .i64 n__1), .sc (.int .i64 n__2), .sc (.int .i64 n__3), .sc (.int .i64 n__4), .sc (.int .i64 n__5), .sc (.int .i64 n__6), .sc (.int .i64 n__7)]], none⟩
noncomputable def f81.l0c (k : Nat) (t9n : Nat) (t9f : Nat → PV) (t10 : Int) (out : List PV) (n_ n__1 n__2 n__3 n__4 n__5 n__6 n__7 : Int) : Option PV := loopAt Tryz.prog cf ext hint k 81 [1, 1, 1, 0, 1, 0] ⟨[.top, .top, .top, .buf 0 0, .ptr 1 0, .top, .top, .top, .top, .lst 1 t9n t9f, .sc (.int .i64 t10), .sc (.int .i64 2), .top, .top, .top, .top, .top, .top, .top, .top, .top, .top, .top, .top, .top, .top, .top, .top, .top, .top, .top, .top, .top, .top, .top, .top, .top, .top], [.buf 9 0 out, .cells 145 [.sc (.int .i64 n_), .sc (.int .i64 n__1), .sc (.int .i64 n__2), .sc (.int .i64 n__3), .sc (.int .i64 n__4), .sc (.int .i64 n__5), .sc (.int .i64 n__6), .sc (.int .i64 n__7)]], none⟩
noncomputable def f81.l0d (k : Nat) (t9n : Nat) (t9f : Nat → PV) (t10 : Int) (out : List PV) (n_ n__1 n__2 n__3 n__4 n__5 n__6 n__7 : Int) : Option PV := loopAt Tryz.prog cf ext hint k 81 [1, 1, 1, 0, 1, 0] ⟨[.top, .top, .top, .buf 0 0, .ptr 1 0, .top, .top, .top, .top, .lst 1 t9n t9f, .sc (.int .i64 t10), .sc (.int .i64 3), .top, .top, .top, .top, .top, .top, .top, .top, .top, .top, .top, .top, .top, .top, .top, .top, .top, .top, .top, .top, .top, .top, .top, .top, .top, .top], [.buf 9 0 out, .cells 145 [.sc (.int .i64 n_), .sc (.int .i64 n__1), .sc (.int .i64 n__2), .sc (.int .i64 n__3), .sc (.int .i64 n__4), .sc (.int .i64 n__5), .sc (.int .i64 n__6), .sc (.int .i64 n__7)]], none⟩
noncomputable def f81.l0e (k : Nat) (t9n : Nat) (t9f : Nat → PV) (t10 : Int) (out : List PV) (n_ n__1 n__2 n__3 n__4 n__5 n__6 n__7 : Int) : Option PV := loopAt Tryz.prog cf ext hint k 81 [1, 1, 1, 0, 1, 0] ⟨[.top, .top, .top, .buf 0 0, .ptr 1 0, .top, .top, .top, .top, .lst 1 t9n t9f, .sc (.int .i64 t10), .sc (.int .i64 4), .top, .top, .top, .top, .top, .top, .top, .top, .top, .top, .top, .top, .top, .top, .top, .top, .top, .top, .top, .top, .top, .top, .top, .top, .top, .top], [.buf 9 0 out, .cells 145 [.sc (.int .i64 n_), .sc (.int .i64 n__1), .sc (.int .i64 n__2), .sc (.int .i64 n__3), .sc (.int .i64 n__4), .sc (.int .i64 n__5), .sc (.int .i64 n__6), .sc (.int .i64 n__7)]], none⟩
noncomputable def f81.l0f (k : Nat) (t9n : Nat) (t9f : Nat → PV) (t10 : Int) (out : List PV) (n_ n__1 n__2 n__3 n__4 n__5 n__6 n__7 : Int) : Option PV := loopAt Tryz.prog cf ext hint k 81 [1, 1, 1, 0, 1, 0] ⟨[.top, .top, .top, .buf 0 0, .ptr 1 0, .top, .top, .top, .top, .lst 1 t9n t9f, .sc (.int .i64 t10), .sc (.int .i64 5), .top, .top, .top, .top, .top, .top, .top, .top, .top, .top, .top, .top, .top, .top, .top, .top, .top, .top, .top, .top, .top, .top, .top, .top, .top, .top], [.buf 9 0 out, .cells 145 [.sc (.int .i64 n_), .sc (.int .i64 n__1), .sc (.int .i64 n__2), .sc (.int .i64 n__3), .sc (.int .i64 n__4), .sc (.int .i64 n__5), .sc (.int .i64 n__6), .sc (.int .i64 n__7)]], none⟩
noncomputable def f81.l0g (k : Nat) (t9n : Nat) (t9f : Nat → PV) (t10 : Int) (out : List PV) (n_ n__1 n__2 n__3 n__4 n__5 n__6 n__7 : Int) : Option PV := loopAt Tryz.prog cf ext hint k 81 [1, 1, 1, 0, 1, 0] ⟨[.top, .top, .top, .buf 0 0, .ptr 1 0, .top, .top, .top, .top, .lst 1 t9n t9f, .sc (.int .i64 t10), .sc (.int .i64 6), .top, .top, .top, .top, .top, .top, .top, .top, .top, .top, .top, .top, .top, .top, .top, .top, .top, .top, .top, .top, .top, .top, .top, .top, .top, .top], [.buf 9 0 out, .cells 145 [.sc (.int .i64 n_), .sc (.int .i64 n__1), .sc (.int .i64 n__2), .sc (.int .i64 n__3), .sc (.int .i64 n__4), .sc (.int .i64 n__5), .sc (.int .i64 n__6), .sc (.int .i64 n__7)]], none⟩
noncomputable def f81.l0h (k : Nat) (t9n : Nat) (t9f : Nat → PV) (t10 : Int) (out : List PV) (n_ n__1 n__2 n__3 n__4 n__5 n__6 n__7 : Int) : Option PV := loopAt Tryz.prog cf ext hint k 81 [1, 1, 1, 0, 1, 0] ⟨[.top, .top, .top, .buf 0 0, .ptr 1 0, .top, .top, .top, .top, .lst 1 t9n t9f, .sc (.int .i64 t10), .sc (.int .i64 7), .top, .top, .top, .top, .top, .top, .top, .top, .top, .top, .top, .top, .top, .top, .top, .top, .top, .top, .top, .top, .top, .top, .top, .top, .top, .top], [.buf 9 0 out, .cells 145 [.sc (.int .i64 n_), .sc (.int .i64 n__1), .sc (.int .i64 n__2), .sc (.int .i64 n__3), .sc (.int .i64 n__4), .sc (.int .i64 n__5), .sc (.int .i64 n__6), .sc (.int .i64 n__7)]], none⟩
noncomputable def f81.l0i (k : Nat) (t9n : Nat) (t9f : Nat → PV) (t10 : Int) (out : List PV) (n_ n__1 n__2 n__3 n__4 n__5 n__6 n__7 : Int) : Option PV := loopAt Tryz.prog cf ext hint k 81 [1, 1, 1, 0, 1, 0] ⟨[.top, .top, .top, .buf 0 0, .ptr 1 0, .top, .top, .top, .top, .lst 1 t9n t9f, .sc (.int .i64 t10), .sc (.int .i64 8), .top, .top, .top, .top, .top, .top, .top, .top, .top, .top, .top, .top, .top, .top, .top, .top, .top, .top, .top, .top, .top, .top, .top, .top, .top, .top], [.buf 9 0 out, .cells 145 [.sc (.int .i64 n_), .sc (.int .i64 n__1), .sc (.int .i64 n__2), .sc (.int .i64 n__3), .sc (.int .i64 n__4), .sc (.int .i64 n__5), .sc (.int .i64 n__6), .sc (.int .i64 n__7)]], none⟩
theorem f81_eq (k : Nat) (s_ s__1 s__2 s__3 s__4 s__5 s__6 s__7 : Int) : D 81 [.agg [.sc (.int .i64 s_), .sc (.int .i64 s__1), .sc (.int .i64 s__2), .sc (.int .i64 s__3), .sc (.int .i64 s__4), .sc (.int .i64 s__5), .sc (.int .i64 s__6), .sc (.int .i64 s__7)]] =
  (D 119 [.agg [.sc (.int .i64 s_), .sc (.int .i64 s__1), .sc (.int .i64 s__2), .sc (.int .i64 s__3), .sc (.int .i64 s__4), .sc (.int .i64 s__5), .sc (.int .i64 s__6), .sc (.int .i64 s__7)]]).bind fun r1 => if hasSh (.agg [(.int .i64), (.int .i64), (.int .i64), (.int .i64), (.int .i64), (.int .i64), (.int .i64), (.int .i64)]) r1 = true then
  (D 120 [.sc (.string (⟨#[99, 101, 108, 108, 115, 32, 104, 105, 100, 100, 101, 110, 32, 98, 108, 97, 110, 107, 115, 32, 110, 117, 109, 98, 101, 114, 115, 32, 116, 101, 120, 116, 115, 32, 116, 114, 117, 116, 104, 115, 32, 102, 97, 117, 108, 116, 115, 32, 99, 121, 99, 108, 101, 115]⟩ : ByteArray))]).bind fun r2 => if hasSh (.lst 1) r2 = true then
  f81.l0a k r2.len r2.at (r2.len : Int) ((cel 0 r1.cells).toInt) ((cel 1 r1.cells).toInt) ((cel 2 r1.cells).toInt) ((cel 3 r1.cells).toInt) ((cel 4 r1.cells).toInt) ((cel 5 r1.cells).toInt) ((cel 6 r1.cells).toInt) ((cel 7 r1.cells).toInt)
  else none
  else none :=
  (denI_eq k _ _).trans (by kernel_rfl)
theorem f81.l0a_eq (k : Nat) (t9n : Nat) (t9f : Nat → PV) (t10 n_ n__1 n__2 n__3 n__4 n__5 n__6 n__7 : Int) : f81.l0a k t9n t9f t10 n_ n__1 n__2 n__3 n__4 n__5 n__6 n__7 =
  if decide ((0 : Int) < t10) = true then
    if 0 < (t9n : Int) then
      if hasSh .str (t9f 0) = true then
        Option.bind (α := PV) (
          if decide (n_ < 0) = true then
            some (.sc (.bool true))
          else
            some (.sc (.bool (decide (n_ > 1000000000))))) fun r3 =>
        if r3.toBool = true then
          some (.sc (.string (⟨#[]⟩ : ByteArray)))
        else
          (D 64 [.sc (.int .i64 (IntKind.i64.wrap (n_ * 10000)))]).bind fun r4 => if hasSh .str r4 = true then
          if ([.sc (.string ((t9f 0).toStr)), .sc (.string r4.toStr)] : List PV).length * 16 ≤ 140737488355328 ∧ ([.sc (.string ((t9f 0).toStr)), .sc (.string r4.toStr)] : List PV).length ≤ 140737488355328 then
            f81.l0b k t9n t9f t10 ([.sc (.string ((t9f 0).toStr)), .sc (.string r4.toStr)] : List PV) n_ n__1 n__2 n__3 n__4 n__5 n__6 n__7
          else none
          else none
      else none
    else none
  else
    (D 79 [.lst 1 0 (fun _ => .top), .sc (.string (⟨#[32]⟩ : ByteArray))]).bind fun r5 => if hasSh .str r5 = true then
    some (.sc (.string r5.toStr))
    else none :=
  (loopAt_eq _ _ _ _).trans (by kernel_rfl)
theorem f81.l0b_eq (k : Nat) (t9n : Nat) (t9f : Nat → PV) (t10 : Int) (out : List PV) (n_ n__1 n__2 n__3 n__4 n__5 n__6 n__7 : Int) : f81.l0b k t9n t9f t10 out n_ n__1 n__2 n__3 n__4 n__5 n__6 n__7 =
  if decide ((1 : Int) < t10) = true then
    if 1 < (t9n : Int) then
      if hasSh .str (t9f 1) = true then
        Option.bind (α := PV) (
          if decide (n__1 < 0) = true then
            some (.sc (.bool true))
          else
            some (.sc (.bool (decide (n__1 > 1000000000))))) fun r6 =>
        if r6.toBool = true then
          some (.sc (.string (⟨#[]⟩ : ByteArray)))
        else
          (D 64 [.sc (.int .i64 (IntKind.i64.wrap (n__1 * 10000)))]).bind fun r7 => if hasSh .str r7 = true then
          if (out.length + ([.sc (.string ((t9f 1).toStr)), .sc (.string r7.toStr)] : List PV).length) * 16 ≤ 140737488355328 ∧ out.length + ([.sc (.string ((t9f 1).toStr)), .sc (.string r7.toStr)] : List PV).length ≤ 140737488355328 then
            f81.l0c k t9n t9f t10 (out ++ ([.sc (.string ((t9f 1).toStr)), .sc (.string r7.toStr)] : List PV)) n_ n__1 n__2 n__3 n__4 n__5 n__6 n__7
          else none
          else none
      else none
    else none
  else
    (D 79 [frozen 1 out, .sc (.string (⟨#[32]⟩ : ByteArray))]).bind fun r8 => if hasSh .str r8 = true then
    some (.sc (.string r8.toStr))
    else none :=
  (loopAt_eq _ _ _ _).trans (by kernel_rfl)
theorem f81.l0c_eq (k : Nat) (t9n : Nat) (t9f : Nat → PV) (t10 : Int) (out : List PV) (n_ n__1 n__2 n__3 n__4 n__5 n__6 n__7 : Int) : f81.l0c k t9n t9f t10 out n_ n__1 n__2 n__3 n__4 n__5 n__6 n__7 =
  if decide ((2 : Int) < t10) = true then
    if 2 < (t9n : Int) then
      if hasSh .str (t9f 2) = true then
        Option.bind (α := PV) (
          if decide (n__2 < 0) = true then
            some (.sc (.bool true))
          else
            some (.sc (.bool (decide (n__2 > 1000000000))))) fun r9 =>
        if r9.toBool = true then
          some (.sc (.string (⟨#[]⟩ : ByteArray)))
        else
          (D 64 [.sc (.int .i64 (IntKind.i64.wrap (n__2 * 10000)))]).bind fun r10 => if hasSh .str r10 = true then
          if (out.length + ([.sc (.string ((t9f 2).toStr)), .sc (.string r10.toStr)] : List PV).length) * 16 ≤ 140737488355328 ∧ out.length + ([.sc (.string ((t9f 2).toStr)), .sc (.string r10.toStr)] : List PV).length ≤ 140737488355328 then
            f81.l0d k t9n t9f t10 (out ++ ([.sc (.string ((t9f 2).toStr)), .sc (.string r10.toStr)] : List PV)) n_ n__1 n__2 n__3 n__4 n__5 n__6 n__7
          else none
          else none
      else none
    else none
  else
    (D 79 [frozen 1 out, .sc (.string (⟨#[32]⟩ : ByteArray))]).bind fun r11 => if hasSh .str r11 = true then
    some (.sc (.string r11.toStr))
    else none :=
  (loopAt_eq _ _ _ _).trans (by kernel_rfl)
theorem f81.l0d_eq (k : Nat) (t9n : Nat) (t9f : Nat → PV) (t10 : Int) (out : List PV) (n_ n__1 n__2 n__3 n__4 n__5 n__6 n__7 : Int) : f81.l0d k t9n t9f t10 out n_ n__1 n__2 n__3 n__4 n__5 n__6 n__7 =
  if decide ((3 : Int) < t10) = true then
    if 3 < (t9n : Int) then
      if hasSh .str (t9f 3) = true then
        Option.bind (α := PV) (
          if decide (n__3 < 0) = true then
            some (.sc (.bool true))
          else
            some (.sc (.bool (decide (n__3 > 1000000000))))) fun r12 =>
        if r12.toBool = true then
          some (.sc (.string (⟨#[]⟩ : ByteArray)))
        else
          (D 64 [.sc (.int .i64 (IntKind.i64.wrap (n__3 * 10000)))]).bind fun r13 => if hasSh .str r13 = true then
          if (out.length + ([.sc (.string ((t9f 3).toStr)), .sc (.string r13.toStr)] : List PV).length) * 16 ≤ 140737488355328 ∧ out.length + ([.sc (.string ((t9f 3).toStr)), .sc (.string r13.toStr)] : List PV).length ≤ 140737488355328 then
            f81.l0e k t9n t9f t10 (out ++ ([.sc (.string ((t9f 3).toStr)), .sc (.string r13.toStr)] : List PV)) n_ n__1 n__2 n__3 n__4 n__5 n__6 n__7
          else none
          else none
      else none
    else none
  else
    (D 79 [frozen 1 out, .sc (.string (⟨#[32]⟩ : ByteArray))]).bind fun r14 => if hasSh .str r14 = true then
    some (.sc (.string r14.toStr))
    else none :=
  (loopAt_eq _ _ _ _).trans (by kernel_rfl)
theorem f81.l0e_eq (k : Nat) (t9n : Nat) (t9f : Nat → PV) (t10 : Int) (out : List PV) (n_ n__1 n__2 n__3 n__4 n__5 n__6 n__7 : Int) : f81.l0e k t9n t9f t10 out n_ n__1 n__2 n__3 n__4 n__5 n__6 n__7 =
  if decide ((4 : Int) < t10) = true then
    if 4 < (t9n : Int) then
      if hasSh .str (t9f 4) = true then
        Option.bind (α := PV) (
          if decide (n__4 < 0) = true then
            some (.sc (.bool true))
          else
            some (.sc (.bool (decide (n__4 > 1000000000))))) fun r15 =>
        if r15.toBool = true then
          some (.sc (.string (⟨#[]⟩ : ByteArray)))
        else
          (D 64 [.sc (.int .i64 (IntKind.i64.wrap (n__4 * 10000)))]).bind fun r16 => if hasSh .str r16 = true then
          if (out.length + ([.sc (.string ((t9f 4).toStr)), .sc (.string r16.toStr)] : List PV).length) * 16 ≤ 140737488355328 ∧ out.length + ([.sc (.string ((t9f 4).toStr)), .sc (.string r16.toStr)] : List PV).length ≤ 140737488355328 then
            f81.l0f k t9n t9f t10 (out ++ ([.sc (.string ((t9f 4).toStr)), .sc (.string r16.toStr)] : List PV)) n_ n__1 n__2 n__3 n__4 n__5 n__6 n__7
          else none
          else none
      else none
    else none
  else
    (D 79 [frozen 1 out, .sc (.string (⟨#[32]⟩ : ByteArray))]).bind fun r17 => if hasSh .str r17 = true then
    some (.sc (.string r17.toStr))
    else none :=
  (loopAt_eq _ _ _ _).trans (by kernel_rfl)
theorem f81.l0f_eq (k : Nat) (t9n : Nat) (t9f : Nat → PV) (t10 : Int) (out : List PV) (n_ n__1 n__2 n__3 n__4 n__5 n__6 n__7 : Int) : f81.l0f k t9n t9f t10 out n_ n__1 n__2 n__3 n__4 n__5 n__6 n__7 =
  if decide ((5 : Int) < t10) = true then
    if 5 < (t9n : Int) then
      if hasSh .str (t9f 5) = true then
        Option.bind (α := PV) (
          if decide (n__5 < 0) = true then
            some (.sc (.bool true))
          else
            some (.sc (.bool (decide (n__5 > 1000000000))))) fun r18 =>
        if r18.toBool = true then
          some (.sc (.string (⟨#[]⟩ : ByteArray)))
        else
          (D 64 [.sc (.int .i64 (IntKind.i64.wrap (n__5 * 10000)))]).bind fun r19 => if hasSh .str r19 = true then
          if (out.length + ([.sc (.string ((t9f 5).toStr)), .sc (.string r19.toStr)] : List PV).length) * 16 ≤ 140737488355328 ∧ out.length + ([.sc (.string ((t9f 5).toStr)), .sc (.string r19.toStr)] : List PV).length ≤ 140737488355328 then
            f81.l0g k t9n t9f t10 (out ++ ([.sc (.string ((t9f 5).toStr)), .sc (.string r19.toStr)] : List PV)) n_ n__1 n__2 n__3 n__4 n__5 n__6 n__7
          else none
          else none
      else none
    else none
  else
    (D 79 [frozen 1 out, .sc (.string (⟨#[32]⟩ : ByteArray))]).bind fun r20 => if hasSh .str r20 = true then
    some (.sc (.string r20.toStr))
    else none :=
  (loopAt_eq _ _ _ _).trans (by kernel_rfl)
theorem f81.l0g_eq (k : Nat) (t9n : Nat) (t9f : Nat → PV) (t10 : Int) (out : List PV) (n_ n__1 n__2 n__3 n__4 n__5 n__6 n__7 : Int) : f81.l0g k t9n t9f t10 out n_ n__1 n__2 n__3 n__4 n__5 n__6 n__7 =
  if decide ((6 : Int) < t10) = true then
    if 6 < (t9n : Int) then
      if hasSh .str (t9f 6) = true then
        Option.bind (α := PV) (
          if decide (n__6 < 0) = true then
            some (.sc (.bool true))
          else
            some (.sc (.bool (decide (n__6 > 1000000000))))) fun r21 =>
        if r21.toBool = true then
          some (.sc (.string (⟨#[]⟩ : ByteArray)))
        else
          (D 64 [.sc (.int .i64 (IntKind.i64.wrap (n__6 * 10000)))]).bind fun r22 => if hasSh .str r22 = true then
          if (out.length + ([.sc (.string ((t9f 6).toStr)), .sc (.string r22.toStr)] : List PV).length) * 16 ≤ 140737488355328 ∧ out.length + ([.sc (.string ((t9f 6).toStr)), .sc (.string r22.toStr)] : List PV).length ≤ 140737488355328 then
            f81.l0h k t9n t9f t10 (out ++ ([.sc (.string ((t9f 6).toStr)), .sc (.string r22.toStr)] : List PV)) n_ n__1 n__2 n__3 n__4 n__5 n__6 n__7
          else none
          else none
      else none
    else none
  else
    (D 79 [frozen 1 out, .sc (.string (⟨#[32]⟩ : ByteArray))]).bind fun r23 => if hasSh .str r23 = true then
    some (.sc (.string r23.toStr))
    else none :=
  (loopAt_eq _ _ _ _).trans (by kernel_rfl)
theorem f81.l0h_eq (k : Nat) (t9n : Nat) (t9f : Nat → PV) (t10 : Int) (out : List PV) (n_ n__1 n__2 n__3 n__4 n__5 n__6 n__7 : Int) : f81.l0h k t9n t9f t10 out n_ n__1 n__2 n__3 n__4 n__5 n__6 n__7 =
  if decide ((7 : Int) < t10) = true then
    if 7 < (t9n : Int) then
      if hasSh .str (t9f 7) = true then
        Option.bind (α := PV) (
          if decide (n__7 < 0) = true then
            some (.sc (.bool true))
          else
            some (.sc (.bool (decide (n__7 > 1000000000))))) fun r24 =>
        if r24.toBool = true then
          some (.sc (.string (⟨#[]⟩ : ByteArray)))
        else
          (D 64 [.sc (.int .i64 (IntKind.i64.wrap (n__7 * 10000)))]).bind fun r25 => if hasSh .str r25 = true then
          if (out.length + ([.sc (.string ((t9f 7).toStr)), .sc (.string r25.toStr)] : List PV).length) * 16 ≤ 140737488355328 ∧ out.length + ([.sc (.string ((t9f 7).toStr)), .sc (.string r25.toStr)] : List PV).length ≤ 140737488355328 then
            f81.l0i k t9n t9f t10 (out ++ ([.sc (.string ((t9f 7).toStr)), .sc (.string r25.toStr)] : List PV)) n_ n__1 n__2 n__3 n__4 n__5 n__6 n__7
          else none
          else none
      else none
    else none
  else
    (D 79 [frozen 1 out, .sc (.string (⟨#[32]⟩ : ByteArray))]).bind fun r26 => if hasSh .str r26 = true then
    some (.sc (.string r26.toStr))
    else none :=
  (loopAt_eq _ _ _ _).trans (by kernel_rfl)
theorem f81.l0i_eq (k : Nat) (t9n : Nat) (t9f : Nat → PV) (t10 : Int) (out : List PV) (n_ n__1 n__2 n__3 n__4 n__5 n__6 n__7 : Int) : f81.l0i k t9n t9f t10 out n_ n__1 n__2 n__3 n__4 n__5 n__6 n__7 =
  if decide ((8 : Int) < t10) = true then
    if 8 < (t9n : Int) then
      if hasSh .str (t9f 8) = true then none else none
    else none
  else
    (D 79 [frozen 1 out, .sc (.string (⟨#[32]⟩ : ByteArray))]).bind fun r27 => if hasSh .str r27 = true then
    some (.sc (.string r27.toStr))
    else none :=
  (loopAt_eq _ _ _ _).trans (by kernel_rfl)
-- (oculus/stats.Stats).counts
theorem f119_eq (k : Nat) (s_ s__1 s__2 s__3 s__4 s__5 s__6 s__7 : Int) : D 119 [.agg [.sc (.int .i64 s_), .sc (.int .i64 s__1), .sc (.int .i64 s__2), .sc (.int .i64 s__3), .sc (.int .i64 s__4), .sc (.int .i64 s__5), .sc (.int .i64 s__6), .sc (.int .i64 s__7)]] =
  some (.agg [.sc (.int .i64 s_), .sc (.int .i64 s__1), .sc (.int .i64 s__2), .sc (.int .i64 s__3), .sc (.int .i64 s__4), .sc (.int .i64 s__5), .sc (.int .i64 s__6), .sc (.int .i64 s__7)]) :=
  (denI_eq k _ _).trans (by kernel_rfl)
end ER
end Go.Den
