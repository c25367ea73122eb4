import Derived.Test.YtcfhllbobapaiaaDoorETh
import Derived.KernelRfl
set_option maxRecDepth 100000
set_option linter.unusedVariables false
namespace Go.Den
open Go Go.Proofs
namespace ET
-- oculus/oculusref14.Fixed
noncomputable def f53.l0a (k : Nat) (places : Int) (s_ : ByteArray) (behind i : Int) (c0 : ByteArray) (c0_1 : Bool) : Option PV := loopAt Tryd.prog cf ext hint k 53 [1, 1, 1, 1, 1, 1, 0, 1, 0] ⟨[.top, .sc (.int .i64 places), .top, .top, .ptr 0 0, .top, .sc (.string s_), .sc (.int .i64 behind), .sc (.int .i64 i), .top, .top, .top, .top, .top, .top, .top, .top, .top, .top, .top, .top, .top, .top, .top, .top, .top, .top, .top, .top, .top, .top, .top, .top, .top, .top, .top, .top, .top, .top, .top, .top, .top, .top, .top, .top, .top, .top, .top, .top, .top, .top, .top, .top, .top, .top, .top, .top, .top, .top, .top, .top, .top], [.cells 67 [.sc (.string c0), .sc (.bool c0_1)]], none⟩
noncomputable def f53.j1a (k : Nat) (places : Int) (s_ : ByteArray) (behind : Int) (c0 : ByteArray) (c0_1 : Bool) : Option PV := gateK k (placeAt Tryd.prog cf ext hint k 53 [1, 1, 1, 1, 1, 1, 1, 1]) ⟨[.top, .sc (.int .i64 places), .top, .top, .ptr 0 0, .top, .sc (.string s_), .sc (.int .i64 behind), .top, .top, .top, .top, .top, .top, .top, .top, .top, .top, .top, .top, .top, .top, .top, .top, .top, .top, .top, .top, .top, .top, .top, .top, .top, .top, .top, .top, .top, .top, .top, .top, .top, .top, .top, .top, .top, .top, .top, .top, .top, .top, .top, .top, .top, .top, .top, .top, .top, .top, .top, .top, .top, .top], [.cells 67 [.sc (.string c0), .sc (.bool c0_1)]], none⟩
noncomputable def f53.l2a (k : Nat) (places : Int) (s_ : ByteArray) (behind : Int) (c0 : ByteArray) (c0_1 : Bool) : Option PV := loopAt Tryd.prog cf ext hint k 53 [1, 1, 1, 1, 1, 1, 1, 1, 0, 0] ⟨[.top, .sc (.int .i64 places), .top, .top, .ptr 0 0, .top, .sc (.string s_), .sc (.int .i64 behind), .top, .top, .top, .top, .top, .top, .top, .top, .top, .top, .top, .top, .top, .top, .top, .top, .top, .top, .top, .top, .top, .top, .top, .top, .top, .top, .top, .top, .top, .top, .top, .top, .top, .top, .top, .top, .top, .top, .top, .top, .top, .top, .top, .top, .top, .top, .top, .top, .top, .top, .top, .top, .top, .top], [.cells 67 [.sc (.string c0), .sc (.bool c0_1)]], none⟩
theorem f53_eq (k : Nat) (x_ places : Int) : D 53 [.sc (.int .i64 x_), .sc (.int .i64 places)] =
  Option.bind (α := PV) (
    if decide (places < 0) = true then
      some (.sc (.bool true))
    else
      some (.sc (.bool (decide (places > 4))))) fun r1 =>
  if r1.toBool = true then
    some (.agg [.sc (.string (⟨#[]⟩ : ByteArray)), .sc (.bool false)])
  else
    (D 112 [.sc (.int .i64 x_), .sc (.int .i64 places), .sc (.int .i64 1)]).bind fun r2 => if hasSh (.agg [(.int .i64), .bool]) r2 = true then
    if (!((cel 1 r2.cells).toBool)) = true then
      some (.agg [.sc (.string (⟨#[]⟩ : ByteArray)), .sc (.bool false)])
    else
      (D 18 [.sc (.int .i64 ((cel 0 r2.cells).toInt))]).bind fun r3 => if hasSh .str r3 = true then
      f53.l0a k places r3.toStr (-1) 0 (⟨#[]⟩ : ByteArray) false
      else none
    else none :=
  (denI_eq k _ _).trans (by kernel_rfl)
theorem f53.l0a_eq (k : Nat) (places : Int) (s_ : ByteArray) (behind i : Int) (c0 : ByteArray) (c0_1 : Bool) : f53.l0a k places s_ behind i c0 c0_1 =
  if decide (i < (s_.size : Int)) = true then
    if 0 ≤ i then
      if i < (s_.size : Int) then
        if ((bt s_ i) == 46) = true then
          f53.l0a k places s_ (IntKind.i64.wrap ((IntKind.i64.wrap ((s_.size : Int) - i)) - 1)) (IntKind.i64.wrap (i + 1)) c0 c0_1
        else
          f53.l0a k places s_ behind (IntKind.i64.wrap (i + 1)) c0 c0_1
      else none
    else none
  else
    Option.bind (α := PV) (
      if decide (behind < 0) = true then
        some (.sc (.bool (decide (places > 0))))
      else
        some (.sc (.bool false))) fun r4 =>
    if r4.toBool = true then
      if s_.size + 1 ≤ 9223372036854775807 then
        f53.j1a k places (s_ ++ (⟨#[46]⟩ : ByteArray)) 0 c0 c0_1
      else none
    else
      f53.j1a k places s_ behind c0 c0_1 :=
  (loopAt_eq _ _ _ _).trans (by kernel_rfl)
theorem f53.j1a_eq (k : Nat) (places : Int) (s_ : ByteArray) (behind : Int) (c0 : ByteArray) (c0_1 : Bool) : f53.j1a k places s_ behind c0 c0_1 =
  f53.l2a k places s_ behind c0 c0_1 :=
  (gateK_open _ _ _).trans (by kernel_rfl)
theorem f53.l2a_eq (k : Nat) (places : Int) (s_ : ByteArray) (behind : Int) (c0 : ByteArray) (c0_1 : Bool) : f53.l2a k places s_ behind c0 c0_1 =
  Option.bind (α := PV) (
    if decide (behind ≥ 0) = true then
      some (.sc (.bool (decide (behind < places))))
    else
      some (.sc (.bool false))) fun r5 =>
  if r5.toBool = true then
    if s_.size + 1 ≤ 9223372036854775807 then
      f53.l2a k places (s_ ++ (⟨#[48]⟩ : ByteArray)) (IntKind.i64.wrap (behind + 1)) c0 c0_1
    else none
  else
    some (.agg [.sc (.string s_), .sc (.bool true)]) :=
  (loopAt_eq _ _ _ _).trans (by kernel_rfl)
-- oculus/oculusref11.Text
noncomputable def f18.j0a (k : Nat) (n_ : Int) (s_ : ByteArray) : Option PV := gateK k (placeAt Tryd.prog cf ext hint k 18 [1, 1, 1, 1, 1]) ⟨[.top, .top, .top, .sc (.int .u64 n_), .sc (.string s_), .top, .top, .top, .top, .top, .top, .top, .top, .top, .top, .top, .top, .top, .top, .top, .top, .top, .top, .top, .top, .top, .top, .top, .top, .top, .top, .top, .top, .top, .top], [], none⟩
noncomputable def f18.j1a (k : Nat) (s_ : ByteArray) (rest : Int) : Option PV := gateK k (placeAt Tryd.prog cf ext hint k 18 [1, 1, 1, 1, 1, 1, 1]) ⟨[.top, .top, .top, .top, .sc (.string s_), .sc (.int .u64 rest), .top, .top, .top, .top, .top, .top, .top, .top, .top, .top, .top, .top, .top, .top, .top, .top, .top, .top, .top, .top, .top, .top, .top, .top, .top, .top, .top, .top, .top], [], none⟩
noncomputable def f18.l2a (k : Nat) (s_ : ByteArray) (rest : Int) : Option PV := loopAt Tryd.prog cf ext hint k 18 [1, 1, 1, 1, 1, 1, 1, 0, 0] ⟨[.top, .top, .top, .top, .sc (.string s_), .sc (.int .u64 rest), .top, .top, .top, .top, .top, .top, .top, .top, .top, .top, .top, .top, .top, .top, .top, .top, .top, .top, .top, .top, .top, .top, .top, .top, .top, .top, .top, .top, .top], [], none⟩
theorem f18_eq (k : Nat) (x_ : Int) : D 18 [.sc (.int .i64 x_)] =
  (D 19 [.sc (.int .i64 x_)]).bind fun r1 => if hasSh .bool r1 = true then
  if (!r1.toBool) = true then
    some (.sc (.string (⟨#[]⟩ : ByteArray)))
  else
    (D 70 [.sc (.int .i64 x_)]).bind fun r2 => if hasSh (.int .u64) r2 = true then
    (D 71 [.sc (.int .u64 (IntKind.u64.wrap (r2.toInt.tdiv 10000)))]).bind fun r3 => if hasSh .str r3 = true then
    if decide (x_ < 0) = true then
      if 1 + r3.toStr.size ≤ 9223372036854775807 then
        f18.j0a k r2.toInt ((⟨#[45]⟩ : ByteArray) ++ r3.toStr)
      else none
    else
      f18.j0a k r2.toInt r3.toStr
    else none
    else none
  else none :=
  (denI_eq k _ _).trans (by kernel_rfl)
theorem f18.j0a_eq (k : Nat) (n_ : Int) (s_ : ByteArray) : f18.j0a k n_ s_ =
  if decide ((n_.tmod 10000) > 0) = true then
    if s_.size + 1 ≤ 9223372036854775807 then
      f18.j1a k (s_ ++ (⟨#[46]⟩ : ByteArray)) (n_.tmod 10000)
    else none
  else
    f18.j1a k s_ (n_.tmod 10000) :=
  (gateK_open _ _ _).trans (by kernel_rfl)
theorem f18.j1a_eq (k : Nat) (s_ : ByteArray) (rest : Int) : f18.j1a k s_ rest =
  f18.l2a k s_ rest :=
  (gateK_open _ _ _).trans (by kernel_rfl)
theorem f18.l2a_eq (k : Nat) (s_ : ByteArray) (rest : Int) : f18.l2a k s_ rest =
  if decide (rest > 0) = true then
    (D 71 [.sc (.int .u64 (IntKind.u64.wrap (rest.tdiv 1000)))]).bind fun r4 => if hasSh .str r4 = true then
    if s_.size + r4.toStr.size ≤ 9223372036854775807 then
      f18.l2a k (s_ ++ r4.toStr) (IntKind.u64.wrap ((rest.tmod 1000) * 10))
    else none
    else none
  else
    some (.sc (.string s_)) :=
  (loopAt_eq _ _ _ _).trans (by kernel_rfl)
-- oculus/oculusref11.whole
noncomputable def f71.l0a (k : Nat) (n_ : Int) (s_ : ByteArray) : Option PV := loopAt Tryd.prog cf ext hint k 71 [1, 1, 0, 1, 0] ⟨[.sc (.int .u64 n_), .top, .top, .sc (.string s_), .top, .top, .top, .top, .top, .top, .top, .top, .top, .top, .top, .top, .top, .top, .top, .top, .top, .top, .top, .top, .top], [], none⟩
theorem f71_eq (k : Nat) (n_ : Int) : D 71 [.sc (.int .u64 n_)] =
  if ([.sc (.int .u8 (IntKind.u8.wrap (IntKind.u64.wrap ((48 : Int) + (n_.tmod 10)))))] : List PV).all (hasSh (.int .u8)) = true then
    f71.l0a k (IntKind.u64.wrap (n_.tdiv 10)) (bytesOf ([.sc (.int .u8 (IntKind.u8.wrap (IntKind.u64.wrap ((48 : Int) + (n_.tmod 10)))))] : List PV))
  else none :=
  (denI_eq k _ _).trans (by kernel_rfl)
theorem f71.l0a_eq (k : Nat) (n_ : Int) (s_ : ByteArray) : f71.l0a k n_ s_ =
  if decide (n_ > 0) = true then
    if ([.sc (.int .u8 (IntKind.u8.wrap (IntKind.u64.wrap ((48 : Int) + (n_.tmod 10)))))] : List PV).all (hasSh (.int .u8)) = true then
      if (bytesOf ([.sc (.int .u8 (IntKind.u8.wrap (IntKind.u64.wrap ((48 : Int) + (n_.tmod 10)))))] : List PV)).size + s_.size ≤ 9223372036854775807 then
        f71.l0a k (IntKind.u64.wrap (n_.tdiv 10)) ((bytesOf ([.sc (.int .u8 (IntKind.u8.wrap (IntKind.u64.wrap ((48 : Int) + (n_.tmod 10)))))] : List PV)) ++ s_)
      else none
    else none
  else
    some (.sc (.string s_)) :=
  (loopAt_eq _ _ _ _).trans (by kernel_rfl)
-- oculus/oculusref09.Places
noncomputable def f112.l0a (k : Nat) (x_ places mode step c0 : Int) (c0_1 : Bool) : Option PV := loopAt Tryd.prog cf ext hint k 112 [1, 1, 1, 0, 0] ⟨[.sc (.int .i64 x_), .sc (.int .i64 places), .sc (.int .i64 mode), .top, .top, .top, .ptr 0 0, .sc (.int .i64 step), .top, .top, .top, .top, .top, .top, .top, .top, .top, .top, .top, .top, .top], [.cells 28 [.sc (.int .i64 c0), .sc (.bool c0_1)]], none⟩
theorem f112_eq (k : Nat) (x_ places mode : Int) : D 112 [.sc (.int .i64 x_), .sc (.int .i64 places), .sc (.int .i64 mode)] =
  if decide (places < (-14)) = true then
    some (.agg [.sc (.int .i64 0), .sc (.bool false)])
  else
    f112.l0a k x_ places mode 1 0 false :=
  (denI_eq k _ _).trans (by kernel_rfl)
theorem f112.l0a_eq (k : Nat) (x_ places mode step c0 : Int) (c0_1 : Bool) : f112.l0a k x_ places mode step c0 c0_1 =
  if decide (places < 4) = true then
    f112.l0a k x_ (IntKind.i64.wrap (places + 1)) mode (IntKind.i64.wrap (step * 10)) c0 c0_1
  else
    (D 155 [.sc (.int .i64 x_), .sc (.int .i64 step), .sc (.int .i64 mode)]).bind fun r1 => if hasSh (.agg [(.int .i64), .bool]) r1 = true then
    some (.agg [.sc (.int .i64 ((cel 0 r1.cells).toInt)), .sc (.bool ((cel 1 r1.cells).toBool))])
    else none :=
  (loopAt_eq _ _ _ _).trans (by kernel_rfl)
-- oculus/oculusref09.Step
noncomputable def f155.j0a (k : Nat) (step q : Int) (up : Bool) (c0 : Int) (c0_1 : Bool) : Option PV := gateK k (placeAt Tryd.prog cf ext hint k 155 [1, 1, 1, 1, 1, 1, 1, 1]) ⟨[.top, .sc (.int .i64 step), .top, .top, .top, .top, .ptr 0 0, .sc (.int .i64 q), .top, .top, .sc (.bool up), .top, .top, .top, .top, .top, .top, .top, .top, .top, .top, .top, .top, .top, .top, .top, .top, .top, .top, .top, .top, .top, .top, .top, .top, .top, .top, .top, .top, .top, .top, .top, .top, .top, .top, .top, .top, .top, .top, .top, .top, .top, .top, .top, .top, .top, .top, .top, .top, .top, .top, .top, .top, .top, .top, .top, .top, .top, .top, .top, .top, .top, .top, .top, .top, .top, .top], [.cells 28 [.sc (.int .i64 c0), .sc (.bool c0_1)]], none⟩
noncomputable def f155.j1a (k : Nat) (step q c0 : Int) (c0_1 : Bool) : Option PV := gateK k (placeAt Tryd.prog cf ext hint k 155 [1, 1, 1, 1, 1, 1, 1, 1, 1]) ⟨[.top, .sc (.int .i64 step), .top, .top, .top, .top, .ptr 0 0, .sc (.int .i64 q), .top, .top, .top, .top, .top, .top, .top, .top, .top, .top, .top, .top, .top, .top, .top, .top, .top, .top, .top, .top, .top, .top, .top, .top, .top, .top, .top, .top, .top, .top, .top, .top, .top, .top, .top, .top, .top, .top, .top, .top, .top, .top, .top, .top, .top, .top, .top, .top, .top, .top, .top, .top, .top, .top, .top, .top, .top, .top, .top, .top, .top, .top, .top, .top, .top, .top, .top, .top, .top], [.cells 28 [.sc (.int .i64 c0), .sc (.bool c0_1)]], none⟩
theorem f155_eq (k : Nat) (x_ step mode : Int) : D 155 [.sc (.int .i64 x_), .sc (.int .i64 step), .sc (.int .i64 mode)] =
  Option.bind (α := PV) (
    if decide (step ≤ 0) = true then
      some (.sc (.bool true))
    else
      Option.bind (α := PV) (
        (D 19 [.sc (.int .i64 x_)]).bind fun r1 => if hasSh .bool r1 = true then
        some (.sc (.bool (!r1.toBool)))
        else none) fun r2 =>
      some (.sc (.bool r2.toBool))) fun r3 =>
  Option.bind (α := PV) (
    if r3.toBool = true then
      some (.sc (.bool true))
    else
      some (.sc (.bool (decide (mode < 1))))) fun r4 =>
  Option.bind (α := PV) (
    if r4.toBool = true then
      some (.sc (.bool true))
    else
      some (.sc (.bool (decide (mode > 5))))) fun r5 =>
  if r5.toBool = true then
    some (.agg [.sc (.int .i64 0), .sc (.bool false)])
  else
    (D 174 [.sc (.int .i64 x_), .sc (.int .i64 step)]).bind fun r6 => if hasSh (.int .i64) r6 = true then
    if ((IntKind.u64.wrap ((IntKind.u64.wrap (x_)) - (IntKind.u64.wrap ((IntKind.u64.wrap (r6.toInt)) * (IntKind.u64.wrap (step)))))) == 0) = true then
      some (.agg [.sc (.int .i64 x_), .sc (.bool true)])
    else
      if (mode == 1) = true then
        Option.bind (α := PV) (
          if decide ((IntKind.u64.wrap ((IntKind.u64.wrap (step)) - (IntKind.u64.wrap ((IntKind.u64.wrap (x_)) - (IntKind.u64.wrap ((IntKind.u64.wrap (r6.toInt)) * (IntKind.u64.wrap (step)))))))) < (IntKind.u64.wrap ((IntKind.u64.wrap (x_)) - (IntKind.u64.wrap ((IntKind.u64.wrap (r6.toInt)) * (IntKind.u64.wrap (step))))))) = true then
            some (.sc (.bool true))
          else
            Option.bind (α := PV) (
              Option.bind (α := PV) (
                Option.bind (α := PV) (
                  Option.bind (α := PV) (
                    if ((IntKind.u64.wrap ((IntKind.u64.wrap (step)) - (IntKind.u64.wrap ((IntKind.u64.wrap (x_)) - (IntKind.u64.wrap ((IntKind.u64.wrap (r6.toInt)) * (IntKind.u64.wrap (step)))))))) == (IntKind.u64.wrap ((IntKind.u64.wrap (x_)) - (IntKind.u64.wrap ((IntKind.u64.wrap (r6.toInt)) * (IntKind.u64.wrap (step))))))) = true then
                      some (.sc (.bool (decide (x_ > 0))))
                    else
                      some (.sc (.bool false))) fun r7 =>
                  some (.sc (.bool r7.toBool))) fun r8 =>
                some (.sc (.bool r8.toBool))) fun r9 =>
              some (.sc (.bool r9.toBool))) fun r10 =>
            some (.sc (.bool r10.toBool))) fun r11 =>
        f155.j0a k step r6.toInt r11.toBool 0 false
      else
        if (mode == 2) = true then
          f155.j0a k step r6.toInt (decide (x_ < 0)) 0 false
        else
          if (mode == 3) = true then
            f155.j0a k step r6.toInt (decide (x_ > 0)) 0 false
          else
            if (mode == 5) = true then
              f155.j0a k step r6.toInt true 0 false
            else
              f155.j0a k step r6.toInt false 0 false
    else none :=
  (denI_eq k _ _).trans (by kernel_rfl)
theorem f155.j0a_eq (k : Nat) (step q : Int) (up : Bool) (c0 : Int) (c0_1 : Bool) : f155.j0a k step q up c0 c0_1 =
  if up = true then
    f155.j1a k step (IntKind.i64.wrap (q + 1)) c0 c0_1
  else
    f155.j1a k step q c0 c0_1 :=
  (gateK_open _ _ _).trans (by kernel_rfl)
theorem f155.j1a_eq (k : Nat) (step q c0 : Int) (c0_1 : Bool) : f155.j1a k step q c0 c0_1 =
  (D 175 [.sc (.int .i64 q), .sc (.int .i64 step)]).bind fun r12 => if hasSh (.agg [(.int .i64), .bool]) r12 = true then
  some (.agg [.sc (.int .i64 ((cel 0 r12.cells).toInt)), .sc (.bool ((cel 1 r12.cells).toBool))])
  else none :=
  (gateK_open _ _ _).trans (by kernel_rfl)
-- oculus/oculusref09.down
theorem f174_eq (k : Nat) (x_ step : Int) : D 174 [.sc (.int .i64 x_), .sc (.int .i64 step)] =
  if IntKind.i64 = IntKind.i64 ∧ step ≠ 0 then
    Option.bind (α := PV) (
      if decide (x_ < 0) = true then
        some (.sc (.bool ((IntKind.i64.wrap ((IntKind.i64.wrap (x_.tdiv step)) * step)) != x_)))
      else
        some (.sc (.bool false))) fun r1 =>
    if r1.toBool = true then
      some (.sc (.int .i64 (IntKind.i64.wrap ((IntKind.i64.wrap (x_.tdiv step)) - 1))))
    else
      some (.sc (.int .i64 (IntKind.i64.wrap (x_.tdiv step))))
  else none :=
  (denI_eq k _ _).trans (by kernel_rfl)
-- oculus/oculusref09.times
theorem f175_eq (k : Nat) (q step : Int) : D 175 [.sc (.int .i64 q), .sc (.int .i64 step)] =
  (D 98 [.sc (.int .i64 q), .sc (.int .i64 step), .sc (.int .i64 1)]).bind fun r1 => if hasSh (.agg [(.int .i64), .bool]) r1 = true then
  some (.agg [.sc (.int .i64 ((cel 0 r1.cells).toInt)), .sc (.bool ((cel 1 r1.cells).toBool))])
  else none :=
  (denI_eq k _ _).trans (by kernel_rfl)
-- oculus/oculuslaw14.TextPuts
theorem f11_eq (k : Nat) (t q q_1 : ByteArray) (n_ : Int) : D 11 [.sc (.string t), .agg [.sc (.string q), .sc (.string q_1)], .sc (.int .i64 n_)] =
  Option.bind (α := PV) (
    if decide ((t.size : Int) > 400) = true then
      some (.sc (.bool true))
    else
      some (.sc (.bool (decide ((q.size : Int) > 400))))) fun r1 =>
  Option.bind (α := PV) (
    if r1.toBool = true then
      some (.sc (.bool true))
    else
      some (.sc (.bool (decide ((q_1.size : Int) > 400))))) fun r2 =>
  if r2.toBool = true then
    (D 47 []).bind fun r3 => if hasSh .bool r3 = true then
    some (.sc (.bool r3.toBool))
    else none
  else
    (D 48 [.sc (.string t), .sc (.string q), .sc (.string q_1)]).bind fun r4 => if hasSh (.tup [.str, .bool]) r4 = true then
    (D 49 [.sc (.string t), .sc (.string q), .sc (.string q_1)]).bind fun r5 => if hasSh (.agg [.str, .bool]) r5 = true then
    (D 50 [.sc (.string t), .sc (.int .i64 n_)]).bind fun r6 => if hasSh (.tup [.str, .bool]) r6 = true then
    (D 51 [.sc (.string t), .sc (.int .i64 n_)]).bind fun r7 => if hasSh (.agg [.str, .bool]) r7 = true then
    Option.bind (α := PV) (
      if (!(((cel 0 r4.parts).toStr).toList == ((cel 0 r5.cells).toStr).toList)) = true then
        some (.sc (.bool true))
      else
        some (.sc (.bool (!(((cel 1 r4.parts).toBool) == ((cel 1 r5.cells).toBool)))))) fun r8 =>
    Option.bind (α := PV) (
      if r8.toBool = true then
        some (.sc (.bool true))
      else
        some (.sc (.bool (!(((cel 0 r6.parts).toStr).toList == ((cel 0 r7.cells).toStr).toList))))) fun r9 =>
    Option.bind (α := PV) (
      if r9.toBool = true then
        some (.sc (.bool true))
      else
        some (.sc (.bool (!(((cel 1 r6.parts).toBool) == ((cel 1 r7.cells).toBool)))))) fun r10 =>
    if r10.toBool = true then
      some (.sc (.bool false))
    else
      (D 48 [.sc (.string t), .sc (.string q), .sc (.string q)]).bind fun r11 => if hasSh (.tup [.str, .bool]) r11 = true then
      Option.bind (α := PV) (
        if (((cel 1 r11.parts).toBool) == (decide ((t.size : Int) ≤ 256))) = true then
          Option.bind (α := PV) (
            Option.bind (α := PV) (
              Option.bind (α := PV) (
                if (!((cel 1 r11.parts).toBool)) = true then
                  some (.sc (.bool true))
                else
                  some (.sc (.bool (((cel 0 r11.parts).toStr).toList == t.toList)))) fun r12 =>
              some (.sc (.bool r12.toBool))) fun r13 =>
            some (.sc (.bool r13.toBool))) fun r14 =>
          some (.sc (.bool r14.toBool))
        else
          some (.sc (.bool false))) fun r15 =>
      Option.bind (α := PV) (
        if r15.toBool = true then
          (D 47 []).bind fun r16 => if hasSh .bool r16 = true then
          some (.sc (.bool r16.toBool))
          else none
        else
          some (.sc (.bool false))) fun r17 =>
      some (.sc (.bool r17.toBool))
      else none
    else none
    else none
    else none
    else none :=
  (denI_eq k _ _).trans (by kernel_rfl)
-- oculus/oculusref14.Put
noncomputable def f49.l0a (k : Nat) (t old with_ : ByteArray) (i : Int) (c0 : ByteArray) (c0_1 : Bool) (s_ : List PV) : Option PV := loopAt Tryd.prog cf ext hint k 49 [1, 1, 0, 1, 0] ⟨[.sc (.string t), .sc (.string old), .sc (.string with_), .top, .top, .top, .ptr 0 0, .buf 1 0, .sc (.int .i64 i), .top, .top, .top, .top, .top, .top, .top, .top, .top, .top, .top, .top, .top, .top, .top, .top, .top, .top, .top, .top, .top, .top, .top, .top, .top, .top, .top, .top, .top, .top, .top, .top, .top, .top, .top, .top, .top, .top, .top, .top, .top, .top, .top, .top, .top, .top], [.cells 67 [.sc (.string c0), .sc (.bool c0_1)], .buf 5 0 s_], none⟩
theorem f49_eq (k : Nat) (t old with_ : ByteArray) : D 49 [.sc (.string t), .sc (.string old), .sc (.string with_)] =
  f49.l0a k t old with_ 0 (⟨#[]⟩ : ByteArray) false ([] : List PV) :=
  (denI_eq k _ _).trans (by kernel_rfl)
theorem f49.l0a_eq (k : Nat) (t old with_ : ByteArray) (i : Int) (c0 : ByteArray) (c0_1 : Bool) (s_ : List PV) : f49.l0a k t old with_ i c0 c0_1 s_ =
  if decide (i < (t.size : Int)) = true then
    Option.bind (α := PV) (
      if decide ((old.size : Int) > 0) = true then
        some (.sc (.bool (decide ((IntKind.i64.wrap ((t.size : Int) - i)) ≥ (old.size : Int)))))
      else
        some (.sc (.bool false))) fun r1 =>
    Option.bind (α := PV) (
      if r1.toBool = true then
        Option.bind (α := PV) (
          Option.bind (α := PV) (
            Option.bind (α := PV) (
              Option.bind (α := PV) (
                Option.bind (α := PV) (
                  Option.bind (α := PV) (
                    if 0 ≤ IntKind.i64.wrap (i + (old.size : Int)) then
                      if IntKind.i64.wrap (i + (old.size : Int)) ≤ (t.size : Int) then
                        if 0 ≤ i then
                          if i ≤ IntKind.i64.wrap (i + (old.size : Int)) then
                            some (.sc (.bool ((t.extract i.toNat (IntKind.i64.wrap (i + (old.size : Int))).toNat).toList == old.toList)))
                          else none
                        else none
                      else none
                    else none) fun r2 =>
                  some (.sc (.bool r2.toBool))) fun r3 =>
                some (.sc (.bool r3.toBool))) fun r4 =>
              some (.sc (.bool r4.toBool))) fun r5 =>
            some (.sc (.bool r5.toBool))) fun r6 =>
          some (.sc (.bool r6.toBool))) fun r7 =>
        some (.sc (.bool r7.toBool))
      else
        some (.sc (.bool false))) fun r8 =>
    if r8.toBool = true then
      if (s_.length + (strB with_).length) * 1 ≤ 140737488355328 ∧ s_.length + (strB with_).length ≤ 140737488355328 then
        f49.l0a k t old with_ (IntKind.i64.wrap (i + (old.size : Int))) c0 c0_1 (s_ ++ (strB with_))
      else none
    else
      if 0 ≤ i then
        if i < (t.size : Int) then
          if (s_.length + ([.sc (.int .u8 (bt t i))] : List PV).length) * 1 ≤ 140737488355328 ∧ s_.length + ([.sc (.int .u8 (bt t i))] : List PV).length ≤ 140737488355328 then
            f49.l0a k t old with_ (IntKind.i64.wrap (i + 1)) c0 c0_1 (s_ ++ ([.sc (.int .u8 (bt t i))] : List PV))
          else none
        else none
      else none
  else
    if s_.all (hasSh (.int .u8)) = true then
      (D 109 [.sc (.string (bytesOf s_))]).bind fun r9 => if hasSh (.agg [.str, .bool]) r9 = true then
      some (.agg [.sc (.string ((cel 0 r9.cells).toStr)), .sc (.bool ((cel 1 r9.cells).toBool))])
      else none
    else none :=
  (loopAt_eq _ _ _ _).trans (by kernel_rfl)
-- oculus/oculusref14.Rept
noncomputable def f51.l0a (k : Nat) (t : ByteArray) (n_ : Int) (s_ : ByteArray) (i : Int) (c0 : ByteArray) (c0_1 : Bool) : Option PV := loopAt Tryd.prog cf ext hint k 51 [1, 1, 1, 0, 1, 0] ⟨[.sc (.string t), .sc (.int .i64 n_), .top, .top, .ptr 0 0, .sc (.string s_), .sc (.int .i64 i), .top, .top, .top, .top, .top, .top, .top, .top, .top, .top, .top, .top, .top, .top, .top, .top, .top, .top, .top, .top, .top, .top, .top], [.cells 67 [.sc (.string c0), .sc (.bool c0_1)]], none⟩
theorem f51_eq (k : Nat) (t : ByteArray) (n_ : Int) : D 51 [.sc (.string t), .sc (.int .i64 n_)] =
  if decide (n_ < 0) = true then
    some (.agg [.sc (.string (⟨#[]⟩ : ByteArray)), .sc (.bool false)])
  else
    f51.l0a k t n_ (⟨#[]⟩ : ByteArray) 0 (⟨#[]⟩ : ByteArray) false :=
  (denI_eq k _ _).trans (by kernel_rfl)
theorem f51.l0a_eq (k : Nat) (t : ByteArray) (n_ : Int) (s_ : ByteArray) (i : Int) (c0 : ByteArray) (c0_1 : Bool) : f51.l0a k t n_ s_ i c0 c0_1 =
  Option.bind (α := PV) (
    if decide (i < n_) = true then
      some (.sc (.bool (decide ((t.size : Int) > 0))))
    else
      some (.sc (.bool false))) fun r1 =>
  Option.bind (α := PV) (
    if r1.toBool = true then
      some (.sc (.bool (decide ((s_.size : Int) ≤ 256))))
    else
      some (.sc (.bool false))) fun r2 =>
  if r2.toBool = true then
    if s_.size + t.size ≤ 9223372036854775807 then
      f51.l0a k t n_ (s_ ++ t) (IntKind.i64.wrap (i + 1)) c0 c0_1
    else none
  else
    (D 109 [.sc (.string s_)]).bind fun r3 => if hasSh (.agg [.str, .bool]) r3 = true then
    some (.agg [.sc (.string ((cel 0 r3.cells).toStr)), .sc (.bool ((cel 1 r3.cells).toBool))])
    else none :=
  (loopAt_eq _ _ _ _).trans (by kernel_rfl)
end ET
end Go.Den
