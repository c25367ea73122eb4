import Derived.Test.YtbkdoeghgdbjlaaGreatDoorERh
import Derived.KernelRfl
set_option maxRecDepth 100000
set_option linter.unusedVariables false
namespace Go.Den
open Go Go.Proofs
namespace ER
-- oculus/stats.Of
noncomputable def f36.l0a (k : Nat) (t6n : Nat) (t6f : Nat → PV) (t7 t8 c0 c0_1 c0_2 c0_3 c0_4 c0_5 c0_6 c0_7 s_ s__1 s__2 s__3 s__4 s__5 s__6 s__7 : Int) : Option PV := loopAt Tryz.prog cf ext hint k 36 [1, 1, 0, 1, 0] ⟨[.top, .top, .ptr 0 0, .ptr 1 0, .top, .top, .lst 7 t6n t6f, .sc (.int .i64 t7), .sc (.int .i64 t8), .top, .top, .top, .top, .top, .top, .top, .top, .top, .top, .top, .top, .top, .top, .top, .top, .top, .top, .top, .top, .top, .top, .top, .top, .top, .top, .top, .top, .top, .top, .top, .top, .top, .top, .top, .top, .top, .top, .top, .top, .top, .top, .top, .top, .top, .top, .top, .top, .top, .top, .top, .top, .top, .top, .top, .top], [.cells 51 [.sc (.int .i64 c0), .sc (.int .i64 c0_1), .sc (.int .i64 c0_2), .sc (.int .i64 c0_3), .sc (.int .i64 c0_4), .sc (.int .i64 c0_5), .sc (.int .i64 c0_6), .sc (.int .i64 c0_7)], .cells 51 [.sc (.int .i64 s_), .sc (.int .i64 s__1), .sc (.int .i64 s__2), .sc (.int .i64 s__3), .sc (.int .i64 s__4), .sc (.int .i64 s__5), .sc (.int .i64 s__6), .sc (.int .i64 s__7)]], none⟩
noncomputable def f36.j1a (k : Nat) (t6n : Nat) (t6f : Nat → PV) (t7 t8 c0 c0_1 c0_2 c0_3 c0_4 c0_5 c0_6 c0_7 s_ s__1 s__2 s__3 s__4 s__5 s__6 s__7 : Int) : Option PV := gateK k (placeAt Tryz.prog cf ext hint k 36 [1, 1, 0, 1, 0, 0, 1, 1, 1]) ⟨[.top, .top, .ptr 0 0, .ptr 1 0, .top, .top, .lst 7 t6n t6f, .sc (.int .i64 t7), .sc (.int .i64 t8), .top, .top, .top, .top, .top, .top, .top, .top, .top, .top, .top, .top, .top, .top, .top, .top, .top, .top, .top, .top, .top, .top, .top, .top, .top, .top, .top, .top, .top, .top, .top, .top, .top, .top, .top, .top, .top, .top, .top, .top, .top, .top, .top, .top, .top, .top, .top, .top, .top, .top, .top, .top, .top, .top, .top, .top], [.cells 51 [.sc (.int .i64 c0), .sc (.int .i64 c0_1), .sc (.int .i64 c0_2), .sc (.int .i64 c0_3), .sc (.int .i64 c0_4), .sc (.int .i64 c0_5), .sc (.int .i64 c0_6), .sc (.int .i64 c0_7)], .cells 51 [.sc (.int .i64 s_), .sc (.int .i64 s__1), .sc (.int .i64 s__2), .sc (.int .i64 s__3), .sc (.int .i64 s__4), .sc (.int .i64 s__5), .sc (.int .i64 s__6), .sc (.int .i64 s__7)]], none⟩
theorem f36_eq (k : Nat) (ln : Nat) (lf : Nat → PV) : D 36 [.lst 7 ln lf] =
  f36.l0a k ln lf (ln : Int) 0 0 0 0 0 0 0 0 0 0 0 0 0 0 0 0 0 :=
  (denI_eq k _ _).trans (by kernel_rfl)
theorem f36.l0a_eq (k : Nat) (t6n : Nat) (t6f : Nat → PV) (t7 t8 c0 c0_1 c0_2 c0_3 c0_4 c0_5 c0_6 c0_7 s_ s__1 s__2 s__3 s__4 s__5 s__6 s__7 : Int) : f36.l0a k t6n t6f t7 t8 c0 c0_1 c0_2 c0_3 c0_4 c0_5 c0_6 c0_7 s_ s__1 s__2 s__3 s__4 s__5 s__6 s__7 =
  if decide (t8 < t7) = true then
    if 0 ≤ t8 then
      if t8 < (t6n : Int) then
        if hasSh (.agg [(.int .i64), (.int .i64), .str, .bool, (.int .i64), (.int .i64), .str]) (t6f t8.toNat) = true then
          if (cel 3 (t6f t8.toNat).cells).toBool = true then
            f36.j1a k t6n t6f t7 t8 c0 c0_1 c0_2 c0_3 c0_4 c0_5 c0_6 c0_7 (IntKind.i64.wrap (s_ + 1)) (IntKind.i64.wrap (s__1 + 1)) s__2 s__3 s__4 s__5 s__6 s__7
          else
            if (((cel 4 (t6f t8.toNat).cells).toInt) == 0) = true then
              f36.j1a k t6n t6f t7 t8 c0 c0_1 c0_2 c0_3 c0_4 c0_5 c0_6 c0_7 (IntKind.i64.wrap (s_ + 1)) s__1 (IntKind.i64.wrap (s__2 + 1)) s__3 s__4 s__5 s__6 s__7
            else
              if (((cel 4 (t6f t8.toNat).cells).toInt) == 1) = true then
                f36.j1a k t6n t6f t7 t8 c0 c0_1 c0_2 c0_3 c0_4 c0_5 c0_6 c0_7 (IntKind.i64.wrap (s_ + 1)) s__1 s__2 (IntKind.i64.wrap (s__3 + 1)) s__4 s__5 s__6 s__7
              else
                if (((cel 4 (t6f t8.toNat).cells).toInt) == 2) = true then
                  f36.j1a k t6n t6f t7 t8 c0 c0_1 c0_2 c0_3 c0_4 c0_5 c0_6 c0_7 (IntKind.i64.wrap (s_ + 1)) s__1 s__2 s__3 (IntKind.i64.wrap (s__4 + 1)) s__5 s__6 s__7
                else
                  if (((cel 4 (t6f t8.toNat).cells).toInt) == 3) = true then
                    f36.j1a k t6n t6f t7 t8 c0 c0_1 c0_2 c0_3 c0_4 c0_5 c0_6 c0_7 (IntKind.i64.wrap (s_ + 1)) s__1 s__2 s__3 s__4 (IntKind.i64.wrap (s__5 + 1)) s__6 s__7
                  else
                    if (((cel 4 (t6f t8.toNat).cells).toInt) == 4) = true then
                      if (((cel 5 (t6f t8.toNat).cells).toInt) == 7) = true then
                        f36.j1a k t6n t6f t7 t8 c0 c0_1 c0_2 c0_3 c0_4 c0_5 c0_6 c0_7 (IntKind.i64.wrap (s_ + 1)) s__1 s__2 s__3 s__4 s__5 s__6 (IntKind.i64.wrap (s__7 + 1))
                      else
                        f36.j1a k t6n t6f t7 t8 c0 c0_1 c0_2 c0_3 c0_4 c0_5 c0_6 c0_7 (IntKind.i64.wrap (s_ + 1)) s__1 s__2 s__3 s__4 s__5 (IntKind.i64.wrap (s__6 + 1)) s__7
                    else
                      f36.j1a k t6n t6f t7 t8 c0 c0_1 c0_2 c0_3 c0_4 c0_5 c0_6 c0_7 (IntKind.i64.wrap (s_ + 1)) s__1 s__2 s__3 s__4 s__5 s__6 s__7
        else none
      else none
    else none
  else
    some (.agg [.sc (.int .i64 s_), .sc (.int .i64 s__1), .sc (.int .i64 s__2), .sc (.int .i64 s__3), .sc (.int .i64 s__4), .sc (.int .i64 s__5), .sc (.int .i64 s__6), .sc (.int .i64 s__7)]) :=
  (loopAt_eq _ _ _ _).trans (by kernel_rfl)
theorem f36.j1a_eq (k : Nat) (t6n : Nat) (t6f : Nat → PV) (t7 t8 c0 c0_1 c0_2 c0_3 c0_4 c0_5 c0_6 c0_7 s_ s__1 s__2 s__3 s__4 s__5 s__6 s__7 : Int) : f36.j1a k t6n t6f t7 t8 c0 c0_1 c0_2 c0_3 c0_4 c0_5 c0_6 c0_7 s_ s__1 s__2 s__3 s__4 s__5 s__6 s__7 =
  f36.l0a k t6n t6f t7 (IntKind.i64.wrap (t8 + 1)) c0 c0_1 c0_2 c0_3 c0_4 c0_5 c0_6 c0_7 s_ s__1 s__2 s__3 s__4 s__5 s__6 s__7 :=
  (gateK_open _ _ _).trans (by kernel_rfl)
-- oculus/oculusref45.Stats
theorem f37_eq (k : Nat) (ln : Nat) (lf : Nat → PV) (rev : Int) : D 37 [.lst 7 ln lf, .sc (.int .i64 rev)] =
  (D 83 [.lst 7 ln lf]).bind fun r1 => if hasSh (.lst 1) r1 = true then
  (D 82 [.lst 1 r1.len r1.at]).bind fun r2 => if hasSh .str r2 = true then
  if r2.toStr.size + 1 ≤ 9223372036854775807 then
    (D 34 [.sc (.int .i64 rev)]).bind fun r3 => if hasSh .str r3 = true then
    if (r2.toStr ++ (⟨#[32]⟩ : ByteArray)).size + r3.toStr.size ≤ 9223372036854775807 then
      some (.sc (.string ((r2.toStr ++ (⟨#[32]⟩ : ByteArray)) ++ r3.toStr)))
    else none
    else none
  else none
  else none
  else none :=
  (denI_eq k _ _).trans (by kernel_rfl)
-- oculus/oculusref43.Text
noncomputable def f82.l0a (k : Nat) (nn : Nat) (nf : Nat → PV) (out : ByteArray) (i : Int) (names : List PV) : Option PV := loopAt Tryz.prog cf ext hint k 82 [1, 1, 1, 0, 1, 0] ⟨[.lst 1 nn nf, .top, .top, .buf 0 0, .sc (.string out), .sc (.int .i64 i), .top, .top, .top, .top, .top, .top, .top, .top, .top, .top, .top, .top, .top, .top, .top, .top, .top, .top, .top, .top, .top, .top, .top, .top, .top, .top, .top, .top, .top, .top, .top, .top, .top, .top, .top], [.buf 9 0 names], none⟩
noncomputable def f82.j1a (k : Nat) (nn : Nat) (nf : Nat → PV) (out : ByteArray) (i : Int) (names : List PV) : Option PV := gateK k (placeAt Tryz.prog cf ext hint k 82 [1, 1, 1, 0, 1, 0, 0, 1, 0, 0, 1, 1]) ⟨[.lst 1 nn nf, .top, .top, .buf 0 0, .sc (.string out), .sc (.int .i64 i), .top, .top, .top, .top, .top, .top, .top, .top, .top, .top, .top, .top, .top, .top, .top, .top, .top, .top, .top, .top, .top, .top, .top, .top, .top, .top, .top, .top, .top, .top, .top, .top, .top, .top, .top], [.buf 9 0 names], none⟩
theorem f82_eq (k : Nat) (nn : Nat) (nf : Nat → PV) : D 82 [.lst 1 nn nf] =
  f82.l0a k nn nf (⟨#[]⟩ : ByteArray) 0 ([.sc (.string (⟨#[99, 101, 108, 108, 115]⟩ : ByteArray)), .sc (.string (⟨#[104, 105, 100, 100, 101, 110]⟩ : ByteArray)), .sc (.string (⟨#[98, 108, 97, 110, 107, 115]⟩ : ByteArray)), .sc (.string (⟨#[110, 117, 109, 98, 101, 114, 115]⟩ : ByteArray)), .sc (.string (⟨#[116, 101, 120, 116, 115]⟩ : ByteArray)), .sc (.string (⟨#[116, 114, 117, 116, 104, 115]⟩ : ByteArray)), .sc (.string (⟨#[102, 97, 117, 108, 116, 115]⟩ : ByteArray)), .sc (.string (⟨#[99, 121, 99, 108, 101, 115]⟩ : ByteArray))] : List PV) :=
  (denI_eq k _ _).trans (by kernel_rfl)
theorem f82.l0a_eq (k : Nat) (nn : Nat) (nf : Nat → PV) (out : ByteArray) (i : Int) (names : List PV) : f82.l0a k nn nf out i names =
  if decide (i < 8) = true then
    if 0 ≤ i then
      if i < (nn : Int) then
        if hasSh (.int .i64) (nf i.toNat) = true then
          Option.bind (α := PV) (
            if decide (((nf i.toNat).toInt) < 0) = true then
              some (.sc (.bool true))
            else
              Option.bind (α := PV) (
                Option.bind (α := PV) (
                  if 0 ≤ i then
                    if i < (nn : Int) then
                      if hasSh (.int .i64) (nf i.toNat) = true then
                        some (.sc (.bool (decide (((nf i.toNat).toInt) > 1000000000))))
                      else none
                    else none
                  else none) fun r1 =>
                some (.sc (.bool r1.toBool))) fun r2 =>
              some (.sc (.bool r2.toBool))) fun r3 =>
          if r3.toBool = true then
            some (.sc (.string (⟨#[]⟩ : ByteArray)))
          else
            if decide (i > 0) = true then
              if out.size + 1 ≤ 9223372036854775807 then
                f82.j1a k nn nf (out ++ (⟨#[32]⟩ : ByteArray)) i names
              else none
            else
              f82.j1a k nn nf out i names
        else none
      else none
    else none
  else
    some (.sc (.string out)) :=
  (loopAt_eq _ _ _ _).trans (by kernel_rfl)
theorem f82.j1a_eq (k : Nat) (nn : Nat) (nf : Nat → PV) (out : ByteArray) (i : Int) (names : List PV) : f82.j1a k nn nf out i names =
  if 0 ≤ i then
    if i < (names.length : Int) then
      if hasSh .str (names.getD i.toNat .top) = true then
        if out.size + ((names.getD i.toNat .top).toStr).size ≤ 9223372036854775807 then
          if (out ++ ((names.getD i.toNat .top).toStr)).size + 1 ≤ 9223372036854775807 then
            if 0 ≤ i then
              if i < (nn : Int) then
                if hasSh (.int .i64) (nf i.toNat) = true then
                  (D 77 [.sc (.int .i64 ((nf i.toNat).toInt))]).bind fun r4 => if hasSh .str r4 = true then
                  if ((out ++ ((names.getD i.toNat .top).toStr)) ++ (⟨#[32]⟩ : ByteArray)).size + r4.toStr.size ≤ 9223372036854775807 then
                    f82.l0a k nn nf (((out ++ ((names.getD i.toNat .top).toStr)) ++ (⟨#[32]⟩ : ByteArray)) ++ r4.toStr) (IntKind.i64.wrap (i + 1)) names
                  else none
                  else none
                else none
              else none
            else none
          else none
        else none
      else none
    else none
  else none :=
  (gateK_open _ _ _).trans (by kernel_rfl)
-- oculus/oculusref43.Counts
noncomputable def f83.l0a (k : Nat) (ln : Nat) (lf : Nat → PV) (k_ : Int) (out : List PV) : Option PV := loopAt Tryz.prog cf ext hint k 83 [1, 1, 0, 1, 0] ⟨[.lst 7 ln lf, .top, .top, .buf 0 0, .sc (.int .i64 k_), .top, .top, .top, .top, .top, .top, .top, .top, .top, .top, .top, .top, .top, .top], [.buf 3 0 out], none⟩
theorem f83_eq (k : Nat) (ln : Nat) (lf : Nat → PV) : D 83 [.lst 7 ln lf] =
  f83.l0a k ln lf 1 ([.sc (.int .i64 (ln : Int))] : List PV) :=
  (denI_eq k _ _).trans (by kernel_rfl)
theorem f83.l0a_eq (k : Nat) (ln : Nat) (lf : Nat → PV) (k_ : Int) (out : List PV) : f83.l0a k ln lf k_ out =
  if decide (k_ < 8) = true then
    (D 121 [.lst 7 ln lf, .sc (.int .i64 k_)]).bind fun r1 => if hasSh (.int .i64) r1 = true then
    if (out.length + ([.sc (.int .i64 r1.toInt)] : List PV).length) * 8 ≤ 140737488355328 ∧ out.length + ([.sc (.int .i64 r1.toInt)] : List PV).length ≤ 140737488355328 then
      f83.l0a k ln lf (IntKind.i64.wrap (k_ + 1)) (out ++ ([.sc (.int .i64 r1.toInt)] : List PV))
    else none
    else none
  else
    some (frozen 1 out) :=
  (loopAt_eq _ _ _ _).trans (by kernel_rfl)
-- oculus/oculusref43.Many
noncomputable def f121.l0a (k : Nat) (ln : Nat) (lf : Nat → PV) (k_ n_ i : Int) : Option PV := loopAt Tryz.prog cf ext hint k 121 [1, 1, 0, 1, 0] ⟨[.lst 7 ln lf, .sc (.int .i64 k_), .top, .top, .top, .sc (.int .i64 n_), .sc (.int .i64 i), .top, .top, .top, .top, .top, .top, .top, .top, .top, .top, .top, .top, .top, .top, .top, .top], [], none⟩
theorem f121_eq (k : Nat) (ln : Nat) (lf : Nat → PV) (k_ : Int) : D 121 [.lst 7 ln lf, .sc (.int .i64 k_)] =
  f121.l0a k ln lf k_ 0 0 :=
  (denI_eq k _ _).trans (by kernel_rfl)
theorem f121.l0a_eq (k : Nat) (ln : Nat) (lf : Nat → PV) (k_ n_ i : Int) : f121.l0a k ln lf k_ n_ i =
  if decide (i < (ln : Int)) = true then
    if 0 ≤ i then
      if i < (ln : Int) then
        if hasSh (.agg [(.int .i64), (.int .i64), .str, .bool, (.int .i64), (.int .i64), .str]) (lf i.toNat) = true then
          (D 160 [.agg [.sc (.int .i64 ((cel 0 (lf i.toNat).cells).toInt)), .sc (.int .i64 ((cel 1 (lf i.toNat).cells).toInt)), .sc (.string ((cel 2 (lf i.toNat).cells).toStr)), .sc (.bool ((cel 3 (lf i.toNat).cells).toBool)), .sc (.int .i64 ((cel 4 (lf i.toNat).cells).toInt)), .sc (.int .i64 ((cel 5 (lf i.toNat).cells).toInt)), .sc (.string ((cel 6 (lf i.toNat).cells).toStr))]]).bind fun r1 => if hasSh (.int .i64) r1 = true then
          if (r1.toInt == k_) = true then
            f121.l0a k ln lf k_ (IntKind.i64.wrap (n_ + 1)) (IntKind.i64.wrap (i + 1))
          else
            f121.l0a k ln lf k_ n_ (IntKind.i64.wrap (i + 1))
          else none
        else none
      else none
    else none
  else
    some (.sc (.int .i64 n_)) :=
  (loopAt_eq _ _ _ _).trans (by kernel_rfl)
-- oculus/oculusref43.kind
theorem f160_eq (k : Nat) (r r_1 : Int) (r_2 : ByteArray) (r_3 : Bool) (r_4 r_5 : Int) (r_6 : ByteArray) : D 160 [.agg [.sc (.int .i64 r), .sc (.int .i64 r_1), .sc (.string r_2), .sc (.bool r_3), .sc (.int .i64 r_4), .sc (.int .i64 r_5), .sc (.string r_6)]] =
  if r_3 = true then
    some (.sc (.int .i64 1))
  else
    Option.bind (α := PV) (
      if (r_4 == 4) = true then
        some (.sc (.bool (r_5 == 7)))
      else
        some (.sc (.bool false))) fun r1 =>
    if r1.toBool = true then
      some (.sc (.int .i64 7))
    else
      Option.bind (α := PV) (
        if decide (r_4 ≥ 0) = true then
          some (.sc (.bool (decide (r_4 ≤ 4))))
        else
          some (.sc (.bool false))) fun r2 =>
      if r2.toBool = true then
        some (.sc (.int .i64 (IntKind.i64.wrap (r_4 + 2))))
      else
        some (.sc (.int .i64 0)) :=
  (denI_eq k _ _).trans (by kernel_rfl)
-- oculus/oculuslaw45.ReplyChanges
noncomputable def f4.l0a (k : Nat) (ln : Nat) (lf : Nat → PV) (n_ : Int) (t22n : Nat) (t22f : Nat → PV) (t23 t24 : Int) : Option PV := loopAt Tryz.prog cf ext hint k 4 [1, 1, 1, 0, 1, 0] ⟨[.lst 10 ln lf, .sc (.int .i64 n_), .top, .top, .top, .nils, .top, .top, .top, .top, .top, .top, .top, .top, .top, .top, .top, .top, .top, .top, .top, .top, .lst 10 t22n t22f, .sc (.int .i64 t23), .sc (.int .i64 t24), .top, .top, .top, .top, .top, .top, .top, .top, .top, .top, .top, .top, .top, .top, .top, .top, .top, .top, .top, .top, .top, .top, .top, .top, .top, .top, .top, .top, .top, .top, .top, .top, .top, .top, .top, .top, .top, .top, .top], [], none⟩
noncomputable def f4.l0b (k : Nat) (ln : Nat) (lf : Nat → PV) (n_ : Int) (t22n : Nat) (t22f : Nat → PV) (t23 t24 : Int) (mine : List PV) : Option PV := loopAt Tryz.prog cf ext hint k 4 [1, 1, 1, 0, 1, 0] ⟨[.lst 10 ln lf, .sc (.int .i64 n_), .top, .top, .top, .buf 0 0, .top, .top, .top, .top, .top, .top, .top, .top, .top, .top, .top, .top, .top, .top, .top, .top, .lst 10 t22n t22f, .sc (.int .i64 t23), .sc (.int .i64 t24), .top, .top, .top, .top, .top, .top, .top, .top, .top, .top, .top, .top, .top, .top, .top, .top, .top, .top, .top, .top, .top, .top, .top, .top, .top, .top, .top, .top, .top, .top, .top, .top, .top, .top, .top, .top, .top, .top, .top], [.buf 39 0 mine], none⟩
theorem f4_eq (k : Nat) (ln : Nat) (lf : Nat → PV) (n_ : Int) : D 4 [.lst 10 ln lf, .sc (.int .i64 n_)] =
  Option.bind (α := PV) (
    if decide ((ln : Int) > 100) = true then
      some (.sc (.bool true))
    else
      some (.sc (.bool (decide (n_ < 0))))) fun r1 =>
  Option.bind (α := PV) (
    if r1.toBool = true then
      some (.sc (.bool true))
    else
      some (.sc (.bool (decide (n_ > 1000000000))))) fun r2 =>
  if r2.toBool = true then
    (D 21 []).bind fun r3 => if hasSh .bool r3 = true then
    some (.sc (.bool r3.toBool))
    else none
  else
    f4.l0a k ln lf n_ ln lf (ln : Int) 0 :=
  (denI_eq k _ _).trans (by kernel_rfl)
theorem f4.l0a_eq (k : Nat) (ln : Nat) (lf : Nat → PV) (n_ : Int) (t22n : Nat) (t22f : Nat → PV) (t23 t24 : Int) : f4.l0a k ln lf n_ t22n t22f t23 t24 =
  if decide (t24 < t23) = true then
    if 0 ≤ t24 then
      if t24 < (t22n : Int) then
        if hasSh (.agg [(.int .i64), (.int .i64), .bool, (.int .i64), (.int .i64), .str, .bool, (.int .i64), (.int .i64), .str]) (t22f t24.toNat) = true then
          (D 22 [frozen 7 ([.agg [.sc (.int .i64 ((cel 3 (t22f t24.toNat).cells).toInt)), .sc (.int .i64 ((cel 4 (t22f t24.toNat).cells).toInt)), .sc (.string ((cel 5 (t22f t24.toNat).cells).toStr)), .sc (.bool ((cel 6 (t22f t24.toNat).cells).toBool)), .sc (.int .i64 ((cel 7 (t22f t24.toNat).cells).toInt)), .sc (.int .i64 ((cel 8 (t22f t24.toNat).cells).toInt)), .sc (.string ((cel 9 (t22f t24.toNat).cells).toStr))]] : List PV)]).bind fun r4 => if hasSh .bool r4 = true then
          if (!r4.toBool) = true then
            (D 21 []).bind fun r5 => if hasSh .bool r5 = true then
            some (.sc (.bool r5.toBool))
            else none
          else
            if ([.agg [.sc (.int .i64 ((cel 0 (t22f t24.toNat).cells).toInt)), .sc (.int .i64 ((cel 1 (t22f t24.toNat).cells).toInt)), .sc (.bool ((cel 2 (t22f t24.toNat).cells).toBool)), .sc (.int .i64 ((cel 3 (t22f t24.toNat).cells).toInt)), .sc (.int .i64 ((cel 4 (t22f t24.toNat).cells).toInt)), .sc (.string ((cel 5 (t22f t24.toNat).cells).toStr)), .sc (.bool ((cel 6 (t22f t24.toNat).cells).toBool)), .sc (.int .i64 ((cel 7 (t22f t24.toNat).cells).toInt)), .sc (.int .i64 ((cel 8 (t22f t24.toNat).cells).toInt)), .sc (.string ((cel 9 (t22f t24.toNat).cells).toStr))]] : List PV).length * 96 ≤ 140737488355328 ∧ ([.agg [.sc (.int .i64 ((cel 0 (t22f t24.toNat).cells).toInt)), .sc (.int .i64 ((cel 1 (t22f t24.toNat).cells).toInt)), .sc (.bool ((cel 2 (t22f t24.toNat).cells).toBool)), .sc (.int .i64 ((cel 3 (t22f t24.toNat).cells).toInt)), .sc (.int .i64 ((cel 4 (t22f t24.toNat).cells).toInt)), .sc (.string ((cel 5 (t22f t24.toNat).cells).toStr)), .sc (.bool ((cel 6 (t22f t24.toNat).cells).toBool)), .sc (.int .i64 ((cel 7 (t22f t24.toNat).cells).toInt)), .sc (.int .i64 ((cel 8 (t22f t24.toNat).cells).toInt)), .sc (.string ((cel 9 (t22f t24.toNat).cells).toStr))]] : List PV).length ≤ 140737488355328 then
              f4.l0b k ln lf n_ t22n t22f t23 (IntKind.i64.wrap (t24 + 1)) ([.agg [.sc (.int .i64 ((cel 0 (t22f t24.toNat).cells).toInt)), .sc (.int .i64 ((cel 1 (t22f t24.toNat).cells).toInt)), .sc (.bool ((cel 2 (t22f t24.toNat).cells).toBool)), .sc (.int .i64 ((cel 3 (t22f t24.toNat).cells).toInt)), .sc (.int .i64 ((cel 4 (t22f t24.toNat).cells).toInt)), .sc (.string ((cel 5 (t22f t24.toNat).cells).toStr)), .sc (.bool ((cel 6 (t22f t24.toNat).cells).toBool)), .sc (.int .i64 ((cel 7 (t22f t24.toNat).cells).toInt)), .sc (.int .i64 ((cel 8 (t22f t24.toNat).cells).toInt)), .sc (.string ((cel 9 (t22f t24.toNat).cells).toStr))]] : List PV)
            else none
          else none
        else none
      else none
    else none
  else
    (D 23 [.lst 10 0 (fun _ => .top)]).bind fun r6 => if hasSh .str r6 = true then
    (D 24 [.sc (.int .i64 n_), .lst 10 0 (fun _ => .top)]).bind fun r7 => if hasSh .str r7 = true then
    (D 25 [.lst 10 ln lf]).bind fun r8 => if hasSh .str r8 = true then
    Option.bind (α := PV) (
      if (r6.toStr.toList == r8.toStr.toList) = true then
        Option.bind (α := PV) (
          Option.bind (α := PV) (
            Option.bind (α := PV) (
              (D 26 [.sc (.int .i64 n_), .lst 10 ln lf]).bind fun r9 => if hasSh .str r9 = true then
              some (.sc (.bool (r7.toStr.toList == r9.toStr.toList)))
              else none) fun r10 =>
            some (.sc (.bool r10.toBool))) fun r11 =>
          some (.sc (.bool r11.toBool))) fun r12 =>
        some (.sc (.bool r12.toBool))
      else
        some (.sc (.bool false))) fun r13 =>
    Option.bind (α := PV) (
      if r13.toBool = true then
        (D 21 []).bind fun r14 => if hasSh .bool r14 = true then
        some (.sc (.bool r14.toBool))
        else none
      else
        some (.sc (.bool false))) fun r15 =>
    some (.sc (.bool r15.toBool))
    else none
    else none
    else none :=
  (loopAt_eq _ _ _ _).trans (by kernel_rfl)
theorem f4.l0b_eq (k : Nat) (ln : Nat) (lf : Nat → PV) (n_ : Int) (t22n : Nat) (t22f : Nat → PV) (t23 t24 : Int) (mine : List PV) : f4.l0b k ln lf n_ t22n t22f t23 t24 mine =
  if decide (t24 < t23) = true then
    if 0 ≤ t24 then
      if t24 < (t22n : Int) then
        if hasSh (.agg [(.int .i64), (.int .i64), .bool, (.int .i64), (.int .i64), .str, .bool, (.int .i64), (.int .i64), .str]) (t22f t24.toNat) = true then
          (D 22 [frozen 7 ([.agg [.sc (.int .i64 ((cel 3 (t22f t24.toNat).cells).toInt)), .sc (.int .i64 ((cel 4 (t22f t24.toNat).cells).toInt)), .sc (.string ((cel 5 (t22f t24.toNat).cells).toStr)), .sc (.bool ((cel 6 (t22f t24.toNat).cells).toBool)), .sc (.int .i64 ((cel 7 (t22f t24.toNat).cells).toInt)), .sc (.int .i64 ((cel 8 (t22f t24.toNat).cells).toInt)), .sc (.string ((cel 9 (t22f t24.toNat).cells).toStr))]] : List PV)]).bind fun r16 => if hasSh .bool r16 = true then
          if (!r16.toBool) = true then
            (D 21 []).bind fun r17 => if hasSh .bool r17 = true then
            some (.sc (.bool r17.toBool))
            else none
          else
            if (mine.length + ([.agg [.sc (.int .i64 ((cel 0 (t22f t24.toNat).cells).toInt)), .sc (.int .i64 ((cel 1 (t22f t24.toNat).cells).toInt)), .sc (.bool ((cel 2 (t22f t24.toNat).cells).toBool)), .sc (.int .i64 ((cel 3 (t22f t24.toNat).cells).toInt)), .sc (.int .i64 ((cel 4 (t22f t24.toNat).cells).toInt)), .sc (.string ((cel 5 (t22f t24.toNat).cells).toStr)), .sc (.bool ((cel 6 (t22f t24.toNat).cells).toBool)), .sc (.int .i64 ((cel 7 (t22f t24.toNat).cells).toInt)), .sc (.int .i64 ((cel 8 (t22f t24.toNat).cells).toInt)), .sc (.string ((cel 9 (t22f t24.toNat).cells).toStr))]] : List PV).length) * 96 ≤ 140737488355328 ∧ mine.length + ([.agg [.sc (.int .i64 ((cel 0 (t22f t24.toNat).cells).toInt)), .sc (.int .i64 ((cel 1 (t22f t24.toNat).cells).toInt)), .sc (.bool ((cel 2 (t22f t24.toNat).cells).toBool)), .sc (.int .i64 ((cel 3 (t22f t24.toNat).cells).toInt)), .sc (.int .i64 ((cel 4 (t22f t24.toNat).cells).toInt)), .sc (.string ((cel 5 (t22f t24.toNat).cells).toStr)), .sc (.bool ((cel 6 (t22f t24.toNat).cells).toBool)), .sc (.int .i64 ((cel 7 (t22f t24.toNat).cells).toInt)), .sc (.int .i64 ((cel 8 (t22f t24.toNat).cells).toInt)), .sc (.string ((cel 9 (t22f t24.toNat).cells).toStr))]] : List PV).length ≤ 140737488355328 then
              f4.l0b k ln lf n_ t22n t22f t23 (IntKind.i64.wrap (t24 + 1)) (mine ++ ([.agg [.sc (.int .i64 ((cel 0 (t22f t24.toNat).cells).toInt)), .sc (.int .i64 ((cel 1 (t22f t24.toNat).cells).toInt)), .sc (.bool ((cel 2 (t22f t24.toNat).cells).toBool)), .sc (.int .i64 ((cel 3 (t22f t24.toNat).cells).toInt)), .sc (.int .i64 ((cel 4 (t22f t24.toNat).cells).toInt)), .sc (.string ((cel 5 (t22f t24.toNat).cells).toStr)), .sc (.bool ((cel 6 (t22f t24.toNat).cells).toBool)), .sc (.int .i64 ((cel 7 (t22f t24.toNat).cells).toInt)), .sc (.int .i64 ((cel 8 (t22f t24.toNat).cells).toInt)), .sc (.string ((cel 9 (t22f t24.toNat).cells).toStr))]] : List PV))
            else none
          else none
        else none
      else none
    else none
  else
    (D 23 [frozen 10 mine]).bind fun r18 => if hasSh .str r18 = true then
    (D 24 [.sc (.int .i64 n_), frozen 10 mine]).bind fun r19 => if hasSh .str r19 = true then
    (D 25 [.lst 10 ln lf]).bind fun r20 => if hasSh .str r20 = true then
    Option.bind (α := PV) (
      if (r18.toStr.toList == r20.toStr.toList) = true then
        Option.bind (α := PV) (
          Option.bind (α := PV) (
            Option.bind (α := PV) (
              (D 26 [.sc (.int .i64 n_), .lst 10 ln lf]).bind fun r21 => if hasSh .str r21 = true then
              some (.sc (.bool (r19.toStr.toList == r21.toStr.toList)))
              else none) fun r22 =>
            some (.sc (.bool r22.toBool))) fun r23 =>
          some (.sc (.bool r23.toBool))) fun r24 =>
        some (.sc (.bool r24.toBool))
      else
        some (.sc (.bool false))) fun r25 =>
    Option.bind (α := PV) (
      if r25.toBool = true then
        (D 21 []).bind fun r26 => if hasSh .bool r26 = true then
        some (.sc (.bool r26.toBool))
        else none
      else
        some (.sc (.bool false))) fun r27 =>
    some (.sc (.bool r27.toBool))
    else none
    else none
    else none :=
  (loopAt_eq _ _ _ _).trans (by kernel_rfl)
-- oculus/reply.Changes
theorem f24_eq (k : Nat) (n_ : Int) (ln : Nat) (lf : Nat → PV) : D 24 [.sc (.int .i64 n_), .lst 10 ln lf] =
  (D 75 [.sc (.int .i64 n_)]).bind fun r1 => if hasSh .str r1 = true then
  if 8 + r1.toStr.size ≤ 9223372036854775807 then
    (D 74 [.sc (.string ((⟨#[99, 104, 97, 110, 103, 101, 115, 32]⟩ : ByteArray) ++ r1.toStr)), .lst 10 ln lf]).bind fun r2 => if hasSh .str r2 = true then
    some (.sc (.string r2.toStr))
    else none
  else none
  else none :=
  (denI_eq k _ _).trans (by kernel_rfl)
-- oculus/oculusref45.Done
theorem f25_eq (k : Nat) (ln : Nat) (lf : Nat → PV) : D 25 [.lst 10 ln lf] =
  (D 76 [.sc (.string (⟨#[111, 107]⟩ : ByteArray)), .lst 10 ln lf]).bind fun r1 => if hasSh .str r1 = true then
  some (.sc (.string r1.toStr))
  else none :=
  (denI_eq k _ _).trans (by kernel_rfl)
-- oculus/oculusref45.lines
noncomputable def f76.l0a (k : Nat) (head : ByteArray) (ln : Nat) (lf : Nat → PV) (i : Int) : Option PV := loopAt Tryz.prog cf ext hint k 76 [1, 0, 1, 0] ⟨[.sc (.string head), .lst 10 ln lf, .top, .top, .top, .sc (.int .i64 i), .top, .top, .top, .top, .top, .top, .top, .top, .top, .top, .top, .top, .top, .top, .top], [], none⟩
theorem f76_eq (k : Nat) (head : ByteArray) (ln : Nat) (lf : Nat → PV) : D 76 [.sc (.string head), .lst 10 ln lf] =
  f76.l0a k head ln lf 0 :=
  (denI_eq k _ _).trans (by kernel_rfl)
theorem f76.l0a_eq (k : Nat) (head : ByteArray) (ln : Nat) (lf : Nat → PV) (i : Int) : f76.l0a k head ln lf i =
  if decide (i < (ln : Int)) = true then
    if head.size + 1 ≤ 9223372036854775807 then
      if 0 ≤ i then
        if i < (ln : Int) then
          if hasSh (.agg [(.int .i64), (.int .i64), .bool, (.int .i64), (.int .i64), .str, .bool, (.int .i64), (.int .i64), .str]) (lf i.toNat) = true then
            (D 113 [.agg [.sc (.int .i64 ((cel 0 (lf i.toNat).cells).toInt)), .sc (.int .i64 ((cel 1 (lf i.toNat).cells).toInt)), .sc (.bool ((cel 2 (lf i.toNat).cells).toBool)), .sc (.int .i64 ((cel 3 (lf i.toNat).cells).toInt)), .sc (.int .i64 ((cel 4 (lf i.toNat).cells).toInt)), .sc (.string ((cel 5 (lf i.toNat).cells).toStr)), .sc (.bool ((cel 6 (lf i.toNat).cells).toBool)), .sc (.int .i64 ((cel 7 (lf i.toNat).cells).toInt)), .sc (.int .i64 ((cel 8 (lf i.toNat).cells).toInt)), .sc (.string ((cel 9 (lf i.toNat).cells).toStr))]]).bind fun r1 => if hasSh .str r1 = true then
            if (head ++ (⟨#[10]⟩ : ByteArray)).size + r1.toStr.size ≤ 9223372036854775807 then
              f76.l0a k ((head ++ (⟨#[10]⟩ : ByteArray)) ++ r1.toStr) ln lf (IntKind.i64.wrap (i + 1))
            else none
            else none
          else none
        else none
      else none
    else none
  else
    some (.sc (.string head)) :=
  (loopAt_eq _ _ _ _).trans (by kernel_rfl)
-- oculus/oculusref41.Text
theorem f113_eq (k : Nat) (c c_1 : Int) (c_2 : Bool) (c_3 c_4 : Int) (c_5 : ByteArray) (c_6 : Bool) (c_7 c_8 : Int) (c_9 : ByteArray) : D 113 [.agg [.sc (.int .i64 c), .sc (.int .i64 c_1), .sc (.bool c_2), .sc (.int .i64 c_3), .sc (.int .i64 c_4), .sc (.string c_5), .sc (.bool c_6), .sc (.int .i64 c_7), .sc (.int .i64 c_8), .sc (.string c_9)]] =
  if c_2 = true then
    (D 80 [.agg [.sc (.int .i64 c_3), .sc (.int .i64 c_4), .sc (.string c_5), .sc (.bool c_6), .sc (.int .i64 c_7), .sc (.int .i64 c_8), .sc (.string c_9)]]).bind fun r1 => if hasSh .str r1 = true then
    some (.sc (.string r1.toStr))
    else none
  else
    (D 118 [.agg [.sc (.int .i64 c), .sc (.int .i64 c_1)]]).bind fun r2 => if hasSh .str r2 = true then
    if r2.toStr.size + 5 ≤ 9223372036854775807 then
      some (.sc (.string (r2.toStr ++ (⟨#[32, 103, 111, 110, 101]⟩ : ByteArray))))
    else none
    else none :=
  (denI_eq k _ _).trans (by kernel_rfl)
-- oculus/oculusref45.Changes
theorem f26_eq (k : Nat) (n_ : Int) (ln : Nat) (lf : Nat → PV) : D 26 [.sc (.int .i64 n_), .lst 10 ln lf] =
  (D 77 [.sc (.int .i64 n_)]).bind fun r1 => if hasSh .str r1 = true then
  if 8 + r1.toStr.size ≤ 9223372036854775807 then
    (D 76 [.sc (.string ((⟨#[99, 104, 97, 110, 103, 101, 115, 32]⟩ : ByteArray) ++ r1.toStr)), .lst 10 ln lf]).bind fun r2 => if hasSh .str r2 = true then
    some (.sc (.string r2.toStr))
    else none
  else none
  else none :=
  (denI_eq k _ _).trans (by kernel_rfl)
end ER
end Go.Den
