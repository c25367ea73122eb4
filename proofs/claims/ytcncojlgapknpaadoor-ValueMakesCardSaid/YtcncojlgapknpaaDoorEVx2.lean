import Derived.Test.YtcncojlgapknpaaDoorEVh
import Derived.KernelRfl
set_option maxRecDepth 100000
set_option linter.unusedVariables false
namespace Go.Den
open Go Go.Proofs
namespace EV
-- oculus/oculusref12.Of
theorem f37_eq (k : Nat) (g : Int) (g_1 : Bool) : D 37 [.agg [.sc (.int .i64 g), .sc (.bool g_1)]] =
  if g_1 = true then
    (D 33 [.sc (.int .i64 g)]).bind fun r1 => if hasSh (.agg [(.int .i64), (.int .i64), .str]) r1 = true then
    some (.agg [.sc (.int .i64 ((cel 0 r1.cells).toInt)), .sc (.int .i64 ((cel 1 r1.cells).toInt)), .sc (.string ((cel 2 r1.cells).toStr))])
    else none
  else
    (D 36 [.sc (.int .i64 4)]).bind fun r2 => if hasSh (.agg [(.int .i64), (.int .i64), .str]) r2 = true then
    some (.agg [.sc (.int .i64 ((cel 0 r2.cells).toInt)), .sc (.int .i64 ((cel 1 r2.cells).toInt)), .sc (.string ((cel 2 r2.cells).toStr))])
    else none :=
  (denI_eq k _ _).trans (by kernel_rfl)
-- oculus/oculusref12.FaultText
theorem f39_eq (k : Nat) (code : Int) : D 39 [.sc (.int .i64 code)] =
  Option.bind (α := PV) (
    if decide (code < 1) = true then
      some (.sc (.bool true))
    else
      some (.sc (.bool (decide (code > 7))))) fun r1 =>
  if r1.toBool = true then
    some (.sc (.string (⟨#[]⟩ : ByteArray)))
  else
    if 0 ≤ IntKind.i64.wrap (code - 1) then
      if IntKind.i64.wrap (code - 1) < (([.sc (.string (⟨#[35, 68, 73, 86]⟩ : ByteArray)), .sc (.string (⟨#[35, 86, 65, 76, 85, 69]⟩ : ByteArray)), .sc (.string (⟨#[35, 82, 69, 70]⟩ : ByteArray)), .sc (.string (⟨#[35, 78, 85, 77]⟩ : ByteArray)), .sc (.string (⟨#[35, 78, 65]⟩ : ByteArray)), .sc (.string (⟨#[35, 65, 85, 84, 72]⟩ : ByteArray)), .sc (.string (⟨#[35, 67, 89, 67, 76, 69]⟩ : ByteArray))] : List PV).length : Int) then
        if hasSh .str (([.sc (.string (⟨#[35, 68, 73, 86]⟩ : ByteArray)), .sc (.string (⟨#[35, 86, 65, 76, 85, 69]⟩ : ByteArray)), .sc (.string (⟨#[35, 82, 69, 70]⟩ : ByteArray)), .sc (.string (⟨#[35, 78, 85, 77]⟩ : ByteArray)), .sc (.string (⟨#[35, 78, 65]⟩ : ByteArray)), .sc (.string (⟨#[35, 65, 85, 84, 72]⟩ : ByteArray)), .sc (.string (⟨#[35, 67, 89, 67, 76, 69]⟩ : ByteArray))] : List PV).getD (IntKind.i64.wrap (code - 1)).toNat .top) = true then
          some (.sc (.string ((([.sc (.string (⟨#[35, 68, 73, 86]⟩ : ByteArray)), .sc (.string (⟨#[35, 86, 65, 76, 85, 69]⟩ : ByteArray)), .sc (.string (⟨#[35, 82, 69, 70]⟩ : ByteArray)), .sc (.string (⟨#[35, 78, 85, 77]⟩ : ByteArray)), .sc (.string (⟨#[35, 78, 65]⟩ : ByteArray)), .sc (.string (⟨#[35, 65, 85, 84, 72]⟩ : ByteArray)), .sc (.string (⟨#[35, 67, 89, 67, 76, 69]⟩ : ByteArray))] : List PV).getD (IntKind.i64.wrap (code - 1)).toNat .top).toStr)))
        else none
      else none
    else none :=
  (denI_eq k _ _).trans (by kernel_rfl)
end EV
end Go.Den
