/- Costs that fit: the law. -/
import Derived.Test.YtcncojlgapknpaaDoorMeterA
namespace Go.Den.EM
open Go Go.Proofs
theorem meterFits_law (W : World) (vs : List Value) (xs : List PV) (h : Handed Tryd.prog W [81, 81, 91] vs xs) : D 7 xs = some (.sc (.bool true)) := by
  obtain ⟨a, _, _, rfl, ha, h⟩ := handed_cons h
  obtain ⟨b, _, _, rfl, hb, h⟩ := handed_cons h
  obtain ⟨c, _, _, rfl, hc, h⟩ := handed_cons h
  obtain rfl := handed_nil h
  obtain ⟨a0, a1, a2, a3, a4, rfl, _⟩ := of81 ha
  obtain ⟨b0, b1, b2, b3, b4, rfl, _⟩ := of81 hb
  obtain ⟨c0, c1, c2, c3, c4, c5, c6, c7, c8, c9, rfl, _⟩ := of91 hc
  rw [ag81, ag81, ag91]
  exact fits_D ⟨a0, a1, a2, a3, a4⟩ ⟨b0, b1, b2, b3, b4⟩ ⟨c0, c1, c2, c3, c4⟩ ⟨c5, c6, c7, c8, c9⟩
end Go.Den.EM
