-- PRINTED for this claim by wip/xprint.py (a program of this session's over the kit's print). Lean checks it.
import Derived.Test.YtmagefemmhfkaaaPAx0
import Derived.Test.YtmagefemmhfkaaaPAx2
import Derived.Test.YtmagefemmhfkaaaPAx3
import Derived.Test.YtmagefemmhfkaaaPAx4
import Derived.Test.YtmagefemmhfkaaaPAx9
import Derived.Test.YtmagefemmhfkaaaPAx10
namespace Go.Proofs.Ytmagefemmhfkaaa.PA
open Go.RowKit Go.Proofs.YtmagefemmhfkaaaW.PrintWords Go.Proofs.YtmagefemmhfkaaaW.PrintLast Go.Proofs.YtmagefemmhfkaaaW.PrintMore
attribute [local go_sem] max2_int min2_int max_two min_two max_three min_three max_four min_four   -- for this text's walks alone
set_option linter.unusedVariables false
set_option linter.unusedSimpArgs false

/-! ### oculuslaw08_DecAdds: function 6 -/
mutual
def oculuslaw08_DecAdds.j0 : Nat → Int → Int → Int → Bool → Int → Bool → Bool → Bool → Option (Bool)
  | 0, _, _, _, _, _, _, _, _ => none
  | k + 1, x0, x1, x5, x6, x8, x9, x11, x73 => if x73 = true then (some false) else (if x11 = true then ((oculusref08_Add.f x0 (wrap64 (-x1))).bind fun bt259 => (oculuslaw08_DecAdds.j1 k x0 x1 x5 x6 x8 x9 bt259.1 bt259.2)) else (oculuslaw08_DecAdds.j1 k x0 x1 x5 x6 x8 x9 0 false))
def oculuslaw08_DecAdds.j1 : Nat → Int → Int → Int → Bool → Int → Bool → Int → Bool → Option (Bool)
  | 0, _, _, _, _, _, _, _, _ => none
  | k + 1, x0, x1, x5, x6, x8, x9, x259000, x259001 => if x8 = x259000 then (oculuslaw08_DecAdds.j2 k x0 x1 x5 x6 (x9 != x259001)) else (oculuslaw08_DecAdds.j2 k x0 x1 x5 x6 true)
def oculuslaw08_DecAdds.j2 : Nat → Int → Int → Int → Bool → Bool → Option (Bool)
  | 0, _, _, _, _, _ => none
  | k + 1, x0, x1, x5, x6, x89 => if x89 = true then (some false) else (if x6 = true then ((dec_Sub.f x5 x1).bind fun bt261 => (if bt261.2 = true then (if bt261.1 = x0 then ((oculuslaw08_alive.f k).bind fun t263 => (some t263)) else (some false)) else (some false))) else ((oculuslaw08_alive.f k).bind fun t264 => (some t264)))
end
def oculuslaw08_DecAdds.f (k : Nat) (a0 : Int) (a1 : Int) : Option (Bool) := (dec_Add.f a0 a1).bind fun bt247 => ((oculusref08_Add.f a0 a1).bind fun bt249 => ((dec_Sub.f a0 a1).bind fun bt252 => ((dec_Neg.f a1).bind fun bt254 => (if bt247.1 = bt249.1 then (if (bt247.2 != bt249.2) = true then (oculuslaw08_DecAdds.j0 k a0 a1 bt247.1 bt247.2 bt252.1 bt252.2 bt254.2 true) else ((oculusref08_May.f a1).bind fun t256 => (if (bt254.2 != t256) = true then (oculuslaw08_DecAdds.j0 k a0 a1 bt247.1 bt247.2 bt252.1 bt252.2 bt254.2 true) else ((dec_May.f a1).bind fun t257 => (if (t257 != bt254.2) = true then (oculuslaw08_DecAdds.j0 k a0 a1 bt247.1 bt247.2 bt252.1 bt252.2 bt254.2 true) else (if bt254.2 = true then (if bt254.1 = (wrap64 (-a1)) then (oculuslaw08_DecAdds.j0 k a0 a1 bt247.1 bt247.2 bt252.1 bt252.2 bt254.2 false) else (oculuslaw08_DecAdds.j0 k a0 a1 bt247.1 bt247.2 bt252.1 bt252.2 bt254.2 true)) else (oculuslaw08_DecAdds.j0 k a0 a1 bt247.1 bt247.2 bt252.1 bt252.2 bt254.2 (bt254.1 != 0)))))))) else (oculuslaw08_DecAdds.j0 k a0 a1 bt247.1 bt247.2 bt252.1 bt252.2 bt254.2 true)))))
theorem oculuslaw08_DecAdds.mono_l : ∀ k, (∀ y0 y1 y2 y3 y4 y5 y6 y7, LeO (oculuslaw08_DecAdds.j0 k y0 y1 y2 y3 y4 y5 y6 y7) (oculuslaw08_DecAdds.j0 (k + 1) y0 y1 y2 y3 y4 y5 y6 y7)) ∧ (∀ y0 y1 y2 y3 y4 y5 y6 y7, LeO (oculuslaw08_DecAdds.j1 k y0 y1 y2 y3 y4 y5 y6 y7) (oculuslaw08_DecAdds.j1 (k + 1) y0 y1 y2 y3 y4 y5 y6 y7)) ∧ (∀ y0 y1 y2 y3 y4, LeO (oculuslaw08_DecAdds.j2 k y0 y1 y2 y3 y4) (oculuslaw08_DecAdds.j2 (k + 1) y0 y1 y2 y3 y4))
  | 0 => ⟨fun _ _ _ _ _ _ _ _ r h => by simp [oculuslaw08_DecAdds.j0] at h, fun _ _ _ _ _ _ _ _ r h => by simp [oculuslaw08_DecAdds.j1] at h, fun _ _ _ _ _ r h => by simp [oculuslaw08_DecAdds.j2] at h⟩
  | k + 1 => by
    obtain ⟨ih0, ih1, ih2⟩ := oculuslaw08_DecAdds.mono_l k
    refine ⟨?_, ?_, ?_⟩
    · intro y0 y1 y2 y3 y4 y5 y6 y7
      unfold oculuslaw08_DecAdds.j0
      repeat' first
      | (with_reducible exact ih0 _ _ _ _ _ _ _ _)
      | (with_reducible exact ih1 _ _ _ _ _ _ _ _)
      | (with_reducible exact ih2 _ _ _ _ _)
      | (with_reducible exact oculuslaw08_alive.mono _)
      | (with_reducible exact LeO.refl _)
      | (with_reducible exact LeO.none _)
      | (with_reducible refine LeO.ite ?_ ?_)
      | (with_reducible refine LeO.bind ?_ (fun _ => ?_))
      | exact ih0 _ _ _ _ _ _ _ _
      | exact ih1 _ _ _ _ _ _ _ _
      | exact ih2 _ _ _ _ _
      | exact oculuslaw08_alive.mono _
      | exact LeO.none _
      | refine LeO.ite ?_ ?_
      | refine LeO.bind ?_ (fun _ => ?_)
    · intro y0 y1 y2 y3 y4 y5 y6 y7
      unfold oculuslaw08_DecAdds.j1
      repeat' first
      | (with_reducible exact ih0 _ _ _ _ _ _ _ _)
      | (with_reducible exact ih1 _ _ _ _ _ _ _ _)
      | (with_reducible exact ih2 _ _ _ _ _)
      | (with_reducible exact oculuslaw08_alive.mono _)
      | (with_reducible exact LeO.refl _)
      | (with_reducible exact LeO.none _)
      | (with_reducible refine LeO.ite ?_ ?_)
      | (with_reducible refine LeO.bind ?_ (fun _ => ?_))
      | exact ih0 _ _ _ _ _ _ _ _
      | exact ih1 _ _ _ _ _ _ _ _
      | exact ih2 _ _ _ _ _
      | exact oculuslaw08_alive.mono _
      | exact LeO.none _
      | refine LeO.ite ?_ ?_
      | refine LeO.bind ?_ (fun _ => ?_)
    · intro y0 y1 y2 y3 y4
      unfold oculuslaw08_DecAdds.j2
      repeat' first
      | (with_reducible exact ih0 _ _ _ _ _ _ _ _)
      | (with_reducible exact ih1 _ _ _ _ _ _ _ _)
      | (with_reducible exact ih2 _ _ _ _ _)
      | (with_reducible exact oculuslaw08_alive.mono _)
      | (with_reducible exact LeO.refl _)
      | (with_reducible exact LeO.none _)
      | (with_reducible refine LeO.ite ?_ ?_)
      | (with_reducible refine LeO.bind ?_ (fun _ => ?_))
      | exact ih0 _ _ _ _ _ _ _ _
      | exact ih1 _ _ _ _ _ _ _ _
      | exact ih2 _ _ _ _ _
      | exact oculuslaw08_alive.mono _
      | exact LeO.none _
      | refine LeO.ite ?_ ?_
      | refine LeO.bind ?_ (fun _ => ?_)
theorem oculuslaw08_DecAdds.mono : ∀ a0 a1 k, LeO (oculuslaw08_DecAdds.f k a0 a1) (oculuslaw08_DecAdds.f (k + 1) a0 a1) := by
  intro a0 a1 k
  obtain ⟨ih0, ih1, ih2⟩ := oculuslaw08_DecAdds.mono_l k
  unfold oculuslaw08_DecAdds.f
  repeat' first
      | (with_reducible exact ih0 _ _ _ _ _ _ _ _)
      | (with_reducible exact ih1 _ _ _ _ _ _ _ _)
      | (with_reducible exact ih2 _ _ _ _ _)
      | (with_reducible exact oculuslaw08_alive.mono _)
      | (with_reducible exact LeO.refl _)
      | (with_reducible exact LeO.none _)
      | (with_reducible refine LeO.ite ?_ ?_)
      | (with_reducible refine LeO.bind ?_ (fun _ => ?_))
      | exact ih0 _ _ _ _ _ _ _ _
      | exact ih1 _ _ _ _ _ _ _ _
      | exact ih2 _ _ _ _ _
      | exact oculuslaw08_alive.mono _
      | exact LeO.none _
      | refine LeO.ite ?_ ?_
      | refine LeO.bind ?_ (fun _ => ?_)
set_option maxHeartbeats 8000000 in
set_option maxRecDepth 100000 in
theorem oculuslaw08_DecAdds.calls (k : Nat) (a0 : Int) (a1 : Int) (r : Bool) (w : World) (h : oculuslaw08_DecAdds.f k a0 a1 = some r) :
    Calls Try.prog 6 #[.int .i64 a0, .int .i64 a1] w fun e w' => e = .returned (.bool r) ∧ Below w.heap.size w w' := by
  have hu30 := Try.underlying30
  have HB := Aside0.mk (Below.refl w.heap.size w)
  have H : ((dec_Add.f a0 a1).bind fun bt247 => ((oculusref08_Add.f a0 a1).bind fun bt249 => ((dec_Sub.f a0 a1).bind fun bt252 => ((dec_Neg.f a1).bind fun bt254 => (if bt247.1 = bt249.1 then (if (bt247.2 != bt249.2) = true then (oculuslaw08_DecAdds.j0 k a0 a1 bt247.1 bt247.2 bt252.1 bt252.2 bt254.2 true) else ((oculusref08_May.f a1).bind fun t256 => (if (bt254.2 != t256) = true then (oculuslaw08_DecAdds.j0 k a0 a1 bt247.1 bt247.2 bt252.1 bt252.2 bt254.2 true) else ((dec_May.f a1).bind fun t257 => (if (t257 != bt254.2) = true then (oculuslaw08_DecAdds.j0 k a0 a1 bt247.1 bt247.2 bt252.1 bt252.2 bt254.2 true) else (if bt254.2 = true then (if bt254.1 = (wrap64 (-a1)) then (oculuslaw08_DecAdds.j0 k a0 a1 bt247.1 bt247.2 bt252.1 bt252.2 bt254.2 false) else (oculuslaw08_DecAdds.j0 k a0 a1 bt247.1 bt247.2 bt252.1 bt252.2 bt254.2 true)) else (oculuslaw08_DecAdds.j0 k a0 a1 bt247.1 bt247.2 bt252.1 bt252.2 bt254.2 (bt254.1 != 0)))))))) else (oculuslaw08_DecAdds.j0 k a0 a1 bt247.1 bt247.2 bt252.1 bt252.2 bt254.2 true)))))) = some r := h
  clear h
  replace H := Option.bind_eq_some_iff.mp H
  obtain ⟨⟨t247, t248⟩, A30, H⟩ := H
  replace H : ((oculusref08_Add.f a0 a1).bind fun bt249 => ((dec_Sub.f a0 a1).bind fun bt252 => ((dec_Neg.f a1).bind fun bt254 => (if t247 = bt249.1 then (if (t248 != bt249.2) = true then (oculuslaw08_DecAdds.j0 k a0 a1 t247 t248 bt252.1 bt252.2 bt254.2 true) else ((oculusref08_May.f a1).bind fun t256 => (if (bt254.2 != t256) = true then (oculuslaw08_DecAdds.j0 k a0 a1 t247 t248 bt252.1 bt252.2 bt254.2 true) else ((dec_May.f a1).bind fun t257 => (if (t257 != bt254.2) = true then (oculuslaw08_DecAdds.j0 k a0 a1 t247 t248 bt252.1 bt252.2 bt254.2 true) else (if bt254.2 = true then (if bt254.1 = (wrap64 (-a1)) then (oculuslaw08_DecAdds.j0 k a0 a1 t247 t248 bt252.1 bt252.2 bt254.2 false) else (oculuslaw08_DecAdds.j0 k a0 a1 t247 t248 bt252.1 bt252.2 bt254.2 true)) else (oculuslaw08_DecAdds.j0 k a0 a1 t247 t248 bt252.1 bt252.2 bt254.2 (bt254.1 != 0)))))))) else (oculuslaw08_DecAdds.j0 k a0 a1 t247 t248 bt252.1 bt252.2 bt254.2 true))))) = some r := H
  have A3 := Aside0.mk A30
  clear A30
  replace H := Option.bind_eq_some_iff.mp H
  obtain ⟨⟨t249, t250⟩, A40, H⟩ := H
  replace H : ((dec_Sub.f a0 a1).bind fun bt252 => ((dec_Neg.f a1).bind fun bt254 => (if t247 = t249 then (if (t248 != t250) = true then (oculuslaw08_DecAdds.j0 k a0 a1 t247 t248 bt252.1 bt252.2 bt254.2 true) else ((oculusref08_May.f a1).bind fun t256 => (if (bt254.2 != t256) = true then (oculuslaw08_DecAdds.j0 k a0 a1 t247 t248 bt252.1 bt252.2 bt254.2 true) else ((dec_May.f a1).bind fun t257 => (if (t257 != bt254.2) = true then (oculuslaw08_DecAdds.j0 k a0 a1 t247 t248 bt252.1 bt252.2 bt254.2 true) else (if bt254.2 = true then (if bt254.1 = (wrap64 (-a1)) then (oculuslaw08_DecAdds.j0 k a0 a1 t247 t248 bt252.1 bt252.2 bt254.2 false) else (oculuslaw08_DecAdds.j0 k a0 a1 t247 t248 bt252.1 bt252.2 bt254.2 true)) else (oculuslaw08_DecAdds.j0 k a0 a1 t247 t248 bt252.1 bt252.2 bt254.2 (bt254.1 != 0)))))))) else (oculuslaw08_DecAdds.j0 k a0 a1 t247 t248 bt252.1 bt252.2 bt254.2 true)))) = some r := H
  have A4 := Aside0.mk A40
  clear A40
  replace H := Option.bind_eq_some_iff.mp H
  obtain ⟨⟨t252, t253⟩, A50, H⟩ := H
  replace H : ((dec_Neg.f a1).bind fun bt254 => (if t247 = t249 then (if (t248 != t250) = true then (oculuslaw08_DecAdds.j0 k a0 a1 t247 t248 t252 t253 bt254.2 true) else ((oculusref08_May.f a1).bind fun t256 => (if (bt254.2 != t256) = true then (oculuslaw08_DecAdds.j0 k a0 a1 t247 t248 t252 t253 bt254.2 true) else ((dec_May.f a1).bind fun t257 => (if (t257 != bt254.2) = true then (oculuslaw08_DecAdds.j0 k a0 a1 t247 t248 t252 t253 bt254.2 true) else (if bt254.2 = true then (if bt254.1 = (wrap64 (-a1)) then (oculuslaw08_DecAdds.j0 k a0 a1 t247 t248 t252 t253 bt254.2 false) else (oculuslaw08_DecAdds.j0 k a0 a1 t247 t248 t252 t253 bt254.2 true)) else (oculuslaw08_DecAdds.j0 k a0 a1 t247 t248 t252 t253 bt254.2 (bt254.1 != 0)))))))) else (oculuslaw08_DecAdds.j0 k a0 a1 t247 t248 t252 t253 bt254.2 true))) = some r := H
  have A5 := Aside0.mk A50
  clear A50
  replace H := Option.bind_eq_some_iff.mp H
  obtain ⟨⟨t254, t255⟩, A60, H⟩ := H
  replace H : (if t247 = t249 then (if (t248 != t250) = true then (oculuslaw08_DecAdds.j0 k a0 a1 t247 t248 t252 t253 t255 true) else ((oculusref08_May.f a1).bind fun t256 => (if (t255 != t256) = true then (oculuslaw08_DecAdds.j0 k a0 a1 t247 t248 t252 t253 t255 true) else ((dec_May.f a1).bind fun t257 => (if (t257 != t255) = true then (oculuslaw08_DecAdds.j0 k a0 a1 t247 t248 t252 t253 t255 true) else (if t255 = true then (if t254 = (wrap64 (-a1)) then (oculuslaw08_DecAdds.j0 k a0 a1 t247 t248 t252 t253 t255 false) else (oculuslaw08_DecAdds.j0 k a0 a1 t247 t248 t252 t253 t255 true)) else (oculuslaw08_DecAdds.j0 k a0 a1 t247 t248 t252 t253 t255 (t254 != 0)))))))) else (oculuslaw08_DecAdds.j0 k a0 a1 t247 t248 t252 t253 t255 true)) = some r := H
  have A6 := Aside0.mk A60
  clear A60
  have HC7 := Aside0.mk H
  clear H
  go_enter Try.func6, Try.ntmps6
  go_upto_region 5 with (first | ((with_reducible refine gate_callee (f := 27) rfl ?_); refine goesL_ (some 18) rfl rfl Try.func27 (by kernel_rfl) rfl #[.int .i64 a0, .int .i64 a1] rfl (by (try simp only [List.map_toArray, List.map_cons, List.map_nil]); first | done | rfl | (simp only [List.length_drop, List.length_take]; rfl)) ?_; (with_reducible refine (dec_Add.calls a0 a1 t247 t248 _ A3.out).mono ?_); rintro e w' ⟨rfl, ⟨nd, rfl⟩⟩; refine ⟨_, rfl, ?_⟩) | ((with_reducible refine gate_callee (f := 28) rfl ?_); refine goesL_ (some 23) rfl rfl Try.func28 (by kernel_rfl) rfl #[.int .i64 a0, .int .i64 a1] rfl (by (try simp only [List.map_toArray, List.map_cons, List.map_nil]); first | done | rfl | (simp only [List.length_drop, List.length_take]; rfl)) ?_; (with_reducible refine (oculusref08_Add.calls a0 a1 t249 t250 _ A4.out).mono ?_); rintro e w8 ⟨rfl, hb⟩; refine ⟨_, rfl, ?_⟩; have n0_ := Aside0.mk (below_step (by repeat (first | (with_reducible first | exact HB.out | apply below_alloc | apply pw_below_drewN | apply below_drew1) | exact HB.out)) hb); clear HB; have HB := n0_; clear n0_; (try clear hb); (try clear hb2); (try clear hk); (try clear hi)) | ((with_reducible refine gate_dst (N := 7) rfl ?_); refine box_event ?hg (N := 7) ?hd (cs := #[.int .i64 0, .bool false]) (t := 30) ?hr ?_; (case hd => rfl); (case hg => rfl); (case hr => first | (go_simp; done) | (go_simp; rfl)); intro gb251 hg w9 hbox hb; have n0_ := Aside0.mk (below_step (by repeat (first | (with_reducible first | exact HB.out | apply below_alloc | apply pw_below_drewN | apply below_drew1) | exact HB.out)) hb); have n1_ := Aside0.mk (hbox); have n2_ := Aside0.mk ((by rw [hg]; exact (below_size (by repeat (first | (with_reducible first | exact HB.out | apply below_alloc | apply pw_below_drewN | apply below_drew1) | exact HB.out))) : w.heap.size ≤ gb251)); have n3_ := Aside0.mk ((by rw [hg]; exact (below_size (by repeat (first | (with_reducible first | exact HB.out | apply below_alloc | apply pw_below_drewN | apply below_drew1) | exact HB.out))) : w.heap.size ≤ gb251)); clear HB; have HB := n0_; have BK251 := n1_; have GW251 := n2_; have GE251 := n3_; clear n0_ n1_ n2_ n3_; clear hb hbox hg; have hcz10_0 : w9.cell? ⟨gb251, 0, none⟩ = some (.int .i64 0) := (blk_cell BK251.out 0).trans rfl; have hcz10_1 : w9.cell? ⟨gb251, 1, none⟩ = some (.bool false) := (blk_cell BK251.out 1).trans rfl; have hfz10_0 := blk_frozen BK251.out 0; have hfz10_1 := blk_frozen BK251.out 1) | ((with_reducible refine gate_callee (f := 29) rfl ?_); refine goesL_ (some 27) rfl rfl Try.func29 (by kernel_rfl) rfl #[.int .i64 a0, .int .i64 a1] rfl (by (try simp only [List.map_toArray, List.map_cons, List.map_nil]); first | done | rfl | (simp only [List.length_drop, List.length_take]; rfl)) ?_; (with_reducible refine (dec_Sub.calls a0 a1 t252 t253 _ A5.out).mono ?_); rintro e w' ⟨rfl, ⟨nd, rfl⟩⟩; refine ⟨_, rfl, ?_⟩) | ((with_reducible refine gate_callee (f := 30) rfl ?_); refine goesL_ (some 32) rfl rfl Try.func30 (by kernel_rfl) rfl #[.int .i64 a1] rfl (by (try simp only [List.map_toArray, List.map_cons, List.map_nil]); first | done | rfl | (simp only [List.length_drop, List.length_take]; rfl)) ?_; (with_reducible refine (dec_Neg.calls a1 t254 t255 _ A6.out).mono ?_); rintro e w' ⟨rfl, ⟨nd, rfl⟩⟩; refine ⟨_, rfl, ?_⟩))
  (try simp only [Act.put, List.setIfInBounds_toArray, List.set_cons_zero, List.set_cons_succ])
  go_cut [73] (fun v73 wc => ∃ (kq : Nat) (x73_6 : Bool), v73 = .bool x73_6 ∧ Aside0 (oculuslaw08_DecAdds.j0 kq a0 a1 t247 t248 t252 t253 t255 x73_6 = some r) ∧ Aside0 (kq ≤ k) ∧ Aside0 (wc.heap[gb251]? = some (.cells #[.int .i64 t249, .bool t250] 30 (0, 0))) ∧ Aside0 (Below w.heap.size w wc))
  case first =>
    have H := HC7.out
    clear HC7
    by_cases c11 : t247 = t249
    · rw [if_pos c11] at H
      have c11b0 : (t247 == t249) = true := beq_iff_eq.mpr c11
      have c11b1 : (t247 != t249) = false := bne_eq_false_iff_eq.mpr c11
      clear c11
      (first | rw [c11b0] | (simp only [i64_w, i32_w]; rw [c11b0]) | skip)
      by_cases c12 : (t248 != t250) = true
      · rw [if_pos c12] at H
        have c12b0 : (t248 != t250) = true := c12
        (try (have c12b1 : decide (t248 = t250) = false := by simpa using c12))
        (try (have c12b2 : (t248 == t250) = false := by simpa using c12))
        (try (have c12b3 : ¬ (t248 = t250) := by simpa using c12))
        clear c12
        have H' := Aside0.mk H
        clear H
        have hcz13_0 : w9.cell? ⟨gb251, 0, none⟩ = some (.int .i64 0) := (blk_cell BK251.out 0).trans rfl
        have hcz13_1 : w9.cell? ⟨gb251, 1, none⟩ = some (.bool false) := (blk_cell BK251.out 1).trans rfl
        have hfz13_0 := blk_frozen BK251.out 0
        have hfz13_1 := blk_frozen BK251.out 1
        go_wp2
        go_meet
        case rel => exact ⟨_, (true), (by first | rfl | (simp; done) | (simp [*]; done)), H', ⟨by first | omega | exact Nat.le_refl _⟩, ⟨by (with_reducible repeat (first | refine blk_drewN ?_ _ | refine blk_drew ?_ | refine blk_alloc ?_ _)); refine blk_put (cs := #[.int .i64 t249, .bool false]) ?_ 1 _ rfl; (with_reducible repeat (first | refine blk_drewN ?_ _ | refine blk_drew ?_ | refine blk_alloc ?_ _)); refine blk_put (cs := #[.int .i64 0, .bool false]) ?_ 0 _ rfl; (with_reducible repeat (first | refine blk_drewN ?_ _ | refine blk_drew ?_ | refine blk_alloc ?_ _)); exact BK251.out⟩, ⟨by repeat (first | (with_reducible first | exact HB.out | apply below_alloc | apply pw_below_drewN | apply below_drew1 | refine below_set ?_ GE251.out) | exact HB.out)⟩⟩
      · rw [if_neg c12] at H
        have c12b0 : (t248 != t250) = false := by simpa using c12
        (try (have c12b1 : decide (t248 = t250) = true := by simpa using c12))
        (try (have c12b2 : (t248 == t250) = true := by simpa using c12))
        clear c12
        replace H := Option.bind_eq_some_iff.mp H
        obtain ⟨t256, A140, H⟩ := H
        replace H : (if (t255 != t256) = true then (oculuslaw08_DecAdds.j0 k a0 a1 t247 t248 t252 t253 t255 true) else ((dec_May.f a1).bind fun t257 => (if (t257 != t255) = true then (oculuslaw08_DecAdds.j0 k a0 a1 t247 t248 t252 t253 t255 true) else (if t255 = true then (if t254 = (wrap64 (-a1)) then (oculuslaw08_DecAdds.j0 k a0 a1 t247 t248 t252 t253 t255 false) else (oculuslaw08_DecAdds.j0 k a0 a1 t247 t248 t252 t253 t255 true)) else (oculuslaw08_DecAdds.j0 k a0 a1 t247 t248 t252 t253 t255 (t254 != 0)))))) = some r := H
        have A14 := Aside0.mk A140
        clear A140
        by_cases c15 : (t255 != t256) = true
        · rw [if_pos c15] at H
          have c15b0 : (t255 != t256) = true := c15
          (try (have c15b1 : decide (t255 = t256) = false := by simpa using c15))
          (try (have c15b2 : (t255 == t256) = false := by simpa using c15))
          (try (have c15b3 : ¬ (t255 = t256) := by simpa using c15))
          clear c15
          have H' := Aside0.mk H
          clear H
          have hcz16_0 : w9.cell? ⟨gb251, 0, none⟩ = some (.int .i64 0) := (blk_cell BK251.out 0).trans rfl
          have hcz16_1 : w9.cell? ⟨gb251, 1, none⟩ = some (.bool false) := (blk_cell BK251.out 1).trans rfl
          have hfz16_0 := blk_frozen BK251.out 0
          have hfz16_1 := blk_frozen BK251.out 1
          go_wp2_with (first | (go_at_call 22; (with_reducible refine (oculusref08_May.calls a1 t256 _ A14.out).mono ?_); rintro e w' ⟨rfl, ⟨nd, rfl⟩⟩; (try clear A14)))
          go_meet
          case rel => exact ⟨_, (true), (by first | rfl | (simp; done) | (simp [*]; done)), H', ⟨by first | omega | exact Nat.le_refl _⟩, ⟨by (with_reducible repeat (first | refine blk_drewN ?_ _ | refine blk_drew ?_ | refine blk_alloc ?_ _)); refine blk_put (cs := #[.int .i64 t249, .bool false]) ?_ 1 _ rfl; (with_reducible repeat (first | refine blk_drewN ?_ _ | refine blk_drew ?_ | refine blk_alloc ?_ _)); refine blk_put (cs := #[.int .i64 0, .bool false]) ?_ 0 _ rfl; (with_reducible repeat (first | refine blk_drewN ?_ _ | refine blk_drew ?_ | refine blk_alloc ?_ _)); exact BK251.out⟩, ⟨by repeat (first | (with_reducible first | exact HB.out | apply below_alloc | apply pw_below_drewN | apply below_drew1 | refine below_set ?_ GE251.out) | exact HB.out)⟩⟩
        · rw [if_neg c15] at H
          have c15b0 : (t255 != t256) = false := by simpa using c15
          (try (have c15b1 : decide (t255 = t256) = true := by simpa using c15))
          (try (have c15b2 : (t255 == t256) = true := by simpa using c15))
          clear c15
          replace H := Option.bind_eq_some_iff.mp H
          obtain ⟨t257, A170, H⟩ := H
          replace H : (if (t257 != t255) = true then (oculuslaw08_DecAdds.j0 k a0 a1 t247 t248 t252 t253 t255 true) else (if t255 = true then (if t254 = (wrap64 (-a1)) then (oculuslaw08_DecAdds.j0 k a0 a1 t247 t248 t252 t253 t255 false) else (oculuslaw08_DecAdds.j0 k a0 a1 t247 t248 t252 t253 t255 true)) else (oculuslaw08_DecAdds.j0 k a0 a1 t247 t248 t252 t253 t255 (t254 != 0)))) = some r := H
          have A17 := Aside0.mk A170
          clear A170
          by_cases c18 : (t257 != t255) = true
          · rw [if_pos c18] at H
            have c18b0 : (t257 != t255) = true := c18
            (try (have c18b1 : decide (t257 = t255) = false := by simpa using c18))
            (try (have c18b2 : (t257 == t255) = false := by simpa using c18))
            (try (have c18b3 : ¬ (t257 = t255) := by simpa using c18))
            clear c18
            have H' := Aside0.mk H
            clear H
            have hcz19_0 : w9.cell? ⟨gb251, 0, none⟩ = some (.int .i64 0) := (blk_cell BK251.out 0).trans rfl
            have hcz19_1 : w9.cell? ⟨gb251, 1, none⟩ = some (.bool false) := (blk_cell BK251.out 1).trans rfl
            have hfz19_0 := blk_frozen BK251.out 0
            have hfz19_1 := blk_frozen BK251.out 1
            go_wp2_with (first | (go_at_call 22; (with_reducible refine (oculusref08_May.calls a1 t256 _ A14.out).mono ?_); rintro e w' ⟨rfl, ⟨nd, rfl⟩⟩; (try clear A14)) | (go_at_call 31; (with_reducible refine (dec_May.calls a1 t257 _ A17.out).mono ?_); rintro e w' ⟨rfl, ⟨nd, rfl⟩⟩; (try clear A17)))
            go_meet
            case rel => exact ⟨_, (true), (by first | rfl | (simp; done) | (simp [*]; done)), H', ⟨by first | omega | exact Nat.le_refl _⟩, ⟨by (with_reducible repeat (first | refine blk_drewN ?_ _ | refine blk_drew ?_ | refine blk_alloc ?_ _)); refine blk_put (cs := #[.int .i64 t249, .bool false]) ?_ 1 _ rfl; (with_reducible repeat (first | refine blk_drewN ?_ _ | refine blk_drew ?_ | refine blk_alloc ?_ _)); refine blk_put (cs := #[.int .i64 0, .bool false]) ?_ 0 _ rfl; (with_reducible repeat (first | refine blk_drewN ?_ _ | refine blk_drew ?_ | refine blk_alloc ?_ _)); exact BK251.out⟩, ⟨by repeat (first | (with_reducible first | exact HB.out | apply below_alloc | apply pw_below_drewN | apply below_drew1 | refine below_set ?_ GE251.out) | exact HB.out)⟩⟩
          · rw [if_neg c18] at H
            have c18b0 : (t257 != t255) = false := by simpa using c18
            (try (have c18b1 : decide (t257 = t255) = true := by simpa using c18))
            (try (have c18b2 : (t257 == t255) = true := by simpa using c18))
            clear c18
            by_cases c20 : t255 = true
            · subst c20
              have H1 : (if t254 = (wrap64 (-a1)) then (oculuslaw08_DecAdds.j0 k a0 a1 t247 t248 t252 t253 true false) else (oculuslaw08_DecAdds.j0 k a0 a1 t247 t248 t252 t253 true true)) = some r := by rw [if_pos rfl] at H; exact H
              clear H
              have H := H1
              clear H1
              by_cases c21 : t254 = (wrap64 (-a1))
              · rw [if_pos c21] at H
                have c21b0 : (t254 == (wrap64 (-a1))) = true := beq_iff_eq.mpr c21
                have c21b1 : (t254 != (wrap64 (-a1))) = false := bne_eq_false_iff_eq.mpr c21
                clear c21
                have H' := Aside0.mk H
                clear H
                have hcz22_0 : w9.cell? ⟨gb251, 0, none⟩ = some (.int .i64 0) := (blk_cell BK251.out 0).trans rfl
                have hcz22_1 : w9.cell? ⟨gb251, 1, none⟩ = some (.bool false) := (blk_cell BK251.out 1).trans rfl
                have hfz22_0 := blk_frozen BK251.out 0
                have hfz22_1 := blk_frozen BK251.out 1
                go_wp2_with (first | (go_at_call 22; (with_reducible refine (oculusref08_May.calls a1 t256 _ A14.out).mono ?_); rintro e w' ⟨rfl, ⟨nd, rfl⟩⟩; (try clear A14)) | (go_at_call 31; (with_reducible refine (dec_May.calls a1 t257 _ A17.out).mono ?_); rintro e w' ⟨rfl, ⟨nd, rfl⟩⟩; (try clear A17)))
                go_meet
                case rel => exact ⟨_, (false), (by first | rfl | (simp; done) | (simp [*]; done)), H', ⟨by first | omega | exact Nat.le_refl _⟩, ⟨by (with_reducible repeat (first | refine blk_drewN ?_ _ | refine blk_drew ?_ | refine blk_alloc ?_ _)); refine blk_put (cs := #[.int .i64 t249, .bool false]) ?_ 1 _ rfl; (with_reducible repeat (first | refine blk_drewN ?_ _ | refine blk_drew ?_ | refine blk_alloc ?_ _)); refine blk_put (cs := #[.int .i64 0, .bool false]) ?_ 0 _ rfl; (with_reducible repeat (first | refine blk_drewN ?_ _ | refine blk_drew ?_ | refine blk_alloc ?_ _)); exact BK251.out⟩, ⟨by repeat (first | (with_reducible first | exact HB.out | apply below_alloc | apply pw_below_drewN | apply below_drew1 | refine below_set ?_ GE251.out) | exact HB.out)⟩⟩
              · rw [if_neg c21] at H
                have c21b0 : (t254 == (wrap64 (-a1))) = false := beq_eq_false_iff_ne.mpr c21
                have c21b1 : (t254 != (wrap64 (-a1))) = true := bne_iff_ne.mpr c21
                have H' := Aside0.mk H
                clear H
                have hcz23_0 : w9.cell? ⟨gb251, 0, none⟩ = some (.int .i64 0) := (blk_cell BK251.out 0).trans rfl
                have hcz23_1 : w9.cell? ⟨gb251, 1, none⟩ = some (.bool false) := (blk_cell BK251.out 1).trans rfl
                have hfz23_0 := blk_frozen BK251.out 0
                have hfz23_1 := blk_frozen BK251.out 1
                go_wp2_with (first | (go_at_call 22; (with_reducible refine (oculusref08_May.calls a1 t256 _ A14.out).mono ?_); rintro e w' ⟨rfl, ⟨nd, rfl⟩⟩; (try clear A14)) | (go_at_call 31; (with_reducible refine (dec_May.calls a1 t257 _ A17.out).mono ?_); rintro e w' ⟨rfl, ⟨nd, rfl⟩⟩; (try clear A17)))
                go_meet
                case rel => exact ⟨_, (true), (by first | rfl | (simp; done) | (simp [*]; done)), H', ⟨by first | omega | exact Nat.le_refl _⟩, ⟨by (with_reducible repeat (first | refine blk_drewN ?_ _ | refine blk_drew ?_ | refine blk_alloc ?_ _)); refine blk_put (cs := #[.int .i64 t249, .bool false]) ?_ 1 _ rfl; (with_reducible repeat (first | refine blk_drewN ?_ _ | refine blk_drew ?_ | refine blk_alloc ?_ _)); refine blk_put (cs := #[.int .i64 0, .bool false]) ?_ 0 _ rfl; (with_reducible repeat (first | refine blk_drewN ?_ _ | refine blk_drew ?_ | refine blk_alloc ?_ _)); exact BK251.out⟩, ⟨by repeat (first | (with_reducible first | exact HB.out | apply below_alloc | apply pw_below_drewN | apply below_drew1 | refine below_set ?_ GE251.out) | exact HB.out)⟩⟩
            · replace c20 := Bool.eq_false_iff.mpr c20
              subst c20
              have H1 : (oculuslaw08_DecAdds.j0 k a0 a1 t247 t248 t252 t253 false (t254 != 0)) = some r := by rw [if_neg (show ¬ (false = true) by decide)] at H; exact H
              clear H
              have H := H1
              clear H1
              have H' := Aside0.mk H
              clear H
              have hcz24_0 : w9.cell? ⟨gb251, 0, none⟩ = some (.int .i64 0) := (blk_cell BK251.out 0).trans rfl
              have hcz24_1 : w9.cell? ⟨gb251, 1, none⟩ = some (.bool false) := (blk_cell BK251.out 1).trans rfl
              have hfz24_0 := blk_frozen BK251.out 0
              have hfz24_1 := blk_frozen BK251.out 1
              go_wp2_with (first | (go_at_call 22; (with_reducible refine (oculusref08_May.calls a1 t256 _ A14.out).mono ?_); rintro e w' ⟨rfl, ⟨nd, rfl⟩⟩; (try clear A14)) | (go_at_call 31; (with_reducible refine (dec_May.calls a1 t257 _ A17.out).mono ?_); rintro e w' ⟨rfl, ⟨nd, rfl⟩⟩; (try clear A17)))
              go_meet
              case rel => exact ⟨_, ((t254 != 0)), (by first | rfl | (simp; done) | (simp [*]; done)), H', ⟨by first | omega | exact Nat.le_refl _⟩, ⟨by (with_reducible repeat (first | refine blk_drewN ?_ _ | refine blk_drew ?_ | refine blk_alloc ?_ _)); refine blk_put (cs := #[.int .i64 t249, .bool false]) ?_ 1 _ rfl; (with_reducible repeat (first | refine blk_drewN ?_ _ | refine blk_drew ?_ | refine blk_alloc ?_ _)); refine blk_put (cs := #[.int .i64 0, .bool false]) ?_ 0 _ rfl; (with_reducible repeat (first | refine blk_drewN ?_ _ | refine blk_drew ?_ | refine blk_alloc ?_ _)); exact BK251.out⟩, ⟨by repeat (first | (with_reducible first | exact HB.out | apply below_alloc | apply pw_below_drewN | apply below_drew1 | refine below_set ?_ GE251.out) | exact HB.out)⟩⟩
    · rw [if_neg c11] at H
      have c11b0 : (t247 == t249) = false := beq_eq_false_iff_ne.mpr c11
      have c11b1 : (t247 != t249) = true := bne_iff_ne.mpr c11
      (first | rw [c11b0] | (simp only [i64_w, i32_w]; rw [c11b0]) | skip)
      have H' := Aside0.mk H
      clear H
      have hcz25_0 : w9.cell? ⟨gb251, 0, none⟩ = some (.int .i64 0) := (blk_cell BK251.out 0).trans rfl
      have hcz25_1 : w9.cell? ⟨gb251, 1, none⟩ = some (.bool false) := (blk_cell BK251.out 1).trans rfl
      have hfz25_0 := blk_frozen BK251.out 0
      have hfz25_1 := blk_frozen BK251.out 1
      go_wp2
      go_meet
      case rel => exact ⟨_, (true), (by first | rfl | (simp; done) | (simp [*]; done)), H', ⟨by first | omega | exact Nat.le_refl _⟩, ⟨by (with_reducible repeat (first | refine blk_drewN ?_ _ | refine blk_drew ?_ | refine blk_alloc ?_ _)); refine blk_put (cs := #[.int .i64 t249, .bool false]) ?_ 1 _ rfl; (with_reducible repeat (first | refine blk_drewN ?_ _ | refine blk_drew ?_ | refine blk_alloc ?_ _)); refine blk_put (cs := #[.int .i64 0, .bool false]) ?_ 0 _ rfl; (with_reducible repeat (first | refine blk_drewN ?_ _ | refine blk_drew ?_ | refine blk_alloc ?_ _)); exact BK251.out⟩, ⟨by repeat (first | (with_reducible first | exact HB.out | apply below_alloc | apply pw_below_drewN | apply below_drew1 | refine below_set ?_ GE251.out) | exact HB.out)⟩⟩
  case rest =>
    clear HC7
    try clear c1
    try clear c2
    try clear p2
    try clear c3
    try clear c6
    try clear p6
    try clear c11
    try clear c11b0
    try clear c11b1
    try clear c12
    try clear c12b0
    try clear c12b1
    try clear c12b2
    try clear c15
    try clear c15b0
    try clear c15b1
    try clear c15b2
    try clear c18
    try clear c18b0
    try clear c18b1
    try clear c18b2
    try clear c20
    try clear c21
    try clear c21b0
    try clear c21b1
    try clear hcz10_0
    try clear hcz10_1
    try clear hcz13_0
    try clear hcz13_1
    try clear hcz16_0
    try clear hcz16_1
    try clear hcz19_0
    try clear hcz19_1
    try clear hcz22_0
    try clear hcz22_1
    try clear hcz23_0
    try clear hcz23_1
    try clear hcz24_0
    try clear hcz24_1
    try clear hcz25_0
    try clear hcz25_1
    try clear hfz10_0
    try clear hfz10_1
    try clear hfz13_0
    try clear hfz13_1
    try clear hfz16_0
    try clear hfz16_1
    try clear hfz19_0
    try clear hfz19_1
    try clear hfz22_0
    try clear hfz22_1
    try clear hfz23_0
    try clear hfz23_1
    try clear hfz24_0
    try clear hfz24_1
    try clear hfz25_0
    try clear hfz25_1
    obtain ⟨kq, x73_6, rfl, HA, HJ6, BK251, HB⟩ := hcut
    cases kq with
    | zero => exact absurd HA.out (by simp [oculuslaw08_DecAdds.j0])
    | succ kj6 =>
      have H := HA.out
      clear HA
      simp only [oculuslaw08_DecAdds.j0] at H
      by_cases c26 : x73_6 = true
      · subst c26
        have H1 : (some false) = some r := by rw [if_pos rfl] at H; exact H
        clear H
        have H := H1
        clear H1
        obtain rfl := Option.some.inj H
        go_wp2
        go_ret
        exact ⟨by first | rfl | (simp [errW_none, errW_some] <;> rfl) | (simp [*, errW_none, errW_some] <;> rfl), by repeat (first | (with_reducible first | exact HB.out | apply below_alloc | apply pw_below_drewN | apply below_drew1 | refine below_set ?_ GE251.out) | exact HB.out)⟩
      · replace c26 := Bool.eq_false_iff.mpr c26
        subst c26
        have H1 : (if t255 = true then ((oculusref08_Add.f a0 (wrap64 (-a1))).bind fun bt259 => (oculuslaw08_DecAdds.j1 kj6 a0 a1 t247 t248 t252 t253 bt259.1 bt259.2)) else (oculuslaw08_DecAdds.j1 kj6 a0 a1 t247 t248 t252 t253 0 false)) = some r := by rw [if_neg (show ¬ (false = true) by decide)] at H; exact H
        clear H
        have H := H1
        clear H1
        have HC27 := Aside0.mk H
        clear H
        go_upto_if 75 with (first | ((with_reducible refine gate_dst (N := 12) rfl ?_); refine box_event ?hg (N := 12) ?hd (cs := #[.int .i64 0, .bool false]) (t := 30) ?hr ?_; (case hd => rfl); (case hg => rfl); (case hr => first | (go_simp; done) | (go_simp; rfl)); intro gb258 hg w28 hbox hb; have n0_ := Aside0.mk (blk_below (g := gb251) (o := .cells #[.int .i64 t249, .bool t250] 30 (0, 0)) (by (with_reducible repeat (first | refine blk_drewN ?_ _ | refine blk_drew ?_ | refine blk_alloc ?_ _)); exact BK251.out) hb); have n1_ := Aside0.mk (below_step (by repeat (first | (with_reducible first | exact HB.out | apply below_alloc | apply pw_below_drewN | apply below_drew1 | refine below_set ?_ GE251.out) | exact HB.out)) hb); have n2_ := Aside0.mk (hbox); have n3_ := Aside0.mk ((by rw [hg]; exact (below_size (by repeat (first | (with_reducible first | exact HB.out | apply below_alloc | apply pw_below_drewN | apply below_drew1 | refine below_set ?_ GE251.out) | exact HB.out))) : w.heap.size ≤ gb258)); have n4_ := Aside0.mk ((by rw [hg]; exact (below_size (by repeat (first | (with_reducible first | exact HB.out | apply below_alloc | apply pw_below_drewN | apply below_drew1 | refine below_set ?_ GE251.out) | exact HB.out))) : w.heap.size ≤ gb258)); have n5_ := Aside0.mk ((by rw [hg]; exact Nat.ne_of_lt (blk_lt (g := gb251) (o := .cells #[.int .i64 t249, .bool t250] 30 (0, 0)) (by (with_reducible repeat (first | refine blk_drewN ?_ _ | refine blk_drew ?_ | refine blk_alloc ?_ _)); exact BK251.out)) : gb251 ≠ gb258)); have n6_ := Aside0.mk ((by rw [hg]; exact Nat.ne_of_gt (blk_lt (g := gb251) (o := .cells #[.int .i64 t249, .bool t250] 30 (0, 0)) (by (with_reducible repeat (first | refine blk_drewN ?_ _ | refine blk_drew ?_ | refine blk_alloc ?_ _)); exact BK251.out)) : gb258 ≠ gb251)); clear BK251; clear HB; have BK251 := n0_; have HB := n1_; have BK258 := n2_; have GW258 := n3_; have GE258 := n4_; have NB251_258 := n5_; have NB258_251 := n6_; clear n0_ n1_ n2_ n3_ n4_ n5_ n6_; clear hb hbox hg; have hnb29 := NB258_251.out; have hnc29 := NB251_258.out; have hcz30_0 : w28.cell? ⟨gb258, 0, none⟩ = some (.int .i64 0) := (blk_cell BK258.out 0).trans rfl; have hcz30_1 : w28.cell? ⟨gb258, 1, none⟩ = some (.bool false) := (blk_cell BK258.out 1).trans rfl; have hfz30_0 := blk_frozen BK258.out 0; have hfz30_1 := blk_frozen BK258.out 1))
        (try simp only [Act.put, List.setIfInBounds_toArray, List.set_cons_zero, List.set_cons_succ])
        go_cut [] (fun wc => ∃ (kq : Nat) (x259000_26 : Int) (x259001_26 : Bool), Aside0 (oculuslaw08_DecAdds.j1 kq a0 a1 t247 t248 t252 t253 x259000_26 x259001_26 = some r) ∧ Aside0 (kq ≤ kj6) ∧ Aside0 (wc.heap[gb251]? = some (.cells #[.int .i64 t249, .bool t250] 30 (0, 0))) ∧ Aside0 (wc.heap[gb258]? = some (.cells #[.int .i64 x259000_26, .bool x259001_26] 30 (0, 0))) ∧ Aside0 (Below w.heap.size w wc))
        case first =>
          have H := HC27.out
          clear HC27
          by_cases c31 : t255 = true
          · subst c31
            have H1 : ((oculusref08_Add.f a0 (wrap64 (-a1))).bind fun bt259 => (oculuslaw08_DecAdds.j1 kj6 a0 a1 t247 t248 t252 t253 bt259.1 bt259.2)) = some r := by rw [if_pos rfl] at H; exact H
            clear H
            have H := H1
            clear H1
            replace H := Option.bind_eq_some_iff.mp H
            obtain ⟨⟨t259, t260⟩, A320, H⟩ := H
            replace H : (oculuslaw08_DecAdds.j1 kj6 a0 a1 t247 t248 t252 t253 t259 t260) = some r := H
            have A32 := Aside0.mk A320
            clear A320
            have H' := Aside0.mk H
            clear H
            go_wp2_with (first | ((with_reducible refine gate_callee (f := 28) rfl ?_); refine goesL_ (some 79) rfl rfl Try.func28 (by kernel_rfl) rfl #[.int .i64 a0, .int .i64 (wrap64 (-a1))] rfl (by (try simp only [List.map_toArray, List.map_cons, List.map_nil]); first | done | rfl | (simp only [List.length_drop, List.length_take]; rfl)) ?_; (with_reducible refine (oculusref08_Add.calls a0 (wrap64 (-a1)) t259 t260 _ A32.out).mono ?_); rintro e w33 ⟨rfl, hb⟩; refine ⟨_, rfl, ?_⟩; have n0_ := Aside0.mk (blk_below (g := gb251) (o := .cells #[.int .i64 t249, .bool t250] 30 (0, 0)) (by (with_reducible repeat (first | refine blk_drewN ?_ _ | refine blk_drew ?_ | refine blk_alloc ?_ _)); refine blk_far ?_ NB251_258.out _; (with_reducible repeat (first | refine blk_drewN ?_ _ | refine blk_drew ?_ | refine blk_alloc ?_ _)); refine blk_far ?_ NB251_258.out _; (with_reducible repeat (first | refine blk_drewN ?_ _ | refine blk_drew ?_ | refine blk_alloc ?_ _)); exact BK251.out) hb); have n1_ := Aside0.mk (blk_below (g := gb258) (o := .cells #[.int .i64 0, .bool false] 30 (0, 0)) (by (with_reducible repeat (first | refine blk_drewN ?_ _ | refine blk_drew ?_ | refine blk_alloc ?_ _)); refine blk_put (cs := #[.int .i64 0, .bool false]) ?_ 1 _ rfl; (with_reducible repeat (first | refine blk_drewN ?_ _ | refine blk_drew ?_ | refine blk_alloc ?_ _)); refine blk_put (cs := #[.int .i64 0, .bool false]) ?_ 0 _ rfl; (with_reducible repeat (first | refine blk_drewN ?_ _ | refine blk_drew ?_ | refine blk_alloc ?_ _)); exact BK258.out) hb); have n2_ := Aside0.mk (below_step (by repeat (first | (with_reducible first | exact HB.out | apply below_alloc | apply pw_below_drewN | apply below_drew1 | refine below_set ?_ GE251.out | refine below_set ?_ GE258.out) | exact HB.out)) hb); clear BK251; clear BK258; clear HB; have BK251 := n0_; have BK258 := n1_; have HB := n2_; clear n0_ n1_ n2_; (try clear hb); (try clear hb2); (try clear hk); (try clear hi); have hnb34 := NB258_251.out; have hnc34 := NB251_258.out; have hcz35_0 : w33.cell? ⟨gb258, 0, none⟩ = some (.int .i64 0) := (blk_cell BK258.out 0).trans rfl; have hcz35_1 : w33.cell? ⟨gb258, 1, none⟩ = some (.bool false) := (blk_cell BK258.out 1).trans rfl; have hfz35_0 := blk_frozen BK258.out 0; have hfz35_1 := blk_frozen BK258.out 1))
            go_meet
            case rel => exact ⟨_, (t259), (t260), H', ⟨by have := HJ6.out; first | omega | exact Nat.le_refl _⟩, ⟨by (with_reducible repeat (first | refine blk_drewN ?_ _ | refine blk_drew ?_ | refine blk_alloc ?_ _)); refine blk_far ?_ NB251_258.out _; (with_reducible repeat (first | refine blk_drewN ?_ _ | refine blk_drew ?_ | refine blk_alloc ?_ _)); refine blk_far ?_ NB251_258.out _; (with_reducible repeat (first | refine blk_drewN ?_ _ | refine blk_drew ?_ | refine blk_alloc ?_ _)); exact BK251.out⟩, ⟨by (with_reducible repeat (first | refine blk_drewN ?_ _ | refine blk_drew ?_ | refine blk_alloc ?_ _)); refine blk_put (cs := #[.int .i64 t259, .bool false]) ?_ 1 _ rfl; (with_reducible repeat (first | refine blk_drewN ?_ _ | refine blk_drew ?_ | refine blk_alloc ?_ _)); refine blk_put (cs := #[.int .i64 0, .bool false]) ?_ 0 _ rfl; (with_reducible repeat (first | refine blk_drewN ?_ _ | refine blk_drew ?_ | refine blk_alloc ?_ _)); exact BK258.out⟩, ⟨by repeat (first | (with_reducible first | exact HB.out | apply below_alloc | apply pw_below_drewN | apply below_drew1 | refine below_set ?_ GE251.out | refine below_set ?_ GE258.out) | exact HB.out)⟩⟩
          · replace c31 := Bool.eq_false_iff.mpr c31
            subst c31
            have H1 : (oculuslaw08_DecAdds.j1 kj6 a0 a1 t247 t248 t252 t253 0 false) = some r := by rw [if_neg (show ¬ (false = true) by decide)] at H; exact H
            clear H
            have H := H1
            clear H1
            have H' := Aside0.mk H
            clear H
            go_wp2
            go_meet
            case rel => exact ⟨_, (0), (false), H', ⟨by have := HJ6.out; first | omega | exact Nat.le_refl _⟩, ⟨by (with_reducible repeat (first | refine blk_drewN ?_ _ | refine blk_drew ?_ | refine blk_alloc ?_ _)); refine blk_far ?_ NB251_258.out _; (with_reducible repeat (first | refine blk_drewN ?_ _ | refine blk_drew ?_ | refine blk_alloc ?_ _)); refine blk_far ?_ NB251_258.out _; (with_reducible repeat (first | refine blk_drewN ?_ _ | refine blk_drew ?_ | refine blk_alloc ?_ _)); exact BK251.out⟩, ⟨by (with_reducible repeat (first | refine blk_drewN ?_ _ | refine blk_drew ?_ | refine blk_alloc ?_ _)); refine blk_put (cs := #[.int .i64 0, .bool false]) ?_ 1 _ rfl; (with_reducible repeat (first | refine blk_drewN ?_ _ | refine blk_drew ?_ | refine blk_alloc ?_ _)); refine blk_put (cs := #[.int .i64 0, .bool false]) ?_ 0 _ rfl; (with_reducible repeat (first | refine blk_drewN ?_ _ | refine blk_drew ?_ | refine blk_alloc ?_ _)); exact BK258.out⟩, ⟨by repeat (first | (with_reducible first | exact HB.out | apply below_alloc | apply pw_below_drewN | apply below_drew1 | refine below_set ?_ GE251.out | refine below_set ?_ GE258.out) | exact HB.out)⟩⟩
        case rest =>
          clear HC27
          try clear c1
          try clear c2
          try clear p2
          try clear c3
          try clear c6
          try clear p6
          try clear c11
          try clear c11b0
          try clear c11b1
          try clear c12
          try clear c12b0
          try clear c12b1
          try clear c12b2
          try clear c15
          try clear c15b0
          try clear c15b1
          try clear c15b2
          try clear c18
          try clear c18b0
          try clear c18b1
          try clear c18b2
          try clear c20
          try clear c21
          try clear c21b0
          try clear c21b1
          try clear c26
          try clear c27
          try clear c28
          try clear c29
          try clear c30
          try clear c31
          try clear c34
          try clear hcz10_0
          try clear hcz10_1
          try clear hcz13_0
          try clear hcz13_1
          try clear hcz16_0
          try clear hcz16_1
          try clear hcz19_0
          try clear hcz19_1
          try clear hcz22_0
          try clear hcz22_1
          try clear hcz23_0
          try clear hcz23_1
          try clear hcz24_0
          try clear hcz24_1
          try clear hcz25_0
          try clear hcz25_1
          try clear hcz30_0
          try clear hcz30_1
          try clear hcz35_0
          try clear hcz35_1
          try clear hfz10_0
          try clear hfz10_1
          try clear hfz13_0
          try clear hfz13_1
          try clear hfz16_0
          try clear hfz16_1
          try clear hfz19_0
          try clear hfz19_1
          try clear hfz22_0
          try clear hfz22_1
          try clear hfz23_0
          try clear hfz23_1
          try clear hfz24_0
          try clear hfz24_1
          try clear hfz25_0
          try clear hfz25_1
          try clear hfz30_0
          try clear hfz30_1
          try clear hfz35_0
          try clear hfz35_1
          try clear p2
          try clear p6
          obtain ⟨kq, x259000_26, x259001_26, HA, HJ26, BK251, BK258, HB⟩ := hcut
          cases kq with
          | zero => exact absurd HA.out (by simp [oculuslaw08_DecAdds.j1])
          | succ kj26 =>
            have H := HA.out
            clear HA
            simp only [oculuslaw08_DecAdds.j1] at H
            have HC36 := Aside0.mk H
            clear H
            go_upto_region 10 with (fail)
            go_cut [89] (fun v89 wc => ∃ (kq : Nat) (x89_35 : Bool), v89 = .bool x89_35 ∧ Aside0 (oculuslaw08_DecAdds.j2 kq a0 a1 t247 t248 x89_35 = some r) ∧ Aside0 (kq ≤ kj26) ∧ Aside0 (wc.heap[gb251]? = some (.cells #[.int .i64 t249, .bool t250] 30 (0, 0))) ∧ Aside0 (wc.heap[gb258]? = some (.cells #[.int .i64 x259000_26, .bool x259001_26] 30 (0, 0))) ∧ Aside0 (Below w.heap.size w wc))
            case first =>
              have H := HC36.out
              clear HC36
              by_cases c37 : t252 = x259000_26
              · rw [if_pos c37] at H
                have c37b0 : (t252 == x259000_26) = true := beq_iff_eq.mpr c37
                have c37b1 : (t252 != x259000_26) = false := bne_eq_false_iff_eq.mpr c37
                clear c37
                (first | rw [c37b0] | (simp only [i64_w, i32_w]; rw [c37b0]) | skip)
                have H' := Aside0.mk H
                clear H
                have hnb38 := NB258_251.out
                have hnc38 := NB251_258.out
                have hcz39_0 : wc.cell? ⟨gb258, 0, none⟩ = some (.int .i64 x259000_26) := (blk_cell BK258.out 0).trans rfl
                have hcz39_1 : wc.cell? ⟨gb258, 1, none⟩ = some (.bool x259001_26) := (blk_cell BK258.out 1).trans rfl
                have hfz39_0 := blk_frozen BK258.out 0
                have hfz39_1 := blk_frozen BK258.out 1
                go_wp2
                go_meet
                case rel => exact ⟨_, ((t253 != x259001_26)), (by first | rfl | (simp; done) | (simp [*]; done)), H', ⟨by have := HJ6.out; have := HJ26.out; first | omega | exact Nat.le_refl _⟩, ⟨by (with_reducible repeat (first | refine blk_drewN ?_ _ | refine blk_drew ?_ | refine blk_alloc ?_ _)); exact BK251.out⟩, ⟨by (with_reducible repeat (first | refine blk_drewN ?_ _ | refine blk_drew ?_ | refine blk_alloc ?_ _)); exact BK258.out⟩, ⟨by repeat (first | (with_reducible first | exact HB.out | apply below_alloc | apply pw_below_drewN | apply below_drew1 | refine below_set ?_ GE251.out | refine below_set ?_ GE258.out) | exact HB.out)⟩⟩
              · rw [if_neg c37] at H
                have c37b0 : (t252 == x259000_26) = false := beq_eq_false_iff_ne.mpr c37
                have c37b1 : (t252 != x259000_26) = true := bne_iff_ne.mpr c37
                (first | rw [c37b0] | (simp only [i64_w, i32_w]; rw [c37b0]) | skip)
                have H' := Aside0.mk H
                clear H
                have hnb40 := NB258_251.out
                have hnc40 := NB251_258.out
                have hcz41_0 : wc.cell? ⟨gb258, 0, none⟩ = some (.int .i64 x259000_26) := (blk_cell BK258.out 0).trans rfl
                have hcz41_1 : wc.cell? ⟨gb258, 1, none⟩ = some (.bool x259001_26) := (blk_cell BK258.out 1).trans rfl
                have hfz41_0 := blk_frozen BK258.out 0
                have hfz41_1 := blk_frozen BK258.out 1
                go_wp2
                go_meet
                case rel => exact ⟨_, (true), (by first | rfl | (simp; done) | (simp [*]; done)), H', ⟨by have := HJ6.out; have := HJ26.out; first | omega | exact Nat.le_refl _⟩, ⟨by (with_reducible repeat (first | refine blk_drewN ?_ _ | refine blk_drew ?_ | refine blk_alloc ?_ _)); exact BK251.out⟩, ⟨by (with_reducible repeat (first | refine blk_drewN ?_ _ | refine blk_drew ?_ | refine blk_alloc ?_ _)); exact BK258.out⟩, ⟨by repeat (first | (with_reducible first | exact HB.out | apply below_alloc | apply pw_below_drewN | apply below_drew1 | refine below_set ?_ GE251.out | refine below_set ?_ GE258.out) | exact HB.out)⟩⟩
            case rest =>
              clear HC36
              try clear c1
              try clear c2
              try clear p2
              try clear c3
              try clear c4
              try clear c6
              try clear p6
              try clear c11
              try clear c11b0
              try clear c11b1
              try clear c12
              try clear c12b0
              try clear c12b1
              try clear c12b2
              try clear c15
              try clear c15b0
              try clear c15b1
              try clear c15b2
              try clear c18
              try clear c18b0
              try clear c18b1
              try clear c18b2
              try clear c20
              try clear c21
              try clear c21b0
              try clear c21b1
              try clear c26
              try clear c27
              try clear c28
              try clear c29
              try clear c30
              try clear c31
              try clear c34
              try clear c37
              try clear c37b0
              try clear c37b1
              try clear c38
              try clear c40
              try clear hcz10_0
              try clear hcz10_1
              try clear hcz13_0
              try clear hcz13_1
              try clear hcz16_0
              try clear hcz16_1
              try clear hcz19_0
              try clear hcz19_1
              try clear hcz22_0
              try clear hcz22_1
              try clear hcz23_0
              try clear hcz23_1
              try clear hcz24_0
              try clear hcz24_1
              try clear hcz25_0
              try clear hcz25_1
              try clear hcz30_0
              try clear hcz30_1
              try clear hcz35_0
              try clear hcz35_1
              try clear hcz39_0
              try clear hcz39_1
              try clear hcz41_0
              try clear hcz41_1
              try clear hfz10_0
              try clear hfz10_1
              try clear hfz13_0
              try clear hfz13_1
              try clear hfz16_0
              try clear hfz16_1
              try clear hfz19_0
              try clear hfz19_1
              try clear hfz22_0
              try clear hfz22_1
              try clear hfz23_0
              try clear hfz23_1
              try clear hfz24_0
              try clear hfz24_1
              try clear hfz25_0
              try clear hfz25_1
              try clear hfz30_0
              try clear hfz30_1
              try clear hfz35_0
              try clear hfz35_1
              try clear hfz39_0
              try clear hfz39_1
              try clear hfz41_0
              try clear hfz41_1
              try clear p2
              try clear p6
              obtain ⟨kq, x89_35, rfl, HA, HJ35, BK251, BK258, HB⟩ := hcut
              cases kq with
              | zero => exact absurd HA.out (by simp [oculuslaw08_DecAdds.j2])
              | succ kj35 =>
                have H := HA.out
                clear HA
                simp only [oculuslaw08_DecAdds.j2] at H
                by_cases c42 : x89_35 = true
                · subst c42
                  have H1 : (some false) = some r := by rw [if_pos rfl] at H; exact H
                  clear H
                  have H := H1
                  clear H1
                  obtain rfl := Option.some.inj H
                  go_wp2
                  go_ret
                  exact ⟨by first | rfl | (simp [errW_none, errW_some] <;> rfl) | (simp [*, errW_none, errW_some] <;> rfl), by repeat (first | (with_reducible first | exact HB.out | apply below_alloc | apply pw_below_drewN | apply below_drew1 | refine below_set ?_ GE251.out | refine below_set ?_ GE258.out) | exact HB.out)⟩
                · replace c42 := Bool.eq_false_iff.mpr c42
                  subst c42
                  have H1 : (if t248 = true then ((dec_Sub.f t247 a1).bind fun bt261 => (if bt261.2 = true then (if bt261.1 = a0 then ((oculuslaw08_alive.f kj35).bind fun t263 => (some t263)) else (some false)) else (some false))) else ((oculuslaw08_alive.f kj35).bind fun t264 => (some t264))) = some r := by rw [if_neg (show ¬ (false = true) by decide)] at H; exact H
                  clear H
                  have H := H1
                  clear H1
                  by_cases c43 : t248 = true
                  · subst c43
                    have H1 : ((dec_Sub.f t247 a1).bind fun bt261 => (if bt261.2 = true then (if bt261.1 = a0 then ((oculuslaw08_alive.f kj35).bind fun t263 => (some t263)) else (some false)) else (some false))) = some r := by rw [if_pos rfl] at H; exact H
                    clear H
                    have H := H1
                    clear H1
                    replace H := Option.bind_eq_some_iff.mp H
                    obtain ⟨⟨t261, t262⟩, A440, H⟩ := H
                    replace H : (if t262 = true then (if t261 = a0 then ((oculuslaw08_alive.f kj35).bind fun t263 => (some t263)) else (some false)) else (some false)) = some r := H
                    have A44 := Aside0.mk A440
                    clear A440
                    by_cases c45 : t262 = true
                    · subst c45
                      have H1 : (if t261 = a0 then ((oculuslaw08_alive.f kj35).bind fun t263 => (some t263)) else (some false)) = some r := by rw [if_pos rfl] at H; exact H
                      clear H
                      have H := H1
                      clear H1
                      by_cases c46 : t261 = a0
                      · rw [if_pos c46] at H
                        have c46b0 : (t261 == a0) = true := beq_iff_eq.mpr c46
                        have c46b1 : (t261 != a0) = false := bne_eq_false_iff_eq.mpr c46
                        clear c46
                        replace H := Option.bind_eq_some_iff.mp H
                        obtain ⟨t263, A470, H⟩ := H
                        replace H : (some t263) = some r := H
                        have A47 := Aside0.mk A470
                        clear A470
                        obtain rfl := Option.some.inj H
                        go_wp2_with (first | ((with_reducible refine gate_callee (f := 29) rfl ?_); refine goesL_ (some 96) rfl rfl Try.func29 (by kernel_rfl) rfl #[.int .i64 t247, .int .i64 a1] rfl (by (try simp only [List.map_toArray, List.map_cons, List.map_nil]); first | done | rfl | (simp only [List.length_drop, List.length_take]; rfl)) ?_; (with_reducible refine (dec_Sub.calls t247 a1 t261 true _ A44.out).mono ?_); rintro e w' ⟨rfl, ⟨nd, rfl⟩⟩; refine ⟨_, rfl, ?_⟩) | (go_at_call 25; (with_reducible refine (oculuslaw08_alive.calls kj35  t263 _ A47.out).mono ?_); rintro e w' ⟨rfl, ⟨nd, rfl⟩⟩; (try clear A47)))
                        go_ret
                        exact ⟨by first | rfl | (simp [errW_none, errW_some] <;> rfl) | (simp [*, errW_none, errW_some] <;> rfl), by repeat (first | (with_reducible first | exact HB.out | apply below_alloc | apply pw_below_drewN | apply below_drew1 | refine below_set ?_ GE251.out | refine below_set ?_ GE258.out) | exact HB.out)⟩
                      · rw [if_neg c46] at H
                        have c46b0 : (t261 == a0) = false := beq_eq_false_iff_ne.mpr c46
                        have c46b1 : (t261 != a0) = true := bne_iff_ne.mpr c46
                        obtain rfl := Option.some.inj H
                        go_wp2_with (first | ((with_reducible refine gate_callee (f := 29) rfl ?_); refine goesL_ (some 96) rfl rfl Try.func29 (by kernel_rfl) rfl #[.int .i64 t247, .int .i64 a1] rfl (by (try simp only [List.map_toArray, List.map_cons, List.map_nil]); first | done | rfl | (simp only [List.length_drop, List.length_take]; rfl)) ?_; (with_reducible refine (dec_Sub.calls t247 a1 t261 true _ A44.out).mono ?_); rintro e w' ⟨rfl, ⟨nd, rfl⟩⟩; refine ⟨_, rfl, ?_⟩))
                        go_ret
                        exact ⟨by first | rfl | (simp [errW_none, errW_some] <;> rfl) | (simp [*, errW_none, errW_some] <;> rfl), by repeat (first | (with_reducible first | exact HB.out | apply below_alloc | apply pw_below_drewN | apply below_drew1 | refine below_set ?_ GE251.out | refine below_set ?_ GE258.out) | exact HB.out)⟩
                    · replace c45 := Bool.eq_false_iff.mpr c45
                      subst c45
                      have H1 : (some false) = some r := by rw [if_neg (show ¬ (false = true) by decide)] at H; exact H
                      clear H
                      have H := H1
                      clear H1
                      obtain rfl := Option.some.inj H
                      go_wp2_with (first | ((with_reducible refine gate_callee (f := 29) rfl ?_); refine goesL_ (some 96) rfl rfl Try.func29 (by kernel_rfl) rfl #[.int .i64 t247, .int .i64 a1] rfl (by (try simp only [List.map_toArray, List.map_cons, List.map_nil]); first | done | rfl | (simp only [List.length_drop, List.length_take]; rfl)) ?_; (with_reducible refine (dec_Sub.calls t247 a1 t261 false _ A44.out).mono ?_); rintro e w' ⟨rfl, ⟨nd, rfl⟩⟩; refine ⟨_, rfl, ?_⟩))
                      go_ret
                      exact ⟨by first | rfl | (simp [errW_none, errW_some] <;> rfl) | (simp [*, errW_none, errW_some] <;> rfl), by repeat (first | (with_reducible first | exact HB.out | apply below_alloc | apply pw_below_drewN | apply below_drew1 | refine below_set ?_ GE251.out | refine below_set ?_ GE258.out) | exact HB.out)⟩
                  · replace c43 := Bool.eq_false_iff.mpr c43
                    subst c43
                    have H1 : ((oculuslaw08_alive.f kj35).bind fun t264 => (some t264)) = some r := by rw [if_neg (show ¬ (false = true) by decide)] at H; exact H
                    clear H
                    have H := H1
                    clear H1
                    replace H := Option.bind_eq_some_iff.mp H
                    obtain ⟨t264, A480, H⟩ := H
                    replace H : (some t264) = some r := H
                    have A48 := Aside0.mk A480
                    clear A480
                    obtain rfl := Option.some.inj H
                    go_wp2_with (first | ((with_reducible refine gate_callee (f := 25) rfl ?_); refine goesL_ (some 92) rfl rfl Try.func25 (by kernel_rfl) rfl #[] rfl (by (try simp only [List.map_toArray, List.map_cons, List.map_nil]); first | done | rfl | (simp only [List.length_drop, List.length_take]; rfl)) ?_; (with_reducible refine (oculuslaw08_alive.calls kj35  t264 _ A48.out).mono ?_); rintro e w' ⟨rfl, ⟨nd, rfl⟩⟩; refine ⟨_, rfl, ?_⟩))
                    go_ret
                    exact ⟨by first | rfl | (simp [errW_none, errW_some] <;> rfl) | (simp [*, errW_none, errW_some] <;> rfl), by repeat (first | (with_reducible first | exact HB.out | apply below_alloc | apply pw_below_drewN | apply below_drew1 | refine below_set ?_ GE251.out | refine below_set ?_ GE258.out) | exact HB.out)⟩

/-- THE ONE PURE STATEMENT of oculuslaw08_DecAdds: yours. -/
def oculuslaw08_DecAdds.Pure : Prop := ∀ (a0 : Int) (a1 : Int), (Lit.int .i64 a0).wf = true → (Lit.int .i64 a1).wf = true → ∃ k, oculuslaw08_DecAdds.f k a0 a1 = some true
theorem oculuslaw08_DecAdds.walk (P : oculuslaw08_DecAdds.Pure) (a0 : Int) (a1 : Int) (w : World) (w0 : (Lit.int .i64 a0).wf = true) (w1 : (Lit.int .i64 a1).wf = true) :
    Calls Try.prog 6 #[.int .i64 a0, .int .i64 a1] w fun e w' => e = .returned (.bool true) ∧ Below w.heap.size w w' := by
  obtain ⟨k, h⟩ := P a0 a1 w0 w1
  refine (oculuslaw08_DecAdds.calls k a0 a1 true w h).mono ?_
  rintro e w' ⟨rfl, hd⟩
  exact ⟨rfl, hd⟩

end Go.Proofs.Ytmagefemmhfkaaa.PA
