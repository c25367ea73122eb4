/- What always answers. -/
import Derived.Test.YtcncojlgapknpaaShiftB
set_option linter.unusedVariables false
set_option maxRecDepth 100000
namespace Go.Den.EA
open Go Go.Proofs
def IsB (u : Option PV) : Prop := ∃ b, u = some (.sc (.bool b))
def IsI (k : IntKind) (u : Option PV) : Prop := ∃ n, u = some (.sc (.int k n))
def IsS (M : Nat) (u : Option PV) : Prop := ∃ s : ByteArray, u = some (.sc (.string s)) ∧ s.size ≤ M
theorem next_small {c : Int} (h0 : -1000 ≤ c) (h : c ≤ 1000000000) : IntKind.i64.wrap (c + 1) = c + 1 := w64 (by omega) (by omega)
theorem bit_ev (s c : Int) : IsB (D 37 [.sc (.int .u64 s), .sc (.int .i64 c)]) := by
  rw [f37_eq 0]
  have loop : ∀ (j : Nat) (i s : Int), (c - i).toNat = j → 0 ≤ i → c ≤ 63 → IsB (f37.l0a 0 s c i) := by
    intro j
    induction j with
    | zero =>
      intro i s hj h0 hc
      rw [f37.l0a_eq]
      exact ⟨_, im (fun hh => by have := of_decide_eq_true hh; omega) rfl⟩
    | succ j ih =>
      intro i s hj h0 hc
      rw [f37.l0a_eq]
      obtain ⟨b, hb⟩ := ih (i + 1) (IntKind.u64.wrap (s.tdiv 2)) (by omega) (by omega) hc
      exact ⟨b, ip (decide_eq_true (by omega)) (by rw [next_small (by omega) (by omega)]; exact hb)⟩
  by_cases h : c < 0 ∨ c > 63
  · refine ⟨false, gb (ip ?_ rfl)⟩
    show (if decide (c < 0) = true then true else decide (c > 63)) = true
    rcases h with h | h
    · rw [if_pos (decide_eq_true h)]
    · by_cases h2 : c < 0
      · rw [if_pos (decide_eq_true h2)]
      · rw [if_neg (by simpa using h2)]; exact decide_eq_true h
  · obtain ⟨b, hb⟩ := loop c.toNat 0 s (by omega) (by omega) (by omega)
    refine ⟨b, gb (im (fun hh => ?_) hb)⟩
    have h2 : (if decide (c < 0) = true then true else decide (c > 63)) = true := hh
    rw [if_neg (by simp; omega)] at h2
    have := of_decide_eq_true h2
    omega
theorem one_ev' (c : Int) (hc : c ≤ 64) : IsI .u64 (D 35 [.sc (.int .i64 c)]) := by
  rw [f35_eq 0]
  have loop : ∀ (j : Nat) (i s : Int), (c - i).toNat = j → 0 ≤ i → IsI .u64 (f35.l0a 0 c s i) := by
    intro j
    induction j with
    | zero =>
      intro i s hj h0
      rw [f35.l0a_eq]
      exact ⟨_, im (fun hh => by have := of_decide_eq_true hh; omega) rfl⟩
    | succ j ih =>
      intro i s hj h0
      rw [f35.l0a_eq]
      obtain ⟨b, hb⟩ := ih (i + 1) (IntKind.u64.wrap (s * 2)) (by omega) (by omega)
      exact ⟨b, ip (decide_eq_true (by omega)) (by rw [next_small (by omega) (by omega)]; exact hb)⟩
  exact loop c.toNat 0 1 (by omega) (by omega)
theorem every_ev : IsI .u64 (D 33 []) := by
  rw [f33_eq 0]
  have loop : ∀ (j : Nat) (c s : Int), (64 - c).toNat = j → 0 ≤ c → IsI .u64 (f33.l0a 0 s c) := by
    intro j
    induction j with
    | zero =>
      intro i s hj h0
      rw [f33.l0a_eq]
      exact ⟨_, im (fun hh => by have := of_decide_eq_true hh; omega) rfl⟩
    | succ j ih =>
      intro i s hj h0
      rw [f33.l0a_eq]
      obtain ⟨b, hb⟩ := ih (i + 1) (IntKind.u64.wrap ((IntKind.u64.wrap (s * 2)) + 1)) (by omega) (by omega)
      exact ⟨b, ip (decide_eq_true (by omega)) (by rw [next_small (by omega) (by omega)]; exact hb)⟩
  exact loop 64 0 0 (by omega) (by omega)
theorem top_ev : ∃ n, D 29 [] = some (.agg [.sc (.int .i64 15), .sc (.int .u64 n)]) := by
  obtain ⟨n, hn⟩ := every_ev
  rw [f29_eq 0]
  exact ⟨n, sb hn (ip rfl rfl)⟩
theorem join_ev (a b : Int) : IsI .u64 (D 34 [.sc (.int .u64 a), .sc (.int .u64 b)]) := by
  rw [f34_eq 0]
  have loop : ∀ (j : Nat) (c s : Int), (64 - c).toNat = j → 0 ≤ c → IsI .u64 (f34.l0a 0 a b s c) := by
    intro j
    induction j with
    | zero =>
      intro c s hj h0
      rw [f34.l0a_eq]
      exact ⟨_, im (fun hh => by have := of_decide_eq_true hh; omega) rfl⟩
    | succ j ih =>
      intro c s hj h0
      rw [f34.l0a_eq]
      have hc : c < 64 := by omega
      obtain ⟨x, hx⟩ := bit_ev a c
      obtain ⟨y, hy⟩ := bit_ev b c
      obtain ⟨o, ho⟩ := one_ev' c (by omega)
      have go : ∀ s, IsI .u64 (f34.l0a 0 a b s (IntKind.i64.wrap (c + 1))) := fun s => by
        rw [next_small (by omega) (by omega)]
        exact ih (c + 1) s (by omega) (by omega)
      obtain ⟨r1, h1⟩ := go (IntKind.u64.wrap (s + o))
      obtain ⟨r2, h2⟩ := go s
      cases x with
      | true => exact ⟨r1, ip (decide_eq_true hc) (sb hx (ip rfl (sb (ip rfl rfl) (ip rfl (sb ho (ip rfl h1))))))⟩
      | false =>
        cases y with
        | true => exact ⟨r1, ip (decide_eq_true hc) (sb hx (ip rfl (sb (im (by show ¬ false = true; decide) (sb (sb (sb hy (ip rfl rfl)) rfl) rfl)) (ip rfl (sb ho (ip rfl h1))))))⟩
        | false => exact ⟨r2, ip (decide_eq_true hc) (sb hx (ip rfl (sb (im (by show ¬ false = true; decide) (sb (sb (sb hy (ip rfl rfl)) rfl) rfl)) (im (by show ¬ false = true; decide) h2))))⟩
  exact loop 64 0 0 (by omega) (by omega)
/-- Digits of a small number. -/
theorem digits_ev (n : Int) (h0 : 0 ≤ n) (h1 : n ≤ 63) : IsS 8 (D 30 [.sc (.int .i64 n)]) := by
  rw [f30_eq 0]
  have td : ∀ m : Int, 0 ≤ m → m ≤ 63 → IntKind.i64.wrap (m.tdiv 10) = m / 10 := fun m a b => by rw [Int.tdiv_eq_ediv_of_nonneg a]; exact w64 (by omega) (by omega)
  have loop : ∀ (j : Nat) (m : Int) (s : ByteArray), m.toNat ≤ j → 0 ≤ m → m ≤ 63 → s.size + (if m = 0 then 0 else if m < 10 then 1 else 2) ≤ 8 → IsS 8 (f30.l0a 0 m s) := by
    intro j
    induction j with
    | zero =>
      intro m s hj ha hb hs
      rw [f30.l0a_eq]
      refine ⟨s, im (fun hh => by have := of_decide_eq_true hh; omega) rfl, by omega⟩
    | succ j ih =>
      intro m s hj ha hb hs
      rw [f30.l0a_eq]
      by_cases hm : m > 0
      · have hsz : ∀ x : PV, (bytesOf [x]).size = 1 := fun x => rfl
        have hs1 : s.size ≤ 8 := by omega
        have h2 := ih (m / 10) (bytesOf ([.sc (.int .u8 (IntKind.u8.wrap (IntKind.i64.wrap ((48 : Int) + (m.tmod 10)))))] : List PV) ++ s) (by omega) (by omega) (by omega) (by
          rw [ByteArray.size_append, hsz]
          split at hs
          · omega
          · split at hs
            · rw [if_pos (by omega)]; omega
            · split
              · omega
              · split <;> omega)
        obtain ⟨r, hr, hl⟩ := h2
        refine ⟨r, ip (decide_eq_true hm) (ip rfl (ip (by rw [hsz]; omega) ?_)), hl⟩
        rw [td m (by omega) hb]
        exact hr
      · exact ⟨s, im (fun hh => hm (of_decide_eq_true hh)) rfl, by omega⟩
  have := loop 63 (n / 10) (bytesOf ([.sc (.int .u8 (IntKind.u8.wrap (IntKind.i64.wrap ((48 : Int) + (n.tmod 10)))))] : List PV)) (by omega) (by omega) (by omega) (by
    have e : (bytesOf ([.sc (.int .u8 (IntKind.u8.wrap (IntKind.i64.wrap ((48 : Int) + (n.tmod 10)))))] : List PV)).size = 1 := rfl
    rw [e]
    split <;> (try split) <;> omega)
  obtain ⟨r, hr, hl⟩ := this
  refine ⟨r, ip rfl ?_, hl⟩
  rw [td n h0 h1]
  exact hr
/-- Small numbers. -/
def Small (l : List PV) : Prop := ∀ x, x ∈ l → ∃ c : Int, x = .sc (.int .i64 c) ∧ 0 ≤ c ∧ c ≤ 63
theorem bits_ev (s : Int) : ∃ l, D 38 [.sc (.int .u64 s)] = some (frozen 1 l) ∧ Small l ∧ l.length ≤ 64 := by
  rw [f38_eq 0]
  have b_ : ∀ (j : Nat) (c : Int) (out : List PV), (64 - c).toNat = j → 0 ≤ c → Small out → (out.length : Int) ≤ c → out.length ≤ 64 → ∃ l, f38.l0b 0 s c out = some (frozen 1 l) ∧ Small l ∧ l.length ≤ 64 := by
    intro j
    induction j with
    | zero =>
      intro c out hj h0 hs hl hl2
      rw [f38.l0b_eq]
      exact ⟨out, im (fun hh => by have := of_decide_eq_true hh; omega) rfl, hs, hl2⟩
    | succ j ih =>
      intro c out hj h0 hs hl hl2
      rw [f38.l0b_eq]
      obtain ⟨x, hx⟩ := bit_ev s c
      have hw : IntKind.i64.wrap (c + 1) = c + 1 := next_small (by omega) (by omega)
      cases x with
      | true =>
        obtain ⟨l, h1, h2⟩ := ih (c + 1) (out ++ [.sc (.int .i64 c)]) (by omega) (by omega) (fun x hx => by
          rcases List.mem_append.1 hx with hx | hx
          · exact hs x hx
          · rw [List.mem_singleton.1 hx]; exact ⟨c, rfl, h0, by omega⟩) (by simp; omega) (by simp; omega)
        refine ⟨l, ip (decide_eq_true (by omega)) (sb hx (ip rfl (ip rfl (ip (by simp; omega) ?_)))), h2⟩
        rw [hw]
        exact h1
      | false =>
        obtain ⟨l, h1, h2⟩ := ih (c + 1) out (by omega) (by omega) hs (by omega) hl2
        refine ⟨l, ip (decide_eq_true (by omega)) (sb hx (ip rfl (im (by show ¬ false = true; decide) ?_))), h2⟩
        rw [hw]
        exact h1
  have a_ : ∀ (j : Nat) (c : Int), (64 - c).toNat = j → 0 ≤ c → ∃ l, f38.l0a 0 s c = some (frozen 1 l) ∧ Small l ∧ l.length ≤ 64 := by
    intro j
    induction j with
    | zero =>
      intro c hj h0
      rw [f38.l0a_eq]
      exact ⟨[], im (fun hh => by have := of_decide_eq_true hh; omega) rfl, fun x hx => (by cases hx), by simp⟩
    | succ j ih =>
      intro c hj h0
      rw [f38.l0a_eq]
      obtain ⟨x, hx⟩ := bit_ev s c
      have hw : IntKind.i64.wrap (c + 1) = c + 1 := next_small (by omega) (by omega)
      cases x with
      | true =>
        obtain ⟨l, h1, h2⟩ := b_ j (c + 1) [.sc (.int .i64 c)] (by omega) (by omega) (fun x hx => by
          rw [List.mem_singleton.1 hx]; exact ⟨c, rfl, h0, by omega⟩) (by simp; omega) (by simp)
        refine ⟨l, ip (decide_eq_true (by omega)) (sb hx (ip rfl (ip rfl (ip (by simp) ?_)))), h2⟩
        rw [hw]
        exact h1
      | false =>
        obtain ⟨l, h1, h2⟩ := ih (c + 1) (by omega) (by omega)
        refine ⟨l, ip (decide_eq_true (by omega)) (sb hx (ip rfl (im (by show ¬ false = true; decide) ?_))), h2⟩
        rw [hw]
        exact h1
  exact a_ 64 0 (by omega) (by omega)
theorem catText_ev (s : Int) : IsS 1000 (D 36 [.sc (.int .u64 s)]) := by
  obtain ⟨l, hl, hs, hn⟩ := bits_ev s
  rw [f36_eq 0]
  have loop : ∀ (j i : Nat) (out : ByteArray), l.length - i = j → i ≤ l.length → out.size ≤ 9 * i → IsS 1000 (f36.l0a 0 out l.length (fun i => l.getD i .top) (i : Int)) := by
    intro j
    induction j with
    | zero =>
      intro i out hj hi ho
      rw [f36.l0a_eq]
      exact ⟨out, im (fun hh => by have := of_decide_eq_true hh; omega) rfl, by omega⟩
    | succ j ih =>
      intro i out hj hi ho
      have hi' : i < l.length := by omega
      obtain ⟨c, hc, c0, c1⟩ := hs l[i] (List.getElem_mem hi')
      have e : l.getD ((i : Int).toNat) .top = .sc (.int .i64 c) := by rw [Int.toNat_natCast]; simp [hi', hc]
      obtain ⟨d, hd, hdl⟩ := digits_ev c c0 c1
      have jn : ∀ out : ByteArray, out.size ≤ 9 * i + 1 → IsS 1000 (f36.j1a 0 out l.length (fun i => l.getD i .top) (i : Int)) := fun out ho => by
        rw [f36.j1a_eq]
        obtain ⟨r, hr, hrl⟩ := ih (i + 1) (out ++ d) (by omega) (by omega) (by rw [ByteArray.size_append]; omega)
        refine ⟨r, ip (by omega) (ip (by omega) (ip (by rw [e]; rfl) ?_)), hrl⟩
        rw [e]
        refine sb hd (ip rfl (ip (by show out.size + d.size ≤ _; omega) ?_))
        rw [next_i (by omega)]
        exact hr
      rw [f36.l0a_eq]
      by_cases h0 : (i : Int) > 0
      · obtain ⟨r, hr, hrl⟩ := jn (out ++ ⟨#[44]⟩) (by rw [ByteArray.size_append]; show out.size + 1 ≤ _; omega)
        exact ⟨r, ip (decide_eq_true (by omega)) (ip (decide_eq_true h0) (ip (by omega) hr)), hrl⟩
      · obtain ⟨r, hr, hrl⟩ := jn out (by omega)
        exact ⟨r, ip (decide_eq_true (by omega)) (im (fun hh => h0 (of_decide_eq_true hh)) hr), hrl⟩
  obtain ⟨r, hr, hrl⟩ := loop l.length 0 ⟨#[]⟩ (by omega) (Nat.zero_le _) (Nat.le_refl _)
  exact ⟨r, sb hl (ip (frozen_sh _ _) hr), hrl⟩
end Go.Den.EA
