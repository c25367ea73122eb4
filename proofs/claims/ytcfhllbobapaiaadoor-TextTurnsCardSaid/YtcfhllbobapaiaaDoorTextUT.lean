/- Blanks that are needless; the law of turned texts. -/
import Derived.Test.YtcfhllbobapaiaaDoorTextTT
set_option linter.unusedVariables false
set_option linter.unusedSimpArgs false
set_option maxRecDepth 100000
namespace Go.Den.ET
open Go Go.Proofs
/-- A text, cut at its blanks. -/
def spl : List UInt8 → List (List UInt8)
  | [] => [[]]
  | b :: l => if b = 32 then [] :: spl l else match spl l with
    | h :: t => (b :: h) :: t
    | [] => [[b]]
theorem spl_ne : ∀ l, ∃ h t, spl l = h :: t
  | [] => ⟨_, _, rfl⟩
  | b :: l => by
    unfold spl
    split
    · exact ⟨_, _, rfl⟩
    · obtain ⟨h, t, e⟩ := spl_ne l
      rw [e]; exact ⟨_, _, rfl⟩
theorem spl_cons {b : UInt8} (hb : b ≠ 32) {l h : List UInt8} {t : List (List UInt8)} (e : spl l = h :: t) : spl (b :: l) = (b :: h) :: t := by
  unfold spl; rw [if_neg hb, e]
theorem spl_blank (l : List UInt8) : spl (32 :: l) = [] :: spl l := by
  conv => lhs; unfold spl
  rfl
theorem splitK_eq : ∀ l : List UInt8, Lib.splitK [32] 0 (Lib.count l [32]) l = spl l
  | [] => by
    rw [Lib.count_miss (by rfl)]; rfl
  | b :: l => by
    by_cases hb : b = 32
    · subst hb
      have hix : Lib.index (32 :: l) [32] = ((0 : Nat) : Int) := by rw [Lib.index]; simp [List.isPrefixOf]
      rw [Lib.count_cons_eq, Nat.add_comm, Lib.splitK, if_neg (by rw [hix]; decide), hix, spl_blank, ← splitK_eq l]
      rfl
    · have hp : ([32] : List UInt8).isPrefixOf (b :: l) = false := by simp [List.isPrefixOf, Ne.symm hb]
      have hix : Lib.index (b :: l) [32] = if Lib.index l [32] == -1 then -1 else Lib.index l [32] + 1 := by rw [Lib.index, hp]; simp
      have ih := splitK_eq l
      rw [Lib.count_cons_ne b 32 l hb]
      by_cases hm : Lib.index l [32] = -1
      · rw [Lib.count_miss hm] at ih ⊢
        rw [spl_cons hb (h := l) (t := []) ih.symm]; rfl
      · have hge := Lib.index_ge l [32]
        obtain ⟨j, hj⟩ : ∃ j : Nat, Lib.index l [32] = j := ⟨(Lib.index l [32]).toNat, by omega⟩
        have hix' : Lib.index (b :: l) [32] = ((j + 1 : Nat) : Int) := by rw [hix, if_neg (by rw [hj]; simp <;> omega), hj]; omega
        rw [Lib.count_hit (by simp) hj, Nat.add_comm] at ih ⊢
        rw [Lib.splitK, if_neg (by rw [hj]; simp <;> omega), hj] at ih
        rw [Lib.splitK, if_neg (by rw [hix']; simp <;> omega), hix']
        rw [spl_cons hb ih.symm]
        rfl
theorem splitB_spl (l : List UInt8) : Lib.splitB (B [32]) 0 (Lib.countB (B l) (B [32])) (B l) = (spl l).map B := by
  have h := Lib.splitB_data (B [32]) 0 (Lib.countB (B l) (B [32])) (B l)
  have e : Lib.splitK (B [32]).data.toList 0 (Lib.countB (B l) (B [32])) (B l).data.toList = spl l := splitK_eq l
  rw [e] at h
  rw [← h, List.map_map]
  conv => lhs; rw [← List.map_id (Lib.splitB (B [32]) 0 (Lib.countB (B l) (B [32])) (B l))]
  apply List.map_congr_left
  intro s _
  rcases s with ⟨⟨s⟩⟩
  rfl
/-- Words, one blank between. -/
def wrd : List UInt8 → List (List UInt8) → List UInt8
  | acc, [] => acc
  | acc, w :: ws => if w = [] then wrd acc ws else wrd (if acc = [] then w else acc ++ 32 :: w) ws
def trm (l : List UInt8) : List UInt8 := wrd [] (spl l)
def rtr : Bool → List UInt8 → List UInt8 → List UInt8
  | _, out, [] => out
  | p, out, b :: l => if b = 32 then (if out ≠ [] ∧ l.all (· == 32) = false ∧ p = false then rtr true (out ++ [32]) l else rtr true out l) else rtr false (out ++ [b]) l
theorem wrd_blank : ∀ (l out : List UInt8), l.all (· == 32) = true → wrd out (spl l) = out
  | [], out, _ => rfl
  | b :: l, out, h => by
    rw [List.all_cons, Bool.and_eq_true] at h
    have hb : b = 32 := by simpa using h.1
    subst hb
    rw [spl_blank, wrd, if_pos rfl]
    exact wrd_blank l out h.2
theorem rtr_blank : ∀ (l out : List UInt8) (p : Bool), l.all (· == 32) = true → rtr p out l = out
  | [], out, _, _ => rfl
  | b :: l, out, p, h => by
    rw [List.all_cons, Bool.and_eq_true] at h
    have hb : b = 32 := by simpa using h.1
    subst hb
    rw [rtr, if_pos rfl, if_neg (by rw [h.2]; simp)]
    exact rtr_blank l out true h.2
theorem app_ne (out : List UInt8) (b : UInt8) (l : List UInt8) : out ++ b :: l ≠ [] := by simp
theorem rtr_eq : ∀ l : List UInt8, (∀ out h t, out ≠ [] → spl l = h :: t → rtr false out l = wrd (out ++ h) t) ∧ (∀ out, out ≠ [] → l.all (· == 32) = false → rtr true (out ++ [32]) l = wrd out (spl l)) ∧ ∀ p, rtr p [] l = wrd [] (spl l)
  | [] => by
    refine ⟨fun out h t ho e => ?_, fun out ho h => by simp at h, fun p => rfl⟩
    injection e with e1 e2
    subst e1; subst e2
    rw [List.append_nil]; rfl
  | b :: l => by
    obtain ⟨iA, iB, iC⟩ := rtr_eq l
    obtain ⟨h0, t0, e0⟩ := spl_ne l
    by_cases hb : b = 32
    · subst hb
      refine ⟨fun out h t ho e => ?_, fun out ho ha => ?_, fun p => ?_⟩
      · rw [spl_blank] at e
        injection e with e1 e2
        subst e1; subst e2
        rw [List.append_nil, rtr, if_pos rfl]
        cases ha : l.all (· == 32)
        · rw [if_pos ⟨ho, rfl, rfl⟩]
          exact iB out ho ha
        · rw [if_neg (by simp), rtr_blank l out true ha, wrd_blank l out ha]
      · have ha2 : l.all (· == 32) = false := by simpa using ha
        rw [spl_blank, wrd, if_pos rfl, rtr, if_pos rfl, if_neg (by simp)]
        exact iB out ho ha2
      · rw [spl_blank, wrd, if_pos rfl, rtr, if_pos rfl, if_neg (by simp)]
        exact iC true
    · have es := spl_cons hb e0
      refine ⟨fun out h t ho e => ?_, fun out ho ha => ?_, fun p => ?_⟩
      · rw [es] at e
        injection e with e1 e2
        subst e1; subst e2
        rw [rtr, if_neg hb, iA (out ++ [b]) h0 t0 (by simp) e0, List.append_assoc]
        rfl
      · rw [es, rtr, if_neg hb, iA (out ++ [32] ++ [b]) h0 t0 (by simp) e0, wrd, if_neg (by simp), if_neg ho]
        simp
      · rw [es, rtr, if_neg hb, iA ([] ++ [b]) h0 t0 (by simp) e0, wrd, if_neg (by simp), if_pos rfl]
        rfl
theorem spl_no : ∀ (l : List UInt8) (w : List UInt8), w ∈ spl l → (32 : UInt8) ∉ w
  | [], w, h => by
    have : w = [] := by simpa [spl] using h
    subst this; simp
  | b :: l, w, h => by
    by_cases hb : b = 32
    · subst hb
      rw [spl_blank] at h
      rcases List.mem_cons.1 h with rfl | h
      · simp
      · exact spl_no l w h
    · obtain ⟨h0, t0, e0⟩ := spl_ne l
      rw [spl_cons hb e0] at h
      have ih := spl_no l
      rw [e0] at ih
      rcases List.mem_cons.1 h with rfl | h
      · intro hm
        rcases List.mem_cons.1 hm with hm | hm
        · exact hb hm.symm
        · exact ih h0 List.mem_cons_self hm
      · exact ih w (List.mem_cons_of_mem _ h)
/-- Words, behind one another. -/
def jn : List (List UInt8) → List UInt8
  | [] => []
  | w :: ws => 32 :: w ++ jn ws
theorem spl_word : ∀ (w r : List UInt8), (32 : UInt8) ∉ w → spl (w ++ 32 :: r) = w :: spl r
  | [], r, _ => spl_blank r
  | b :: w, r, h => by
    have hb : b ≠ 32 := fun e => h (by rw [e]; exact List.mem_cons_self)
    rw [List.cons_append]
    exact spl_cons hb (spl_word w r fun hm => h (List.mem_cons_of_mem _ hm))
theorem spl_last : ∀ w : List UInt8, (32 : UInt8) ∉ w → spl w = [w]
  | [], _ => rfl
  | b :: w, h => by
    have hb : b ≠ 32 := fun e => h (by rw [e]; exact List.mem_cons_self)
    exact spl_cons hb (spl_last w fun hm => h (List.mem_cons_of_mem _ hm))
theorem spl_jn : ∀ (ws : List (List UInt8)) (w : List UInt8), (32 : UInt8) ∉ w → (∀ x, x ∈ ws → (32 : UInt8) ∉ x) → spl (w ++ jn ws) = w :: ws
  | [], w, h, _ => by rw [jn, List.append_nil]; exact spl_last w h
  | x :: ws, w, h, hs => by
    rw [jn, List.cons_append, spl_word w _ h, spl_jn ws x (hs x List.mem_cons_self) fun y hy => hs y (List.mem_cons_of_mem _ hy)]
theorem wrd_jn : ∀ (ws : List (List UInt8)) (acc : List UInt8), acc ≠ [] → wrd acc ws = acc ++ jn (ws.filter fun w => w != [])
  | [], acc, _ => by rw [List.filter_nil, jn, List.append_nil]; rfl
  | w :: ws, acc, h => by
    rw [wrd]
    by_cases hw : w = []
    · subst hw
      rw [if_pos rfl, wrd_jn ws acc h]; rfl
    · rw [if_neg hw, if_neg h, wrd_jn ws _ (by simp), List.filter_cons_of_pos (by simpa using hw), jn, List.append_assoc]
theorem wrd_nil : ∀ ws : List (List UInt8), wrd [] ws = [] ∧ (ws.filter fun w => w != []) = [] ∨ ∃ w l, (ws.filter fun w => w != []) = w :: l ∧ w ≠ [] ∧ wrd [] ws = w ++ jn l
  | [] => .inl ⟨rfl, rfl⟩
  | w :: ws => by
    rw [wrd]
    by_cases hw : w = []
    · subst hw
      rw [if_pos rfl]
      exact wrd_nil ws
    · rw [if_neg hw, if_pos rfl]
      refine .inr ⟨w, _, List.filter_cons_of_pos (by simpa using hw), hw, wrd_jn ws w hw⟩
theorem trm_trm (l : List UInt8) : trm (trm l) = trm l := by
  unfold trm
  rcases wrd_nil (spl l) with ⟨h1, h2⟩ | ⟨w, ws, h1, hw, h2⟩
  · rw [h1]; rfl
  · have hm : ∀ x, x ∈ w :: ws → (32 : UInt8) ∉ x ∧ x ≠ [] := by
      intro x hx
      rw [← h1] at hx
      have := List.mem_filter.1 hx
      exact ⟨spl_no l x this.1, by simpa using this.2⟩
    rw [h2, spl_jn ws w (hm w List.mem_cons_self).1 (fun x hx => (hm x (List.mem_cons_of_mem _ hx)).1), wrd, if_neg hw, if_pos rfl, wrd_jn ws w hw]
    congr 2
    rw [List.filter_eq_self]
    intro x hx
    simpa using (hm x (List.mem_cons_of_mem _ hx)).2
theorem jn_len : ∀ ws : List (List UInt8), (jn ws).length = ws.flatten.length + ws.length
  | [] => rfl
  | w :: ws => by
    rw [jn, List.length_append, List.length_cons, jn_len ws, List.flatten_cons, List.length_append, List.length_cons]; omega
theorem spl_len : ∀ l : List UInt8, (spl l).flatten.length + (spl l).length = l.length + 1
  | [] => rfl
  | b :: l => by
    have ih := spl_len l
    by_cases hb : b = 32
    · subst hb
      rw [spl_blank, List.flatten_cons, List.nil_append, List.length_cons, List.length_cons]; omega
    · obtain ⟨h0, t0, e0⟩ := spl_ne l
      rw [spl_cons hb e0]
      rw [e0] at ih
      simp only [List.flatten_cons, List.length_append, List.length_cons] at ih ⊢
      omega
theorem bwb_ev (s : List UInt8) (b : UInt8) (h : s.length ≤ 1000000) : D 116 [.hp (bld (strB (B s))), .ptr 0 0, .sc (.int .u8 (b.toNat : Int))] = some (.tup [.hp (bld (strB (B (s ++ [b])))), .top]) := by
  refine (f116h_eq 0 (b.toNat : Int) (strB (B s))).trans (hb (bcheck_ev (strB (B s))) rfl rfl ?_)
  have e := sb_len s
  refine ip (by show ((strB (B s)).length + 1) * 1 ≤ _ ∧ (strB (B s)).length + 1 ≤ _; omega) ?_
  show some (PV.tup [.hp (bld (strB (B s) ++ [.sc (.int .u8 (b.toNat : Int))])), .top]) = _
  rw [sb_snoc]
theorem bws_ev (s w : List UInt8) (h : s.length + w.length ≤ 1000000) : D 117 [.hp (bld (strB (B s))), .ptr 0 0, .sc (.string (B w))] = some (.tup [.hp (bld (strB (B (s ++ w)))), .tup [.sc (.int .i64 (w.length : Int)), .top]]) := by
  have := bwrite_ev (strB (B s)) (B w) (by rw [sb_len, B_size]; exact h)
  rw [strB_append, B_append, B_size] at this
  exact this
def wp (ws : List (List UInt8)) : List PV := ws.map fun w => .sc (.string (B w))
theorem wp_len (ws : List (List UInt8)) : (wp ws).length = ws.length := by simp [wp]
theorem wp_get {ws : List (List UInt8)} {i : Nat} (h : i < ws.length) : (wp ws).getD i .top = .sc (.string (B ws[i])) := by simp [wp, h]
theorem wp_sh {ws : List (List UInt8)} {i : Nat} (h : i < ws.length) : hasSh .str ((wp ws).getD i .top) = true := by rw [wp_get h]; rfl
theorem emB (l : List UInt8) : ((B l).toList == (⟨#[]⟩ : ByteArray).toList) = (l == []) := by rw [B_toList, show (⟨#[]⟩ : ByteArray).toList = [] from B_toList []]
theorem trim_b (ws : List (List UInt8)) (hl : ws.length ≤ 1000) (N : Nat) (hN : N ≤ 100000) : ∀ (m i : Nat) (s : List UInt8), i + m = ws.length → s ≠ [] → s.length + (ws.drop i).flatten.length + (ws.drop i).length ≤ N →
    f57.l0b 0 (wp ws).length (fun i => (wp ws).getD i .top) ((wp ws).length : Int) (i : Int) (strB (B s)) = some (.sc (.string (B (wrd s (ws.drop i))))) := by
  intro m
  induction m with
  | zero =>
    intro i s he hs hb2
    rw [f57.l0b_eq, List.drop_eq_nil_of_le (by omega)]
    refine lpe (by rw [wp_len]; omega) ?_
    exact hb (bstring_ev (B s)) rfl rfl rfl
  | succ m ih =>
    intro i s he hs hb2
    have hi : i < ws.length := by omega
    rw [drop_at hi] at hb2 ⊢
    simp only [List.flatten_cons, List.length_append, List.length_cons] at hb2
    rw [f57.l0b_eq, wrd]
    refine lpc (by rw [wp_len]; omega) (by rw [wp_len]; omega) (wp_sh hi) ?_
    simp only [Int.toNat_natCast, wp_get hi, ts]
    by_cases hw : ws[i] = []
    · rw [if_pos hw]
      refine ip (by rw [emB, hw]; rfl) ?_
      rw [nx hi (by omega)]
      exact ih (i + 1) s (by omega) hs (by omega)
    · rw [if_neg hw, if_neg hs]
      refine im (by rw [emB]; simpa using hw) (hb (blen_ev _) rfl rfl ?_)
      have hp : 0 < s.length := List.length_pos_iff.2 hs
      refine ip (by show decide (((strB (B s)).length : Int) > 0) = true; rw [decide_eq_true_eq, sb_len]; omega) ?_
      refine hb (bwb_ev s 32 (by omega)) rfl rfl ?_
      show f57.j1a 0 (B ws[i]) _ _ _ _ (strB (B (s ++ [32]))) = _
      rw [f57.j1a_eq]
      refine hb (bws_ev (s ++ [32]) ws[i] (by simp; omega)) rfl rfl ?_
      rw [nx hi (by omega)]
      have := ih (i + 1) (s ++ 32 :: ws[i]) (by omega) (by simp) (by simp only [List.length_append, List.length_cons]; omega)
      rw [show s ++ 32 :: ws[i] = s ++ [32] ++ ws[i] by simp] at this ⊢
      exact this
theorem trim_a (ws : List (List UInt8)) (hl : ws.length ≤ 1000) (hN : ws.flatten.length + ws.length ≤ 10000) : ∀ (m i : Nat), i + m = ws.length → (ws.drop i).flatten.length + (ws.drop i).length ≤ 10000 →
    f57.l0a 0 (wp ws).length (fun i => (wp ws).getD i .top) ((wp ws).length : Int) (i : Int) = some (.sc (.string (B (wrd [] (ws.drop i))))) := by
  intro m
  induction m with
  | zero =>
    intro i he hb2
    rw [f57.l0a_eq, List.drop_eq_nil_of_le (by omega)]
    refine lpe (by rw [wp_len]; omega) ?_
    exact hb (bstring_ev (B [])) rfl rfl rfl
  | succ m ih =>
    intro i he hb2
    have hi : i < ws.length := by omega
    rw [drop_at hi] at hb2 ⊢
    simp only [List.flatten_cons, List.length_append, List.length_cons] at hb2
    rw [f57.l0a_eq, wrd]
    refine lpc (by rw [wp_len]; omega) (by rw [wp_len]; omega) (wp_sh hi) ?_
    simp only [Int.toNat_natCast, wp_get hi, ts]
    by_cases hw : ws[i] = []
    · rw [if_pos hw]
      refine ip (by rw [emB, hw]; rfl) ?_
      rw [nx hi (by omega)]
      exact ih (i + 1) (by omega) (by omega)
    · rw [if_neg hw, if_pos trivial]
      refine im (by rw [emB]; simpa using hw) (hb (blen_ev _) rfl rfl ?_)
      refine im (by decide) ?_
      show f57.j1a 0 (B ws[i]) _ _ _ _ (strB (B [])) = _
      rw [f57.j1a_eq]
      refine hb (bws_ev [] ws[i] (by simp; omega)) rfl rfl ?_
      rw [nx hi (by omega)]
      exact trim_b ws hl 100000 (by omega) m (i + 1) ws[i] (by omega) hw (by omega)
theorem trim_ev (l : List UInt8) (hl : l.length ≤ 500) : D 57 [.sc (.string (B l))] = some (.sc (.string (B (trm l)))) := by
  have e : D 114 [.sc (.string (B l)), .sc (.string (⟨#[32]⟩ : ByteArray))] = xSplit [.sc (.string (B l)), .sc (.string (⟨#[32]⟩ : ByteArray))] := (denI_eq 0 _ _).trans (by kernel_rfl)
  have e2 : xSplit [.sc (.string (B l)), .sc (.string (⟨#[32]⟩ : ByteArray))] = some (frozen 1 (wp (spl l))) := by
    refine (if_pos ⟨by rw [B_size]; omega, by decide⟩).trans ?_
    show some (strs (Lib.splitB (B [32]) 0 (Lib.countB (B l) (B [32])) (B l))) = _
    rw [splitB_spl]
    unfold strs wp
    rw [List.map_map]
    rfl
  rw [f57_eq 0]
  refine cb (e.trans e2) rfl ?_
  have h := spl_len l
  have := trim_a (spl l) (by omega) (by omega) (spl l).length 0 (by omega) (by rw [List.drop_zero]; omega)
  rw [List.drop_zero] at this
  exact this
theorem rtrim_in (l : List UInt8) (hl : l.length ≤ 1000) (i : Nat) (out : List UInt8) (hi : i < l.length) : ∀ (m k : Nat) (last : Bool), k + m = l.length →
    f59.l1a 0 (B l) (i : Int) last (k : Int) (strB (B out)) = f59.l1a 0 (B l) (i : Int) (last && (l.drop k).all (· == 32)) (l.length : Int) (strB (B out)) := by
  intro m
  induction m with
  | zero =>
    intro k last he
    obtain rfl : k = l.length := by omega
    rw [List.drop_eq_nil_of_le (Nat.le_refl _), List.all_nil, Bool.and_true]
  | succ m ih =>
    intro k last he
    have hk : k < l.length := by omega
    rw [f59.l1a_eq]
    refine ip (by rw [decide_eq_true_eq, B_size]; omega) ?_
    have c1 : (0 : Int) ≤ (k : Int) := by omega
    have c2 : (k : Int) < ((B l).size : Int) := by rw [B_size]; omega
    rw [if_pos c1, if_pos c2]
    simp only [bs, tb, bA]
    rw [nx hk (by omega), ih (k + 1) _ (by omega), drop_at hk, List.all_cons, B_bt hk]
    have e : ((l[k].toNat : Int) == 32) = (l[k] == 32) := by
      rw [Bool.eq_iff_iff, beq_iff_eq, beq_iff_eq]
      constructor
      · intro h
        have : l[k].toNat = (32 : UInt8).toNat := by have : (32 : UInt8).toNat = 32 := rfl; omega
        exact UInt8.toNat_inj.1 this
      · intro h; rw [h]; rfl
    rw [e, Bool.and_assoc]
def prv (l : List UInt8) (i : Nat) : Bool := match i with
  | 0 => false
  | i + 1 => match l[i]? with
    | some b => b == 32
    | none => false
theorem bt32 {l : List UInt8} {i : Nat} (h : i < l.length) : ((bt (B l) (i : Int)) != 32) = (l[i] != 32) := by
  rw [B_bt h, Bool.eq_iff_iff, bne_iff_ne, bne_iff_ne]
  constructor
  · intro h2 h3; apply h2; rw [h3]; rfl
  · intro h2 h3
    apply h2
    have : l[i].toNat = (32 : UInt8).toNat := by have : (32 : UInt8).toNat = 32 := rfl; omega
    exact UInt8.toNat_inj.1 this
theorem rtrim_l (l : List UInt8) (hl : l.length ≤ 1000) : ∀ (m i : Nat) (out : List UInt8), i + m = l.length → out.length ≤ i →
    f59.l0a 0 (B l) (i : Int) (strB (B out)) = some (.sc (.string (B (rtr (prv l i) out (l.drop i))))) := by
  intro m
  induction m with
  | zero =>
    intro i out he ho
    rw [f59.l0a_eq, List.drop_eq_nil_of_le (by omega)]
    refine im (by rw [decide_eq_true_eq, B_size]; omega) (ip (sb_sh _) ?_)
    rw [bytesOf_strB]; rfl
  | succ m ih =>
    intro i out he ho
    have hi : i < l.length := by omega
    have c1 : (0 : Int) ≤ (i : Int) := by omega
    have c2 : (i : Int) < ((B l).size : Int) := by rw [B_size]; omega
    rw [f59.l0a_eq]
    refine ip (by rw [decide_eq_true_eq, B_size]; omega) (ip c1 (ip c2 ?_))
    have hnext : prv l (i + 1) = (l[i] == 32) := by simp only [prv, List.getElem?_eq_getElem hi]
    rw [drop_at hi, rtr]
    by_cases hb : l[i] = 32
    · rw [if_pos hb]
      refine im (by rw [bt32 hi, hb]; decide) ?_
      rw [rtrim_in l hl i out hi (m + 1) i true (by omega), Bool.true_and, drop_at hi, List.all_cons, hb, show ((32 : UInt8) == 32) = true from rfl, Bool.true_and, f59.l1a_eq]
      refine im (by rw [decide_eq_true_eq, B_size]; omega) ?_
      have hprev : ∀ G : PV → Option PV, Option.bind (α := PV) (if (decide (((strB (B out)).length : Int) > 0) && !(l.drop (i + 1)).all (· == 32)) = true then
          Option.bind (α := PV) (Option.bind (α := PV) (Option.bind (α := PV) (if 0 ≤ IntKind.i64.wrap ((i : Int) - 1) then if IntKind.i64.wrap ((i : Int) - 1) < ((B l).size : Int) then some (.sc (.bool ((bt (B l) (IntKind.i64.wrap ((i : Int) - 1))) != 32))) else none else none) fun r5 => some (.sc (.bool (r5.toBool)))) fun r6 => some (.sc (.bool (r6.toBool)))) fun r7 => some (.sc (.bool (r7.toBool))) else some (.sc (.bool false))) G = G (.sc (.bool (decide (out ≠ [] ∧ (l.drop (i + 1)).all (· == 32) = false ∧ prv l i = false)))) := by
        intro G
        by_cases ho2 : out = []
        · subst ho2
          rw [if_neg (by simp [sb]), decide_eq_false (by simp)]; rfl
        · have hp : 0 < out.length := List.length_pos_iff.2 ho2
          cases ha : (l.drop (i + 1)).all (· == 32)
          · rw [if_pos (by rw [sb_len, decide_eq_true (by omega)]; rfl)]
            obtain ⟨j, rfl⟩ : ∃ j, i = j + 1 := ⟨i - 1, by omega⟩
            have hj : j < l.length := by omega
            have ew : IntKind.i64.wrap (((j + 1 : Nat) : Int) - 1) = (j : Int) := by rw [w64 (by omega) (by omega)]; omega
            rw [ew, if_pos (show (0 : Int) ≤ (j : Int) by omega), if_pos (show (j : Int) < ((B l).size : Int) by rw [B_size]; omega), bt32 hj]
            simp only [bs, tb]
            congr 3
            simp only [prv, List.getElem?_eq_getElem hj]
            cases h5 : (l[j] == 32)
            · simp [bne, h5, ho2]
            · simp [bne, h5]
          · rw [if_neg (by simp), decide_eq_false (by simp)]; rfl
      rw [bA]
      refine (hprev _).trans ?_
      rw [nx hi (by omega)]
      by_cases hc : out ≠ [] ∧ (l.drop (i + 1)).all (· == 32) = false ∧ prv l i = false
      · rw [if_pos hc]
        refine ip (by rw [tb]; exact decide_eq_true hc) (ip (by rw [sb_len]; simp; omega) ?_)
        have := ih (i + 1) (out ++ [32]) (by omega) (by simp; omega)
        rw [hnext, hb] at this
        rw [← sb_snoc] at this
        exact this
      · rw [if_neg hc]
        refine im (by rw [tb, decide_eq_true_eq]; exact hc) ?_
        have := ih (i + 1) out (by omega) (by omega)
        rw [hnext, hb] at this
        exact this
    · rw [if_neg hb]
      refine ip (by rw [bt32 hi]; simpa using hb) (ip c1 (ip c2 (ip (by rw [sb_len]; simp; omega) ?_)))
      rw [nx hi (by omega), B_bt hi, sb_snoc]
      have := ih (i + 1) (out ++ [l[i]]) (by omega) (by simp; omega)
      rw [hnext, show (l[i] == 32) = false by simpa using hb] at this
      exact this
theorem rtrim_ev (l : List UInt8) (hl : l.length ≤ 1000) : D 59 [.sc (.string (B l))] = some (.sc (.string (B (trm l)))) := by
  rw [f59_eq 0]
  have := rtrim_l l hl l.length 0 [] (by omega) (by simp)
  rw [List.drop_zero, (rtr_eq l).2.2] at this
  exact this
theorem upper_ev (l : List UInt8) (hl : l.length ≤ 1000) : D 54 [.sc (.string (B l))] = some (.sc (.string (B (trn 0 false l)))) := (f54_eq 0 _).trans (cb (turn_ev l 0 hl) rfl rfl)
theorem lower_ev (l : List UInt8) (hl : l.length ≤ 1000) : D 55 [.sc (.string (B l))] = some (.sc (.string (B (trn 1 false l)))) := (f55_eq 0 _).trans (cb (turn_ev l 1 hl) rfl rfl)
theorem proper_ev (l : List UInt8) (hl : l.length ≤ 1000) : D 56 [.sc (.string (B l))] = some (.sc (.string (B (trn 2 false l)))) := (f56_eq 0 _).trans (cb (turn_ev l 2 hl) rfl rfl)
theorem trm_len (l : List UInt8) : (trm l).length ≤ l.length := by
  have h := spl_len l
  unfold trm
  rcases wrd_nil (spl l) with ⟨h1, h2⟩ | ⟨w, ws, h1, hw, h2⟩
  · rw [h1]; simp
  · rw [h2, List.length_append, jn_len]
    have hf : ∀ L : List (List UInt8), (L.filter fun w => w != []).flatten.length = L.flatten.length ∧ (L.filter fun w => w != []).length ≤ L.length := by
      intro L
      induction L with
      | nil => exact ⟨rfl, Nat.le_refl _⟩
      | cons x L ih =>
        by_cases hx : x = []
        · subst hx
          rw [List.filter_cons_of_neg (by simp), List.flatten_cons, List.nil_append, List.length_cons]
          exact ⟨ih.1, by omega⟩
        · rw [List.filter_cons_of_pos (by simpa using hx), List.flatten_cons, List.flatten_cons, List.length_append, List.length_append, List.length_cons, List.length_cons]
          exact ⟨by omega, by omega⟩
    have := hf (spl l)
    rw [h1, List.flatten_cons, List.length_append, List.length_cons] at this
    omega
theorem textTurns_D (l : List UInt8) : D 13 [.sc (.string (B l))] = some (.sc (.bool true)) := by
  rw [f13_eq 0]
  by_cases h : l.length > 400
  · exact ip (by rw [B_size, decide_eq_true_eq]; omega) (cb alive14_ev rfl rfl)
  · refine im (by rw [B_size, decide_eq_true_eq]; omega) ?_
    have hl : l.length ≤ 1000 := by omega
    refine cb (upper_ev l hl) rfl (cb (lower_ev l hl) rfl (cb (proper_ev l hl) rfl (cb (trim_ev l (by omega)) rfl (cb (rturn_ev l 0 hl) rfl ?_))))
    have a1 := rturn_ev l 1 hl
    have a2 := rturn_ev l 2 hl
    have a3 := rtrim_ev l hl
    simp only [ts, a1, a2, a3, bs, shs, if_true, tb, bO]
    have hu := upper_ev (trn 0 false l) (by rw [trn_len]; exact hl)
    have hlo := lower_ev (trn 1 false l) (by rw [trn_len]; exact hl)
    have hpr := proper_ev (trn 2 false l) (by rw [trn_len]; exact hl)
    have htr := trim_ev (trm l) (by have := trm_len l; omega)
    have hul := upper_ev (trn 1 false l) (by rw [trn_len]; exact hl)
    rw [trn_trn] at hu hlo hpr hul
    rw [trm_trm] at htr
    refine im (by simp) (cb hu rfl ?_)
    simp only [ts, hlo, hpr, htr, hul, alive14_ev]
    simp
theorem textTurns_law (W : World) (vs : List Value) (xs : List PV) (h : Handed Tryd.prog W [9] vs xs) : D 13 xs = some (.sc (.bool true)) := by
  obtain ⟨a, _, _, rfl, ha, h⟩ := handed_cons h
  obtain rfl := handed_nil h
  obtain ⟨a, rfl, _⟩ := of9 ha
  rw [on9]
  obtain ⟨a, rfl⟩ := B_of a
  exact textTurns_D a
end Go.Den.ET
