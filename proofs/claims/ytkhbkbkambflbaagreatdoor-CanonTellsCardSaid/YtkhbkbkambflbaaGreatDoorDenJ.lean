/- Slices that are written out, or appended to. -/
import Derived.Test.YtkhbkbkambflbaaGreatDoorDenI
import Derived.Maps.AppendAt
import Derived.Laws.OwnMore
import Derived.Lib.AppendStr
namespace Go.Den
open Go Go.RowKit
set_option linter.unusedVariables false
section
variable {P : Program}

def Env.setBuf (E : Env) (n b : Nat) (w : World) (v : Value) (nv : Nat) : Env :=
 { w := w, n := n, own := fun c => if c = b then v.ownBlock else E.own c, blk := E.blk, hdr := fun c => if c = b then v else E.hdr c, ver := fun c => if c = b then nv else E.ver c, V := E.V }
theorem setBuf_ok {E : Env} {base : Nat} {h h' : Heap} (hs : HeapOk P E base h) {n b : Nat} (hb : (b < E.n ∧ n = E.n) ∨ (b = E.n ∧ n = E.n + 1)) {w : World} {v : Value} {nv : Nat} {row : Option Nat} (hg : E.w.grownBy w row)
  (hrow : ∀ c, row = some c → b < E.n ∧ E.own b = some c) {e : TypeId} {k : Nat} {xs : List PV} {vs : List Value} (hown : rowIn P w base e k v xs.length vs) (hat : v.ownBlock = row ∨ v.ownBlock = some E.w.heap.size ∨ v.ownBlock = none)
  (hl : h'.length = n) (ho : ∀ c, c ≠ b → h'[c]? = h[c]?) (hob : h'[b]? = some (.buf e nv xs)) (hv : b < E.n → E.ver b < nv) (hk : sizeT P e = k) (h0 : 0 < k)
  (hx : ∀ i (h1 : i < xs.length), xs[i].plainE = true ∧ xs[i].cells.length = k) (hxe : ∀ i (h1 : i < xs.length), ∀ j (hj : j < xs[i].cells.length), ∃ u, vs[i * k + j]? = some u ∧ Enc E xs[i].cells[j] u) :
  Ext E (E.setBuf n b w v nv) ∧ HeapOk P (E.setBuf n b w v nv) base h' ∧ Below base E.w w := by
 have old : ∀ {c d : Nat}, c < E.n → E.own c = some d → d < E.w.heap.size := fun {c} {d} hc e => by
  have hc' : c < h.length := by have := hs.n; omega
  exact ((hs.obj c h[c] (List.getElem?_eq_getElem hc')).lt e).2
 have hx' : Ext E (E.setBuf n b w v nv) := by
  refine ⟨by show E.n ≤ n; omega, fun _ _ => rfl, hg.size, ?_, fun c hc hu => ?_, fun c hc => ?_, rfl, fun c d hc hd hs' e => ?_⟩
  ·rintro c ⟨d, hd, e⟩
   have e' : (if d = b then v.ownBlock else E.own d) = some c := e
   by_cases hdb : d = b
   ·rw [if_pos hdb] at e'
    rcases hat with a | a | a
    ·rw [a] at e'
     obtain ⟨h1, h2⟩ := hrow c e'
     exact .inl ⟨b, h1, h2⟩
    ·rw [a] at e'
     have := Option.some.inj e'
     exact .inr (by omega)
    ·rw [a] at e'
     cases e'
   ·rw [if_neg hdb] at e'
    have hd' : d < n := hd
    exact .inl ⟨d, by omega, e'⟩
  ·refine hg.block c hc fun e => ?_
   obtain ⟨h1, h2⟩ := hrow c e.symm
   exact hu ⟨b, h1, h2⟩
  ·show E.ver c ≤ (if c = b then nv else E.ver c) ∧ (E.ver c = (if c = b then nv else E.ver c) → (if c = b then v else E.hdr c) = E.hdr c)
   by_cases hcb : c = b
   ·subst hcb
    rw [if_pos rfl, if_pos rfl]
    have := hv hc
    exact ⟨by omega, fun e => by omega⟩
   ·rw [if_neg hcb, if_neg hcb]
    exact ⟨Nat.le_refl _, fun _ => rfl⟩
  ·have e' : E.ver c = (if c = b then nv else E.ver c) := e
   have hcb : c ≠ b := by
    rintro rfl
    rw [if_pos rfl] at e'
    have := hv hc
    omega
   refine ⟨(if_neg hcb).trans hd, hg.block d hs' fun er => ?_⟩
   obtain ⟨h1, h2⟩ := hrow d er.symm
   exact hcb (hs.apart c b d hc h1 hd h2)
 refine ⟨hx', ⟨hl.symm, fun c o hc => ?_, fun c c' d hc hc' e e' => ?_, Nat.le_trans hs.low hx'.size, fun c hc => ⟨Nat.lt_of_lt_of_le (hs.below c hc).1 hx'.size, fun d hd e => ?_⟩⟩, (Below.refl _ _).grown hg hs.low fun c e => ?_⟩
 ·by_cases hcb : c = b
  ·subst hcb
   rw [hob] at hc
   obtain rfl := Option.some.inj hc
   have ev : (E.setBuf n c w v nv).ver c = nv := by show (if c = c then nv else _) = nv; rw [if_pos rfl]
   have eh : (E.setBuf n c w v nv).hdr c = v := by show (if c = c then v else _) = v; rw [if_pos rfl]
   have eo : (E.setBuf n c w v nv).own c = v.ownBlock := by show (if c = c then v.ownBlock else _) = _; rw [if_pos rfl]
   have := ObjOk.buf (P := P) (E := E.setBuf n c w v nv) (base := base) (b := c) (k := k) (xs := xs) (vs := vs) (e := e) (by rw [eo, eh]) (by rw [eh]; exact hown) hk h0 hx (fun i a j hj => by
    obtain ⟨u, hu, eu⟩ := hxe i a j hj
    exact ⟨u, hu, eu.ext hx'⟩)
   rw [ev] at this
   exact this
  ·rw [ho c hcb] at hc
   have hob' := hs.obj c o hc
   have hcn : c < E.n := by have := (List.getElem?_eq_some_iff.1 hc).1; have := hs.n; omega
   refine hob'.keep hx' ?_ rfl ?_ ?_ fun d hd => hg.block d (hob'.lt hd).2 fun e => ?_
   ·show (if c = b then _ else _) = _; rw [if_neg hcb]
   ·show (if c = b then _ else _) = _; rw [if_neg hcb]
   ·show (if c = b then _ else _) = _; rw [if_neg hcb]
   ·obtain ⟨h1, h2⟩ := hrow d e.symm
    exact hcb (hs.apart c b d hcn h1 hd h2)
 ·have e1 : (if c = b then v.ownBlock else E.own c) = some d := e
  have e2 : (if c' = b then v.ownBlock else E.own c') = some d := e'
  have hcn : c < n := hc
  have hcn' : c' < n := hc'
  have one : ∀ {x : Nat}, x ≠ b → x < n → E.own x = some d → v.ownBlock = some d → False := by
   intro x hxb hxn ex ev
   have hxE : x < E.n := by omega
   rcases hat with a | a | a
   ·rw [a] at ev
    obtain ⟨h1, h2⟩ := hrow d ev
    exact hxb (hs.apart x b d hxE h1 ex h2)
   ·rw [a] at ev
    have := Option.some.inj ev
    have := old hxE ex
    omega
   ·rw [a] at ev
    cases ev
  by_cases h1 : c = b
  ·rw [if_pos h1] at e1
   by_cases h2 : c' = b
   ·omega
   ·rw [if_neg h2] at e2
    exact (one h2 hcn' e2 e1).elim
  ·rw [if_neg h1] at e1
   by_cases h2 : c' = b
   ·rw [if_pos h2] at e2
    exact (one h1 hcn e1 e2).elim
   ·rw [if_neg h2] at e2
    exact hs.apart c c' d (by omega) (by omega) e1 e2
 ·have e' : (if d = b then v.ownBlock else E.own d) = some c := e
  have hc' := hs.below c hc
  by_cases hdb : d = b
  ·rw [if_pos hdb] at e'
   rcases hat with a | a | a
   ·rw [a] at e'
    obtain ⟨h1, h2⟩ := hrow c e'
    exact hc'.2 b h1 h2
   ·rw [a] at e'
    have := Option.some.inj e'
    have := hc'.1
    omega
   ·rw [a] at e'
    cases e'
  ·rw [if_neg hdb] at e'
   have hd' : d < n := hd
   exact hc'.2 d (by omega) e'
 ·obtain ⟨h1, h2⟩ := hrow c e
  have hc' : b < h.length := by have := hs.n; omega
  exact ((hs.obj b h[b] (List.getElem?_eq_getElem hc')).lt h2).1
/-- What is appended: where its cells lie. -/
theorem elems_ok {E : Env} {base : Nat} {h : Heap} (hs : HeapOk P E base h) {x : PV} {v : Value} (he : Enc E x v) {k : Nat} (hk0 : 0 < k) {ys : List PV} (hd : elems P h k x = some ys) :
  (∀ i (h1 : i < ys.length), ys[i].plainE = true ∧ ys[i].cells.length = k) ∧ ((ys = [] ∧ ∃ A c, v = .slice A 0 c ∧ (A = none → c = 0 ∨ True)) ∨ ∃ (a : Addr) (c : Nat) (news : List Value), v = .slice (some a) ys.length c ∧ news.length = ys.length * k ∧ (∀ j u, news[j]? = some u → E.w.cell? (a.add j) = some u) ∧
   (∀ u ∈ news, u.oneCell' = true) ∧ ∀ i (h1 : i < ys.length), ∀ j (hj : j < ys[i].cells.length), ∃ u, news[i * k + j]? = some u ∧ Enc E ys[i].cells[j] u) := by
 have one : ∀ {y : PV} {u : Value} {j : Nat} (hj : j < y.cells.length), y.plainE = true → Enc E y.cells[j] u → u.oneCell' = true := by
  intro y u j hj hp hu
  simp only [PV.plainE, Bool.and_eq_true] at hp
  exact hu.oneCell (plain_known (List.all_eq_true.1 hp.2 _ (List.getElem_mem hj))).2.1
 unfold elems at hd
 split at hd
 ·obtain rfl := Option.some.inj hd
  cases he
  exact ⟨fun i h1 => by simp at h1, .inl ⟨rfl, _, _, rfl, fun _ => .inr trivial⟩⟩
 ·rename_i k' n f
  split at hd
  ·rename_i hkk
   subst hkk
   obtain rfl := Option.some.inj hd
   cases he with
   | lst0 => exact ⟨fun i h1 => by simp at h1, .inl ⟨rfl, _, _, rfl, fun _ => .inr trivial⟩⟩
   | lst hn hb hu hk hp hc hx =>
    rename_i b off cap g
    have hf : ∀ i (h1 : i < ((List.range n).map f).length), ((List.range n).map f)[i] = f i := fun i h1 => by simp
    refine ⟨fun i h1 => ?_, .inr ⟨⟨b, off, none⟩, cap, (List.range (n * k')).map fun p => g (p / k') (p % k'), by simp, by simp, fun j u hj => ?_, fun u hu => ?_, fun i h1 j hj => ?_⟩⟩
    ·have h2 : i < n := by simpa using h1
     rw [hf i h1]
     exact ⟨hp i h2, hk i h2⟩
    ·rw [List.getElem?_map, Option.map_eq_some_iff] at hj
     obtain ⟨p, hp1, rfl⟩ := hj
     have hjn : j < n * k' ∧ p = j := by
      obtain ⟨a1, a2⟩ := List.getElem?_eq_some_iff.1 hp1
      simp at a1 a2
      exact ⟨a1, a2.symm⟩
     obtain ⟨hj1, rfl⟩ := hjn
     have h1 : p / k' < n := (Nat.div_lt_iff_lt_mul hk0).2 hj1
     have := hc (p / k') h1 (p % k') (Nat.mod_lt _ hk0)
     rw [Addr.add_lit]
     rw [Nat.add_assoc, Nat.mul_comm (p / k') k', Nat.div_add_mod] at this
     exact this
    ·simp only [List.mem_map, List.mem_range] at hu
     obtain ⟨p, hp1, rfl⟩ := hu
     have h1 : p / k' < n := (Nat.div_lt_iff_lt_mul hk0).2 hp1
     have hj : p % k' < (f (p / k')).cells.length := by rw [hk _ h1]; exact Nat.mod_lt _ hk0
     exact one hj (hp _ h1) (hx _ h1 _ hj)
    ·have h2 : i < n := by simpa using h1
     simp only [hf i h1] at hj ⊢
     have hjk : j < k' := by rw [hk i h2] at hj; exact hj
     have hlt : i * k' + j < n * k' := by
      have : (i + 1) * k' ≤ n * k' := Nat.mul_le_mul_right k' h2
      rw [Nat.add_mul] at this
      omega
     refine ⟨g i j, ?_, hx i h2 j hj⟩
     rw [List.getElem?_map, List.getElem?_range hlt]
     show some (g ((i * k' + j) / k') ((i * k' + j) % k')) = _
     rw [Nat.mul_comm i k', Nat.mul_add_div hk0, Nat.div_eq_of_lt hjk, Nat.add_zero, Nat.mul_add_mod, Nat.mod_eq_of_lt hjk]
  ·cases hd
 ·rename_i b ver
  split at hd
  ·rename_i e0 ver' xs hb
   split at hd
   ·rename_i hc
    obtain ⟨rfl, hke⟩ := hc
    obtain rfl := Option.some.inj hd
    cases he with
    | buf hbn hv h1 hh =>
     have hob := hs.obj b _ hb
     cases hob with
     | buf ho hw hk h0 hx hxe =>
      rename_i k' vs
      obtain rfl : k = k' := hke.symm.trans hk
      rw [hh rfl]
      refine ⟨hx, ?_⟩
      rcases hw.form.2 with ⟨e1, e2⟩ | ⟨g, cap, e1, e4, hbs, ecell⟩
      ·exact .inl ⟨List.length_eq_zero_iff.1 e2, _, _, e1, fun _ => .inr trivial⟩
      ·refine .inr ⟨⟨g, 0, none⟩, cap, vs, e1, hw.form.1, fun j u hj => ?_, fun u hu => ?_, hxe⟩
       ·rw [Addr.add_lit, Nat.zero_add]
        exact ecell _ _ hj
       ·obtain ⟨p, hp1, rfl⟩ := List.getElem_of_mem hu
        have hlen : vs.length = xs.length * k := hw.form.1
        have hpl : p < xs.length * k := by omega
        have h1 : p / k < xs.length := (Nat.div_lt_iff_lt_mul hk0).2 hpl
        have hj : p % k < xs[p / k].cells.length := by rw [(hx _ h1).2]; exact Nat.mod_lt _ hk0
        obtain ⟨u, hu1, eu⟩ := hxe (p / k) h1 (p % k) hj
        rw [Nat.mul_comm (p / k) k, Nat.div_add_mod] at hu1
        have : vs[p]? = some vs[p] := List.getElem?_eq_getElem hp1
        rw [this] at hu1
        rw [Option.some.inj hu1]
        exact one hj (hx _ h1).1 eu
   ·cases hd
  ·cases hd
 ·cases hd
theorem isByteT_spec {e : TypeId} (h : isByteT P e = true) : ∃ i, P.info? e = some i ∧ i.zero = some (.int .u8 0) ∧ i.size = 1 ∧ i.bytes = 1 := by
 unfold isByteT at h
 split at h
 ·rename_i i hu hi
  split at h
  ·rename_i hz
   rw [Bool.and_eq_true, beq_iff_eq, beq_iff_eq] at h
   exact ⟨i, hi, hz, h.1, h.2⟩
  ·cases h
 ·cases h
theorem strB_len (s : ByteArray) : (strB s).length = s.size := by
 unfold strB
 rw [List.length_map]
 exact Array.length_toList
/-- A text's bytes, appended: where the row lies then. -/
theorem append_str_at {w : World} {base : Nat} (hbase : base ≤ w.heap.size) {t u ty e : TypeId} {i : TypeInfo} (ht : P.underlying t = some (.slice e)) (hu : P.underlying u = some .string) (hi : P.info? e = some i) (hz : i.zero = some (.int .u8 0)) (hsize : i.size = 1) (hby : i.bytes = 1)
  {v : Value} {n : Nat} {xs : List Value} (hown : w.ownsRow base e 1 v n xs) {s : ByteArray} (hb : n + s.size ≤ 140737488355328) :
  ∃ v' w', (Builtin.append_ #[t, u] ty #[v, .string s]).run P w = .ok v' w' ∧ w'.ownsRow base e 1 v' (n + s.size) (xs ++ Lib.strCells s) ∧ w.grownBy w' v.ownBlock ∧ (v'.ownBlock = v.ownBlock ∨ v'.ownBlock = some w.heap.size) := by
 obtain ⟨v', w', r1, r2, r3, r4⟩ := Lib.run_append_own_string (P := P) w base t u ty e i ht hu hi hz hsize hby v n xs hown s (by simp only [maxLen]; omega) hb hbase
 refine ⟨v', w', r1, r2, r3, ?_⟩
 have same : ∀ {v2 : Value} {w2 : World}, (Builtin.append_ #[t, u] ty #[v, .string s]).run P w = .ok v2 w2 → v' = v2 := fun h => by
  rw [r1] at h
  injection h
 have hxl : xs.length = n := by simpa using hown.1
 rcases hown.2 with ⟨rfl, rfl⟩ | ⟨g, cap, cur, rfl, hbg, hg, hnc, hcm, hcs, htake⟩
 ·by_cases hm : s.size = 0
  ·rw [r4.2 ⟨rfl, hm⟩]
   exact .inl rfl
  ·rw [same (run_append_nil_string (P := P) w t u ty e i (.int .u8 0) ht hu hi hz s (by omega) (by omega) (by rw [hby]; omega))]
   exact .inr rfl
 ·by_cases hroom : n + s.size ≤ cap
  ·have hcs' : cur.size = cap := by simpa using hcs
   rw [same (Lib.run_append_room_string (P := P) w t u ty e i ht hu hi hsize g n cap cur hg s hroom (by omega))]
   exact .inl rfl
  ·have holds : ∀ j u, xs[j]? = some u → w.cell? ((⟨g, 0, none⟩ : Addr).add j) = some u := hown.cells (g := g) rfl
   rw [same (Lib.run_append_grow_string (P := P) w t u ty e i (.int .u8 0) ht hu hi hz ⟨g, 0, none⟩ n cap xs (by rw [hsize]; simpa using hxl) holds s (by omega) (by omega) (by rw [hby]; exact growslice_fits (by omega) (by omega)))]
   exact .inr rfl
/-- What is appended, to whatever is owned. -/
theorem appendTo_ok {E : Env} {base : Nat} {s : St} (hs : HeapOk P E base s.h) {e : TypeId} {i : TypeInfo} (hi : P.info? e = some i) (hk0 : 0 < i.size) {ys : List PV} {a : PV} {va : Value} (hea : Enc E a va) (hy1 : ∀ q (h1 : q < ys.length), ys[q].plainE = true ∧ ys[q].cells.length = i.size) {run : World → Result Value} {run2 : World → Result Next}
  (law : ∀ (n : Nat) (ws : List Value), E.w.ownsRow base e i.size va n ws → n + ys.length ≤ 140737488355328 → (n + ys.length) * i.bytes ≤ 140737488355328 →
   ∃ v' w' news, run E.w = .ok v' w' ∧ w'.ownsRow base e i.size v' (n + ys.length) (ws ++ news) ∧ E.w.grownBy w' va.ownBlock ∧ (v'.ownBlock = va.ownBlock ∨ v'.ownBlock = some E.w.heap.size) ∧
    ∀ q (h1 : q < ys.length), ∀ j (hj : j < ys[q].cells.length), ∃ u, news[q * i.size + j]? = some u ∧ Enc E ys[q].cells[j] u)
  (exec : ∀ {v' : Value} {w' : World}, run E.w = .ok v' w' → run2 E.w = .ok (.value v') w') {dst : Option Tmp} {K : St → Option PV} {r : PV} (hd : appendTo P e ys a s dst K = some r) :
  ∃ E' x v h', run2 E.w = .ok (.value v) E'.w ∧ Ext E E' ∧ HeapOk P E' base h' ∧ Enc E' x v ∧ Below base E.w E'.w ∧ K (St.put { s with h := h' } dst x) = some r ∧ ∀ b', b' < E.n → (∀ ver, a ≠ .buf b' ver) → E'.ver b' = E.ver b' := by
 have hsz : sizeT P e = i.size := by unfold sizeT; rw [hi]
 have hbz : bytesT P e = i.bytes := by unfold bytesT; rw [hi]
 unfold appendTo at hd
 split at hd
 ·-- onto nil
  split at hd
  ·rename_i hc2
   cases hea
   rw [hbz] at hc2
   obtain ⟨v', w', news, r1, r2, r3, r4, r5⟩ := law 0 [] (World.ownsRow_nil _ _ _ _) (by omega) (by rw [Nat.zero_add]; exact hc2.1)
   rw [Nat.zero_add, List.nil_append] at r2
   obtain ⟨b1, b2, b3⟩ := setBuf_ok (h' := s.h ++ [HObj.buf e 0 ys]) hs (n := E.n + 1) (b := E.n) (.inr ⟨rfl, rfl⟩) (w := w') (v := v') (nv := 0) (row := none) r3 (fun c h => by cases h) (.inl r2) (by
     rcases r4 with h | h
     ·exact .inl h
     ·exact .inr (.inl h)) (by rw [hs.n]; simp) (fun c hc => by
     rw [hs.n] at hc
     by_cases hlt : c < s.h.length
     ·rw [List.getElem?_append_left hlt]
     ·rw [List.getElem?_eq_none (by simp; omega), List.getElem?_eq_none (by omega)]) (by rw [hs.n]; simp) (fun h => by omega) hsz (by omega) hy1 r5
   refine ⟨_, _, v', _, exec r1, b1, b2, ?_, b3, hd, fun b' hb' _ => if_neg (by omega)⟩
   have hn := hs.n
   refine .buf (by show s.h.length < E.n + 1; omega) (Nat.zero_le _) ?_ fun _ => ?_
   ·rcases r2.2 with ⟨e1, _⟩ | ⟨g, cap, cur, e1, _⟩ <;> rw [e1] <;> rfl
   ·show v' = (if s.h.length = E.n then v' else _)
    rw [if_pos hn.symm]
  ·cases hd
 ·rename_i b ver
  split at hd
  ·rename_i e0 ver' xs hb
   split at hd
   ·rename_i hc2
    obtain ⟨rfl, rfl, hmk⟩ := hc2
    split at hd
    ·rename_i hc3
     cases hea with
     | buf hbn hv h1 hh =>
      have hob := hs.obj b _ hb
      cases hob with
      | buf ho hw hk h0 hx hxe =>
       rename_i k ws
       have hkk : k = i.size := by omega
       subst hkk
       rw [hbz] at hc3
       have hva := hh rfl
       subst hva
       obtain ⟨v', w', news, r1, r2, r3, r4, r5⟩ := law xs.length ws (hw.own hmk) hc3.2 hc3.1
       have hbl : b < s.h.length := (List.getElem?_eq_some_iff.1 hb).1
       have hwl : ws.length = xs.length * i.size := hw.form.1
       obtain ⟨b1, b2, b3⟩ := setBuf_ok (h' := s.h.put b (.buf e0 (E.ver b + 1) (xs ++ ys))) hs (n := E.n) (b := b) (.inl ⟨hbn, rfl⟩) (w := w') (v := v') (nv := E.ver b + 1) (row := (E.hdr b).ownBlock) r3 (fun c h => ⟨hbn, ho.trans h⟩) (by rw [List.length_append]; exact .inl r2) (by
         rcases r4 with h | h
         ·exact .inl h
         ·exact .inr (.inl h)) (by show (s.h.set b _).length = E.n; rw [List.length_set, hs.n]) (fun c hc => List.getElem?_set_ne (by omega)) (List.getElem?_set_self hbl) (fun _ => Nat.lt_succ_self _) hsz (by omega) (fun q h1 => by
         by_cases hq : q < xs.length
         ·rw [List.getElem_append_left hq]; exact hx q hq
         ·rw [List.getElem_append_right (by omega)]; exact hy1 _ _) (fun q h1 j hj => by
         by_cases hq : q < xs.length
         ·simp only [List.getElem_append_left hq] at hj ⊢
          obtain ⟨u, hu, eu⟩ := hxe q hq j hj
          refine ⟨u, ?_, eu⟩
          rw [List.getElem?_append_left (List.getElem?_eq_some_iff.1 hu).1]
          exact hu
         ·simp only [List.getElem_append_right (show xs.length ≤ q by omega)] at hj ⊢
          have hq2 : q - xs.length < ys.length := by rw [List.length_append] at h1; omega
          obtain ⟨u, hu, eu⟩ := r5 (q - xs.length) hq2 j hj
          refine ⟨u, ?_, eu⟩
          have e9 : q * i.size + j = ws.length + ((q - xs.length) * i.size + j) := by
           rw [hwl, Nat.sub_mul]
           have : xs.length * i.size ≤ q * i.size := Nat.mul_le_mul_right _ (by omega)
           omega
          rw [e9, List.getElem?_append_right (by omega), Nat.add_sub_cancel_left]
          exact hu)
       refine ⟨_, _, v', _, exec r1, b1, b2, ?_, b3, hd, fun b' hb' hne => if_neg (fun e => hne (E.ver b) (by subst e; rfl))⟩
       refine .buf hbn ?_ ?_ fun _ => ?_
       ·show E.ver b + 1 ≤ (if b = b then E.ver b + 1 else _)
        rw [if_pos rfl]
        exact Nat.le_refl _
       ·rcases r2.2 with ⟨e1, _⟩ | ⟨g, cap, cur, e1, _⟩ <;> rw [e1] <;> rfl
       ·show v' = (if b = b then v' else _)
        rw [if_pos rfl]
    ·cases hd
   ·cases hd
  ·cases hd
 ·cases hd
/-- append. -/
theorem append_ok {E : Env} {base : Nat} {s : St} (hs : HeapOk P E base s.h) {ts : Array TypeId} {args : List PV} {vs : Array Value} (hl : args.length = vs.size) (he : ∀ i (h1 : i < args.length) (h2 : i < vs.size), Enc E args[i] vs[i]) {dst : Option Tmp} {K : St → Option PV} {r : PV}
  (hd : denAppend P ts s dst args K = some r) (ty : TypeId) (consts : Array Bool) :
  ∃ E' x v h', (builtin .append ts ty consts vs).run P E.w = .ok (.value v) E'.w ∧ Ext E E' ∧ HeapOk P E' base h' ∧ Enc E' x v ∧ Below base E.w E'.w ∧ K (St.put { s with h := h' } dst x) = some r ∧ ∀ b', b' < E.n → (∀ ver, args.head? ≠ some (.buf b' ver)) → E'.ver b' = E.ver b' := by
 unfold denAppend at hd
 split at hd
 ·rename_i t t' e a x ht1 ht2 hu
  obtain ⟨va, vx, rfl⟩ : ∃ va vx, vs = #[va, vx] := by
   have h1 : vs.size = 2 := by simpa using hl.symm
   exact ⟨vs[0], vs[1], by
    apply Array.ext
    ·simp [h1]
    ·intro i a b
     have hi : i = 0 ∨ i = 1 := by simp at b; omega
     rcases hi with rfl | rfl <;> rfl⟩
  have hea : Enc E a va := he 0 (by simp) (by simp)
  have hex : Enc E x vx := he 1 (by simp) (by simp)
  split at hd
  ·rename_i htt
   subst htt
   split at hd
   ·rename_i hc
    obtain ⟨hk0, hz⟩ := hc
    have hut : P.underlying t = some (.slice e) := by rw [ht1] at hu; exact hu
    obtain ⟨i, hi, z, hzz, hzs⟩ : ∃ i, P.info? e = some i ∧ ∃ z, i.zero = some z ∧ z.cells.size = i.size := by
     unfold zeroOk at hz
     split at hz
     ·rename_i i hi
      split at hz
      ·rename_i z hzz
       exact ⟨i, hi, z, hzz, by simpa using hz⟩
      ·cases hz
     ·cases hz
    have hsz : sizeT P e = i.size := by unfold sizeT; rw [hi]
    have hbz : bytesT P e = i.bytes := by unfold bytesT; rw [hi]
    have hts : Builtin.append_ ts ty #[va, vx] = Builtin.append_ #[t, t] ty #[va, vx] := by
     unfold Builtin.append_
     simp [ht1, ht2]
    split at hd
    ·cases hd
    ·rename_i ys hys
     obtain ⟨hy1, hy2⟩ := elems_ok hs hex hk0 hys
     rw [hsz] at hy1 hy2
     -- the law, at whatever is owned
     have law : ∀ (n : Nat) (ws : List Value), E.w.ownsRow base e i.size va n ws → n + ys.length ≤ 140737488355328 → (n + ys.length) * i.bytes ≤ 140737488355328 →
       ∃ v' w' news, (Builtin.append_ #[t, t] ty #[va, vx]).run P E.w = .ok v' w' ∧ w'.ownsRow base e i.size v' (n + ys.length) (ws ++ news) ∧ E.w.grownBy w' va.ownBlock ∧ (v'.ownBlock = va.ownBlock ∨ v'.ownBlock = some E.w.heap.size) ∧
       ∀ q (h1 : q < ys.length), ∀ j (hj : j < ys[q].cells.length), ∃ u, news[q * i.size + j]? = some u ∧ Enc E ys[q].cells[j] u := by
      intro n ws hw hle hby
      rcases hy2 with ⟨hy, A, c, rfl, _⟩ | ⟨ad, c, news, rfl, n1, n2, n3, n4⟩
      ·subst hy
       cases A with
       | none =>
        have hr : (Builtin.append_ #[t, t] ty #[va, .slice none 0 c]).run P E.w = .ok va E.w := by
         rcases hw.2 with ⟨rfl, rfl⟩ | ⟨g, cap, cur, rfl, _, _, hnc, _⟩
         ·simp [Builtin.append_, run_underlying hut, sizeOf, typeInfo, hi, Builtin.lenOf, Builtin.firstCells]
         ·simp [Builtin.append_, run_underlying hut, sizeOf, typeInfo, hi, Builtin.lenOf, Builtin.firstCells, hnc, storeCells]
        exact ⟨va, E.w, [], hr, by simpa using hw, ⟨rfl, rfl, rfl, Nat.le_refl _, fun _ _ _ => rfl⟩, .inl rfl, fun q h1 => by simp at h1⟩
       | some ad =>
        obtain ⟨v', w', r1, r2, r3, _, r5⟩ := run_append_own_at (P := P) E.w base t ty e i z i.size i.bytes hut hi hzz rfl rfl hzs (by omega) va n ws hw ad 0 c [] (by simp) (fun j u h => by simp at h) (fun u h => by simp at h) (by simp only [maxLen]; simp at hle; omega) hby hs.low
        exact ⟨v', w', [], r1, r2, r3, r5, fun q h1 => by simp at h1⟩
      ·obtain ⟨v', w', r1, r2, r3, _, r5⟩ := run_append_own_at (P := P) E.w base t ty e i z i.size i.bytes hut hi hzz rfl rfl hzs (by omega) va n ws hw ad ys.length c news n1 n2 n3 (by simp only [maxLen]; omega) hby hs.low
       exact ⟨v', w', news, r1, r2, r3, r5, n4⟩
     have exec : ∀ {v' : Value} {w' : World}, (Builtin.append_ #[t, t] ty #[va, vx]).run P E.w = .ok v' w' → (builtin .append ts ty consts #[va, vx]).run P E.w = .ok (.value v') w' := by
      intro v' w' hr
      show (do pure (Next.value (← Builtin.append_ ts ty #[va, vx])) : Sem Next).run P E.w = _
      rw [hts]
      exact exec_v hr
     refine (fun ⟨E', x, v, h', q1, q2, q3, q4, q5, q6, q7⟩ => ⟨E', x, v, h', q1, q2, q3, q4, q5, q6, fun b' hb' hne => q7 b' hb' fun ver e => hne ver (by rw [e]; rfl)⟩) (appendTo_ok hs hi (by omega) hea hy1 (run := fun w => (Builtin.append_ #[t, t] ty #[va, vx]).run P w) (run2 := fun w => (builtin .append ts ty consts #[va, vx]).run P w) law (fun h => exec h) hd)
   ·cases hd
  ·split at hd
   ·rename_i str hu2
    split at hd
    ·rename_i hb
     obtain rfl := hex.sc_iff
     have hut : P.underlying t = some (.slice e) := by rw [ht1] at hu; exact hu
     obtain ⟨i, hi, hz, h1, h2⟩ := isByteT_spec hb
     have hsz : sizeT P e = i.size := by unfold sizeT; rw [hi]
     have hts : Builtin.append_ ts ty #[va, .string str] = Builtin.append_ #[t, t'] ty #[va, .string str] := by
      unfold Builtin.append_
      simp [ht1, ht2]
     refine (fun ⟨E', x, v, h', q1, q2, q3, q4, q5, q6, q7⟩ => ⟨E', x, v, h', q1, q2, q3, q4, q5, q6, fun b' hb' hne => q7 b' hb' fun ver e => hne ver (by rw [e]; rfl)⟩) (appendTo_ok hs hi (by omega) hea (fun q h3 => ?_) (run := fun w => (Builtin.append_ #[t, t'] ty #[va, .string str]).run P w) (run2 := fun w => (builtin .append ts ty consts #[va, .string str]).run P w) (fun n ws hw hle hby => ?_) (fun {v' w'} hr => ?_) hd)
     ·simp only [strB, List.getElem_map]
      exact ⟨rfl, by rw [h1]; rfl⟩
     ·rw [strB_len] at hle hby
      rw [h1] at hw ⊢
      have e0 : (strB str).length = str.size := strB_len str
      obtain ⟨v', w', r1, r2, r3, r4⟩ := append_str_at hs.low hut hu2 hi hz h1 h2 hw (s := str) (ty := ty) hle
      refine ⟨v', w', Lib.strCells str, r1, by rw [e0]; exact r2, r3, r4, fun q h3 j hj => ?_⟩
      have hq : q < str.data.toList.length := by rw [strB_len] at h3; exact h3
      have hj0 : j = 0 := by
       simp only [strB, List.getElem_map] at hj
       have : j < 1 := hj
       omega
      subst hj0
      refine ⟨.int .u8 str.data.toList[q].toNat, ?_, ?_⟩
      ·rw [Nat.mul_one, Nat.add_zero]
       unfold Lib.strCells
       rw [List.getElem?_map, List.getElem?_eq_getElem hq]
       rfl
      ·simp only [strB, List.getElem_map]
       exact .sc rfl
     ·show (do pure (Next.value (← Builtin.append_ ts ty #[va, .string str])) : Sem Next).run P E.w = _
      rw [hts]
      exact exec_v hr
    ·cases hd
   ·cases hd
 ·cases hd
/-- Parts of one size, one behind the other. -/
theorem fill_seq {k : Nat} : ∀ (qs : List (Nat × Value)) (p : Nat) (vs : Array Value), (∀ i (h : i < qs.length), qs[i].1 = p + i ∧ qs[i].2.cells.size = k) → (p + qs.length) * k ≤ vs.size →
  ∃ us, Instr.fill (fun i => some (i * k, k)) vs qs = some us ∧ us.size = vs.size ∧ (∀ q, q < p * k → us[q]? = vs[q]?) ∧ ∀ i (h : i < qs.length), ∀ j, j < k → us[(p + i) * k + j]? = qs[i].2.cells[j]?
 | [], p, vs, _, _ => ⟨vs, rfl, rfl, fun _ _ => rfl, fun i h => by simp at h⟩
 | (a, v) :: qs, p, vs, hq, hle => by
  obtain ⟨e0, ec⟩ := hq 0 (by simp)
  simp only [List.getElem_cons_zero, Nat.add_zero] at e0 ec
  subst e0
  obtain ⟨f1, f2⟩ := foldl_set (a * k) v.cells.toList 0 vs
  have e1 : (v.cells.zipIdx.foldl (fun cs (x : Value × Nat) => cs.setIfInBounds (a * k + x.2) x.1) vs) = ((v.cells.toList.zipIdx 0).foldl (fun cs (x : Value × Nat) => cs.setIfInBounds (a * k + x.2) x.1) vs) := by
   rw [← Array.foldl_toList, Array.toList_zipIdx]
  have hroom : a * k + k ≤ vs.size := by
   have : (a + 1) * k ≤ (a + (qs.length + 1)) * k := Nat.mul_le_mul_right k (by omega)
   rw [Nat.add_mul, Nat.one_mul] at this
   have h2 : (a + ((a, v) :: qs).length) * k ≤ vs.size := hle
   rw [List.length_cons] at h2
   omega
  generalize hv1 : ((v.cells.toList.zipIdx 0).foldl (fun cs (x : Value × Nat) => cs.setIfInBounds (a * k + x.2) x.1) vs) = v1 at *
  obtain ⟨us, u1, u2, u3, u4⟩ := fill_seq qs (a + 1) v1 (fun i h => by
   have := hq (i + 1) (by simp; omega)
   simp only [List.getElem_cons_succ] at this
   exact ⟨by omega, this.2⟩) (by rw [f1]; rw [List.length_cons] at hle; rw [show a + 1 + qs.length = a + (qs.length + 1) by omega]; exact hle)
  refine ⟨us, ?_, by omega, fun q hq2 => ?_, fun i h j hj => ?_⟩
  ·rw [Instr.fill]
   dsimp only
   rw [if_neg (by simp; omega)]
   rw [show (v.cells.zipIdx.foldl (fun cs (c, j) => cs.setIfInBounds (a * k + j) c) vs) = _ from e1]
   exact u1
  ·rw [u3 q (by rw [Nat.add_mul]; omega), f2 q, if_neg (by omega)]
  ·cases i with
   | zero =>
    simp only [List.getElem_cons_zero, Nat.add_zero]
    rw [u3 (a * k + j) (by rw [Nat.add_mul]; omega), f2 (a * k + j), if_pos ⟨by omega, by omega, by simp; omega⟩, show a * k + j - (a * k + 0) = j by omega]
    simp
   | succ i =>
    simp only [List.getElem_cons_succ]
    rw [show a + (i + 1) = a + 1 + i by omega]
    exact u4 i (by simpa using h) j hj
/-- A slice that is written out. -/
theorem lit_ok {E : Env} {base : Nat} {s : St} (hs : HeapOk P E base s.h) {t : TypeId} {len : Nat} {ps : List (Nat × PV)} {qs : List (Nat × Value)} (hl : ps.length = qs.length) (he : ∀ i (h1 : i < ps.length) (h2 : i < qs.length), ps[i].1 = qs[i].1 ∧ Enc E ps[i].2 qs[i].2)
  {dst : Option Tmp} {K : St → Option PV} {r : PV} (hd : denLit P t len ps s dst K = some r) :
  ∃ E' x v h', (Instr.buildSlice t len qs.toArray).run P E.w = .ok v E'.w ∧ Ext E E' ∧ HeapOk P E' base h' ∧ Enc E' x v ∧ Below base E.w E'.w ∧ K (St.put { s with h := h' } dst x) = some r ∧ ∀ b', b' < E.n → E'.ver b' = E.ver b' := by
 unfold denLit at hd
 split at hd
 ·rename_i e hu
  split at hd
  ·rename_i hc
   obtain ⟨c1, c2, c3, c4, c5, c6, c7⟩ := hc
   obtain ⟨i, hi, z, hzz, hzs⟩ : ∃ i, P.info? e = some i ∧ ∃ z, i.zero = some z ∧ z.cells.size = i.size := by
    have hz := c5
    unfold zeroOk at hz
    split at hz
    ·rename_i i hi
     split at hz
     ·rename_i z hzz
      exact ⟨i, hi, z, hzz, by simpa using hz⟩
     ·cases hz
    ·cases hz
   have hsz : sizeT P e = i.size := by unfold sizeT; rw [hi]
   rw [hsz] at c2 c4 c7
   have hp : ∀ q (h1 : q < ps.length), ps[q].1 = q ∧ ps[q].2.plainE = true ∧ ps[q].2.cells.length = i.size := fun q h1 => by
    have a1 : (ps.map (·.1))[q]? = (List.range len)[q]? := by rw [c6]
    rw [List.getElem?_map, List.getElem?_eq_getElem h1, List.getElem?_range (by omega)] at a1
    have a2 := List.all_eq_true.1 c7 _ (List.getElem_mem h1)
    simp only [Bool.and_eq_true, beq_iff_eq] at a2
    exact ⟨Option.some.inj a1, a2⟩
   have hkn : ∀ q (h1 : q < ps.length), ps[q].2.known = true := fun q h1 => by
    have := (hp q h1).2.1
    simp only [PV.plainE, Bool.and_eq_true] at this
    exact this.1
   obtain ⟨us, u1, u2, u3, u4⟩ := fill_seq (k := i.size) qs 0 ((Array.range (len * i.size)).map (z.cells[· % z.cells.size]!)) (fun q h1 => by
    obtain ⟨a1, a2⟩ := he q (by omega) h1
    obtain ⟨b1, b2, b3⟩ := hp q (by omega)
    obtain ⟨k1, _⟩ := a2.known_cells (hkn q (by omega))
    exact ⟨by omega, by omega⟩) (by simp only [Array.size_map, Array.size_range, Nat.zero_add]; rw [← hl, c1]; exact Nat.le_refl _)
   have hsize : us.size = len * i.size := by rw [u2]; simp
   have hpos : ¬ len * i.size = 0 ∨ len = 0 := by
    rcases Nat.eq_zero_or_pos len with h | h
    ·exact .inr h
    ·exact .inl (by have := Nat.mul_pos h c2; omega)
   have hrun : (Instr.buildSlice t len qs.toArray).run P E.w = .ok (.slice (some ⟨E.w.heap.size, 0, none⟩) len len) (E.w.alloc (.cells us e)) := by
    unfold Instr.buildSlice
    rw [Sem.run_bind, run_underlying hu, Result.andThen_ok]
    dsimp only
    rw [Sem.run_bind, run_size hi, Result.andThen_ok]
    have h24 : ¬ len * i.size > 2 ^ 24 := by omega
    simp only [if_neg h24]
    by_cases h0 : len * i.size = 0
    ·simp only [if_pos h0]
     have hl0 : len = 0 := by
      rcases hpos with h | h
      ·exact absurd h0 h
      ·exact h
     subst hl0
     have hq0 : qs = [] := List.length_eq_zero_iff.1 (by omega)
     subst hq0
     have hus : us = #[] := Array.eq_empty_of_size_eq_zero (by omega)
     subst hus
     simp only [Sem.run_bind, Sem.run_pure, Result.andThen_ok]
     rw [show Array.range (0 * i.size) = #[] by rw [Nat.zero_mul]; rfl]
     simp [Instr.fill, newRow]
    ·have hzv : (zeroValue e).run P E.w = .ok z E.w := by
      unfold zeroValue typeInfo
      simp [hi, hzz]
     simp only [if_neg h0, Sem.run_bind, hzv, Result.andThen_ok, Sem.run_pure]
     rw [u1]
     rfl
   have hown := World.ownsRow_lit (base := base) (e := e) (size := i.size) E.w us len hs.low (by simp only [maxLen]; omega) hsize
   have hlen : len = (ps.map (·.2)).length := by simp [c1]
   obtain ⟨b1, b2, b3⟩ := setBuf_ok (P := P) (h' := s.h ++ [HObj.buf e 0 (ps.map (·.2))]) hs (n := E.n + 1) (b := E.n) (.inr ⟨rfl, rfl⟩) (w := E.w.alloc (.cells us e)) (v := .slice (some ⟨E.w.heap.size, 0, none⟩) len len) (nv := 0) (row := none) (k := i.size) (xs := ps.map (·.2)) (vs := us.toList)
    ⟨rfl, rfl, rfl, by show E.w.heap.size ≤ (E.w.heap.push _).size; simp, fun c hc _ => alloc_old _ _ hc⟩ (fun c h => by cases h) (by rw [← hlen]; exact (.inl hown)) (.inr (.inl rfl)) (by rw [hs.n]; simp) (fun c hc => by
     rw [hs.n] at hc
     by_cases hlt : c < s.h.length
     ·rw [List.getElem?_append_left hlt]
     ·rw [List.getElem?_eq_none (by simp; omega), List.getElem?_eq_none (by omega)]) (by rw [hs.n]; simp) (fun h => by omega) hsz c2 (fun q h1 => by
     simp only [List.getElem_map]
     exact (hp q (by simpa using h1)).2) (fun q h1 j hj => by
     have h1' : q < ps.length := by simpa using h1
     simp only [List.getElem_map] at hj ⊢
     obtain ⟨a1, a2⟩ := he q h1' (by omega)
     obtain ⟨k1, k2⟩ := a2.known_cells (hkn q h1')
     have hjk : j < i.size := by have := (hp q h1').2.2; omega
     have h5 : j < qs[q].2.cells.size := by omega
     refine ⟨qs[q].2.cells[j], ?_, k2 j hj h5⟩
     have := u4 q (by omega) j hjk
     rw [Nat.zero_add] at this
     rw [Array.getElem?_toList, this, Array.getElem?_eq_getElem h5])
   refine ⟨_, _, _, _, hrun, b1, b2, ?_, b3, hd, fun b' hb' => if_neg (by omega)⟩
   have hn := hs.n
   refine .buf (by show s.h.length < E.n + 1; omega) (Nat.zero_le _) rfl fun _ => ?_
   show _ = (if s.h.length = E.n then _ else _)
   rw [if_pos hn.symm]
  ·cases hd
 ·cases hd
end
end Go.Den
