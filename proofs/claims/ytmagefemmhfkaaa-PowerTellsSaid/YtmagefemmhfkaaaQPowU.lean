/- The rounded powers of a number: none of them, times the number, lies in the last half step below 2^64 steps. -/
import Derived.Test.YtmagefemmhfkaaaQPowerF
namespace Go.Proofs.Ytmagefemmhfkaaa.Q
open Go Go.RowKit Go.Proofs.Ytmagefemmhfkaaa.PA Go.Proofs.YtmagefemmhfkaaaW.PrintWords Go.Proofs.YtmagefemmhfkaaaW.PrintLast Go.Proofs.YtmagefemmhfkaaaW.PrintMore
set_option linter.unusedVariables false
set_option linter.unusedSimpArgs false

/-- How far from 0 the power is, rounded at each step. -/
noncomputable def powU (X : Nat) (j : Nat) : Nat := Nat.rec 10000 (fun _ u => (u * X + 5000) / 10000) j
theorem powU_succ (X j : Nat) : powU X (j + 1) = (powU X j * X + 5000) / 10000 := rfl
theorem powU_mono {X Y : Nat} (h : X ≤ Y) (j : Nat) : powU X j ≤ powU Y j := by
  induction j with
  | zero => exact Nat.le_refl _
  | succ j ih =>
    rw [powU_succ, powU_succ]
    exact Nat.div_le_div_right (Nat.add_le_add_right (Nat.mul_le_mul ih h) _)
noncomputable def chkU (j x : Nat) : Bool := decide (powU x j * x < 184467440737095516155000) && decide (184467440737095516160000 ≤ powU (x + 1) j * (x + 1))

def certU0 : List Nat := [18446744073709551615, 429496729599, 1226421929, 65535999, 11302745, 3502030, 1516511, 809543, 496836, 336195, 244236, 187137, 149383, 123146, 104166, 89974, 79067, 70486, 63601, 57982, 53327, 49420, 46103, 43259, 40797, 38650, 36762, 35092, 33605, 32274, 31077, 29995, 29013, 28118, 27300, 26549, 25857, 25219, 24628, 24079, 23568, 23092, 22647, 22230, 21839, 21471, 21125, 20798, 20490, 20198, 19921, 19659, 19410, 19173, 18947, 18732, 18527, 18331, 18144, 17965, 17793, 17628, 17470, 17319, 17173, 17033, 16898, 16768, 16643, 16522, 16406, 16293, 16185, 16080, 15978, 15880, 15785, 15693, 15604, 15517, 15433, 15352, 15273, 15196, 15121, 15049, 14978, 14909, 14843, 14778, 14714, 14653, 14593, 14534, 14477, 14421, 14367, 14314, 14262, 14212]
theorem certU0_ok : ((List.range 100).all fun i => chkU (0 + i) (certU0.getD i 0)) = true := by decide +kernel
def certU1 : List Nat := [14162, 14114, 14067, 14021, 13976, 13932, 13889, 13846, 13805, 13765, 13725, 13686, 13648, 13611, 13575, 13539, 13504, 13470, 13436, 13403, 13371, 13339, 13308, 13277, 13247, 13217, 13188, 13160, 13132, 13104, 13077, 13051, 13025, 12999, 12974, 12949, 12924, 12900, 12877, 12854, 12831, 12808, 12786, 12764, 12743, 12722, 12701, 12680, 12660, 12640, 12621, 12601, 12582, 12564, 12545, 12527, 12509, 12491, 12474, 12456, 12439, 12423, 12406, 12390, 12374, 12358, 12342, 12327, 12312, 12297, 12282, 12267, 12252, 12238, 12224, 12210, 12196, 12183, 12169, 12156, 12143, 12130, 12117, 12105, 12092, 12080, 12068, 12055, 12044, 12032, 12020, 12009, 11997, 11986, 11975, 11964, 11953, 11942, 11931, 11921]
theorem certU1_ok : ((List.range 100).all fun i => chkU (100 + i) (certU1.getD i 0)) = true := by decide +kernel
def certU2 : List Nat := [11911, 11900, 11890, 11880, 11870, 11860, 11850, 11841, 11831, 11822, 11812, 11803, 11794, 11785, 11776, 11767, 11758, 11749, 11741, 11732, 11724, 11715, 11707, 11699, 11690, 11682, 11674, 11666, 11659, 11651, 11643, 11635, 11628, 11620, 11613, 11606, 11598, 11591, 11584, 11577, 11570, 11563, 11556, 11549, 11542, 11536, 11529, 11522, 11516, 11509, 11503, 11496, 11490, 11484, 11478, 11471, 11465, 11459, 11453, 11447, 11441, 11435, 11429, 11424, 11418, 11412, 11407, 11401, 11395, 11390, 11384, 11379, 11374, 11368, 11363, 11358, 11353, 11347, 11342, 11337, 11332, 11327, 11322, 11317, 11312, 11307, 11302, 11298, 11293, 11288, 11283, 11279, 11274, 11270, 11265, 11260, 11256, 11251, 11247, 11243]
theorem certU2_ok : ((List.range 100).all fun i => chkU (200 + i) (certU2.getD i 0)) = true := by decide +kernel
def certU3 : List Nat := [11238, 11234, 11230, 11225, 11221, 11217, 11213, 11208, 11204, 11200, 11196, 11192, 11188, 11184, 11180, 11176, 11172, 11168, 11164, 11161, 11157, 11153, 11149, 11145, 11142, 11138, 11134, 11131, 11127, 11123, 11120, 11116, 11113, 11109, 11106, 11102, 11099, 11095, 11092, 11089, 11085, 11082, 11079, 11075, 11072, 11069, 11066, 11062, 11059, 11056, 11053, 11050, 11047, 11043, 11040, 11037, 11034, 11031, 11028, 11025, 11022, 11019, 11016, 11013, 11010, 11008, 11005, 11002, 10999, 10996, 10993, 10991, 10988, 10985, 10982, 10979, 10977, 10974, 10971, 10969, 10966, 10963, 10961, 10958, 10955, 10953, 10950, 10948, 10945, 10943, 10940, 10938, 10935, 10933, 10930, 10928, 10925, 10923, 10920, 10918]
theorem certU3_ok : ((List.range 100).all fun i => chkU (300 + i) (certU3.getD i 0)) = true := by decide +kernel
def certU4 : List Nat := [10916, 10913, 10911, 10909, 10906, 10904, 10902, 10899, 10897, 10895, 10892, 10890, 10888, 10886, 10883, 10881, 10879, 10877, 10875, 10872, 10870, 10868, 10866, 10864, 10862, 10860, 10858, 10855, 10853, 10851, 10849, 10847, 10845, 10843, 10841, 10839, 10837, 10835, 10833, 10831, 10829, 10827, 10825, 10823, 10821, 10820, 10818, 10816, 10814, 10812, 10810, 10808, 10806, 10805, 10803, 10801, 10799, 10797, 10795, 10794, 10792, 10790, 10788, 10786, 10785, 10783, 10781, 10780, 10778, 10776, 10774, 10773, 10771, 10769, 10768, 10766, 10764, 10763, 10761, 10759, 10758, 10756, 10754, 10753, 10751, 10750, 10748, 10746, 10745, 10743, 10742, 10740, 10739, 10737, 10735, 10734, 10732, 10731, 10729, 10728]
theorem certU4_ok : ((List.range 100).all fun i => chkU (400 + i) (certU4.getD i 0)) = true := by decide +kernel
def certU5 : List Nat := [10726, 10725, 10723, 10722, 10720, 10719, 10717, 10716, 10714, 10713, 10712, 10710, 10709, 10707, 10706, 10704, 10703, 10702, 10700, 10699, 10697, 10696, 10695, 10693, 10692, 10691, 10689, 10688, 10687, 10685, 10684, 10683, 10681, 10680, 10679, 10677, 10676, 10675, 10673, 10672, 10671, 10670, 10668, 10667, 10666, 10664, 10663, 10662, 10661, 10659, 10658, 10657, 10656, 10655, 10653, 10652, 10651, 10650, 10649, 10647, 10646, 10645, 10644, 10643, 10641, 10640, 10639, 10638, 10637, 10636, 10634, 10633, 10632, 10631, 10630, 10629, 10628, 10627, 10625, 10624, 10623, 10622, 10621, 10620, 10619, 10618, 10617, 10616, 10614, 10613, 10612, 10611, 10610, 10609, 10608, 10607, 10606, 10605, 10604, 10603]
theorem certU5_ok : ((List.range 100).all fun i => chkU (500 + i) (certU5.getD i 0)) = true := by decide +kernel
def certU6 : List Nat := [10602, 10601, 10600, 10599, 10598, 10597, 10596, 10595, 10594, 10593, 10592, 10591, 10590, 10589, 10588, 10587, 10586, 10585, 10584, 10583, 10582, 10581, 10580, 10579, 10578, 10577, 10576, 10575, 10574, 10573, 10572, 10571, 10571, 10570, 10569, 10568, 10567, 10566, 10565, 10564, 10563, 10562, 10561, 10560, 10560, 10559, 10558, 10557, 10556, 10555, 10554, 10553, 10553, 10552, 10551, 10550, 10549, 10548, 10547, 10547, 10546, 10545, 10544, 10543, 10542, 10541, 10541, 10540, 10539, 10538, 10537, 10537, 10536, 10535, 10534, 10533, 10532, 10532, 10531, 10530, 10529, 10528, 10528, 10527, 10526, 10525, 10524, 10524, 10523, 10522, 10521, 10521, 10520, 10519, 10518, 10518, 10517, 10516, 10515, 10514]
theorem certU6_ok : ((List.range 100).all fun i => chkU (600 + i) (certU6.getD i 0)) = true := by decide +kernel
def certU7 : List Nat := [10514, 10513, 10512, 10511, 10511, 10510, 10509, 10509, 10508, 10507, 10506, 10506, 10505, 10504, 10503, 10503, 10502, 10501, 10501, 10500, 10499, 10498, 10498, 10497, 10496, 10496, 10495, 10494, 10493, 10493, 10492, 10491, 10491, 10490, 10489, 10489, 10488, 10487, 10487, 10486, 10485, 10485, 10484, 10483, 10483, 10482, 10481, 10481, 10480, 10479, 10479, 10478, 10477, 10477, 10476, 10475, 10475, 10474, 10474, 10473, 10472, 10472, 10471, 10470, 10470, 10469, 10468, 10468, 10467, 10467, 10466, 10465, 10465, 10464, 10464, 10463, 10462, 10462, 10461, 10460, 10460, 10459, 10459, 10458, 10457, 10457, 10456, 10456, 10455, 10454, 10454, 10453, 10453, 10452, 10452, 10451, 10450, 10450, 10449, 10449]
theorem certU7_ok : ((List.range 100).all fun i => chkU (700 + i) (certU7.getD i 0)) = true := by decide +kernel
def certU8 : List Nat := [10448, 10448, 10447, 10446, 10446, 10445, 10445, 10444, 10444, 10443, 10442, 10442, 10441, 10441, 10440, 10440, 10439, 10439, 10438, 10437, 10437, 10436, 10436, 10435, 10435, 10434, 10434, 10433, 10433, 10432, 10432, 10431, 10431, 10430, 10429, 10429, 10428, 10428, 10427, 10427, 10426, 10426, 10425, 10425, 10424, 10424, 10423, 10423, 10422, 10422, 10421, 10421, 10420, 10420, 10419, 10419, 10418, 10418, 10417, 10417, 10416, 10416, 10415, 10415, 10414, 10414, 10413, 10413, 10412, 10412, 10411, 10411, 10410, 10410, 10409, 10409, 10408, 10408, 10408, 10407, 10407, 10406, 10406, 10405, 10405, 10404, 10404, 10403, 10403, 10402, 10402, 10401, 10401, 10401, 10400, 10400, 10399, 10399, 10398, 10398]
theorem certU8_ok : ((List.range 100).all fun i => chkU (800 + i) (certU8.getD i 0)) = true := by decide +kernel
def certU9 : List Nat := [10397, 10397, 10396, 10396, 10396, 10395, 10395, 10394, 10394, 10393, 10393, 10392, 10392, 10392, 10391, 10391, 10390, 10390, 10389, 10389, 10389, 10388, 10388, 10387, 10387, 10386, 10386, 10386, 10385, 10385, 10384, 10384, 10383, 10383, 10383, 10382, 10382, 10381, 10381, 10381, 10380, 10380, 10379, 10379, 10378, 10378, 10378, 10377, 10377, 10376, 10376, 10376, 10375, 10375, 10374, 10374, 10374, 10373, 10373, 10372, 10372, 10372, 10371, 10371, 10370, 10370, 10370, 10369, 10369, 10369, 10368, 10368, 10367, 10367, 10367, 10366, 10366, 10365, 10365, 10365, 10364, 10364, 10364, 10363, 10363, 10362, 10362, 10362, 10361, 10361, 10361, 10360, 10360, 10359, 10359, 10359, 10358, 10358, 10358, 10357]
theorem certU9_ok : ((List.range 100).all fun i => chkU (900 + i) (certU9.getD i 0)) = true := by decide +kernel
theorem no_hit_of {c : Nat} {L : List Nat} (h : ((List.range 100).all fun i => chkU (c + i) (L.getD i 0)) = true) {j : Nat} (h0 : c ≤ j) (h1 : j < c + 100) (X : Nat) :
    powU X j * X < 184467440737095516155000 ∨ 184467440737095516160000 ≤ powU X j * X := by
  have hj := List.all_eq_true.1 h (j - c) (List.mem_range.2 (by omega))
  rw [show c + (j - c) = j by omega] at hj
  generalize L.getD (j - c) 0 = x at hj
  unfold chkU at hj
  rw [Bool.and_eq_true] at hj
  have a := of_decide_eq_true hj.1
  have b := of_decide_eq_true hj.2
  by_cases hX : X ≤ x
  · exact .inl (Nat.lt_of_le_of_lt (Nat.mul_le_mul (powU_mono hX j) hX) a)
  · exact .inr (Nat.le_trans b (Nat.mul_le_mul (powU_mono (show x + 1 ≤ X by omega) j) (by omega)))
theorem no_hit {j : Nat} (h : j < 1000) (X : Nat) : powU X j * X < 184467440737095516155000 ∨ 184467440737095516160000 ≤ powU X j * X := by
  by_cases h5 : j < 500
  · by_cases h2 : j < 200
    · by_cases h1 : j < 100
      · exact no_hit_of certU0_ok (by omega) (by omega) X
      · exact no_hit_of certU1_ok (by omega) (by omega) X
    · by_cases h3 : j < 300
      · exact no_hit_of certU2_ok (by omega) (by omega) X
      · by_cases h4 : j < 400
        · exact no_hit_of certU3_ok (by omega) (by omega) X
        · exact no_hit_of certU4_ok (by omega) (by omega) X
  · by_cases h7 : j < 700
    · by_cases h6 : j < 600
      · exact no_hit_of certU5_ok (by omega) (by omega) X
      · exact no_hit_of certU6_ok (by omega) (by omega) X
    · by_cases h8 : j < 800
      · exact no_hit_of certU7_ok (by omega) (by omega) X
      · by_cases h9 : j < 900
        · exact no_hit_of certU8_ok (by omega) (by omega) X
        · exact no_hit_of certU9_ok (by omega) (by omega) X
theorem upR_eq (n : Nat) : upR (n : Int) 10000 = ((n + 5000) / 10000 : Nat) := by
  unfold upR
  split <;> omega
theorem gap_no {n : Nat} (h : n < 184467440737095516155000 ∨ 184467440737095516160000 ≤ n) : ¬ ((n : Int) / 10000 = 18446744073709551615 ∧ (10000 : Int) - (n : Int) % 10000 ≤ (n : Int) % 10000) := by
  omega
theorem mul_same1 {p x : Int} {j : Nat} (hj : j < 1000) (h : p.natAbs = powU x.natAbs j) : mulP p x = mulR p x := by
  have hno := no_hit hj x.natAbs
  rw [← h] at hno
  clear h
  have e10 : ((10000 : Int).natAbs : Int) = 10000 := rfl
  have ec : (p.natAbs : Int) * x.natAbs = ((p.natAbs * x.natAbs : Nat) : Int) := by simp
  refine scaled_eq (a := p) (b := x) (c := 10000) ?_
  rw [e10, ec]
  generalize p.natAbs * x.natAbs = n at hno ⊢
  clear e10 ec
  exact gap_no hno
theorem mulR_abs {p x : Int} (hp : May p) (hx : May x) (hok : (mulR p x).2 = true) : (mulR p x).1.natAbs = (p.natAbs * x.natAbs + 5000) / 10000 := by
  have e10 : ((10000 : Int).natAbs : Int) = 10000 := rfl
  have ec : (p.natAbs : Int) * x.natAbs = ((p.natAbs * x.natAbs : Nat) : Int) := by simp
  unfold mulR scaledR at hok ⊢
  rw [if_pos ⟨hp, hx, by decide, by decide⟩] at hok ⊢
  rw [e10, ec, upR_eq] at hok ⊢
  generalize p.natAbs * x.natAbs = n at *
  by_cases h1 : (n : Int) / 10000 > 9223372036854775807
  · rw [if_pos h1] at hok; exact absurd hok (by decide)
  · rw [if_neg h1] at hok ⊢
    by_cases h2 : (((n + 5000) / 10000 : Nat) : Int) > 9223372036854775807
    · rw [if_pos h2] at hok; exact absurd hok (by decide)
    · rw [if_neg h2]
      have := sg_abs p x 10000 (q := (((n + 5000) / 10000 : Nat) : Int)) (by omega)
      dsimp only
      omega
theorem mul_same {p x : Int} (hp : May p) (hx : May x) {j : Nat} (hj : j < 1000) (h : p.natAbs = powU x.natAbs j) :
    mulP p x = mulR p x ∧ ((mulR p x).2 = true → (mulR p x).1.natAbs = powU x.natAbs (j + 1)) :=
  ⟨mul_same1 hj h, fun hok => by rw [mulR_abs hp hx hok, powU_succ, ← h]⟩
theorem pow_same {x : Int} (hx : May x) (n : Nat) : ∀ (p : Int) (j : Nat), May p → p.natAbs = powU x.natAbs j → j + n ≤ 1000 → powN mulP n p x = powN mulR n p x := by
  induction n with
  | zero => intro p j hp h hj; exact (show powN mulP 0 p x = (p, true) from rfl).trans (show (p, true) = powN mulR 0 p x from rfl)
  | succ n ih =>
    intro p j hp h hj
    obtain ⟨e, hn⟩ := mul_same hp hx (j := j) (by omega) h
    unfold powN
    rw [e]
    by_cases hok : (mulR p x).2 = true
    · rw [if_pos hok, if_pos hok]
      exact ih _ (j + 1) (scaledR_may ..) (hn hok) (by omega)
    · rw [if_neg hok, if_neg hok]
theorem div_same (p : Int) : divP 10000 p = divR 10000 p := by
  refine scaled_eq ?_
  have e10 : ((10000 : Int).natAbs : Int) = 10000 := rfl
  rw [e10]
  have : (10000 : Int) * 10000 / (p.natAbs : Int) ≤ 10000 * 10000 := Int.ediv_le_self _ (by decide)
  omega
theorem power_same (x n : Int) : powS mulP divP x n = powS mulR divR x n := by
  unfold powS
  by_cases h : May x ∧ May n ∧ n.tmod 10000 = 0 ∧ -1000 ≤ n.tdiv 10000 ∧ n.tdiv 10000 ≤ 1000
  · rw [if_pos h, if_pos h, pow_same h.1 (n.tdiv 10000).natAbs 10000 0 (by decide) rfl (by omega), div_same]
  · rw [if_neg h, if_neg h]
end Go.Proofs.Ytmagefemmhfkaaa.Q
