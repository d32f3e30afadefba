import PyProof.Rows.All
import Wide.All
import OpenK.AllK
import Wide.FinOn
import HandS.ForMost
import HandS.Wide
import HandS.IsInst
import HandS.Conv
import HandS.Deep
import HandS.NoneIn
import HandS.Zip
import HandS.More
import HandS.DictComp
import HandS.DictTup
import HandS.TupSets
import HandS.SortKw
import HandS.MakeKw
import HandS.MakeKwOnly
import HandS.Defaults
import HandS.TupAny
import PySem.Challenge.RW_propfall_k44_whole_one_weight_at_all_pla
import HandS.Walk
import KE.GoesMore
import KE.KDictZip
import KE.GoesEnum
import HandS.WordsDict
import KE.SortKeyHeap
import HandS.ListItems
import HandS.SetFor
import HandS.Strs
set_option Elab.async false
set_option linter.all false
set_option maxRecDepth 100000
section
set_option maxHeartbeats 4000000
/-! Fractions as Rat: tops, bottoms, sizes. Plain Lean. -/
namespace PF
/-- sizes: top and bottom below 2 ^ n -/
def Bd (n : Nat) (q : Rat) : Prop := q.num.natAbs < 2 ^ n ∧ q.den < 2 ^ n
theorem two_le {a b : Nat} (h : a ≤ b) : 2 ^ a ≤ 2 ^ b := Nat.pow_le_pow_right (by decide) h
theorem Bd.mono {n m : Nat} {q : Rat} (h : Bd n q) (k : n ≤ m) : Bd m q := ⟨Nat.lt_of_lt_of_le h.1 (two_le k), Nat.lt_of_lt_of_le h.2 (two_le k)⟩
theorem den_pos (q : Rat) : (0 : Int) < (q.den : Int) := by have := q.den_nz; omega
theorem cut_num {t b : Int} (hb : 0 < b) : t / (Int.gcd t b : Int) = (Rat.divInt t b).num := by
  rw [Rat.num_divInt, Int.sign_eq_one_of_pos hb, Int.one_mul, Int.gcd_comm]
theorem cut_den {t b : Int} (hb : 0 < b) : b / (Int.gcd t b : Int) = ((Rat.divInt t b).den : Int) := by
  rw [Rat.den_divInt, if_neg (by omega), Int.gcd_comm]
  have e : ((b.natAbs : Nat) : Int) = b := by omega
  rw [Int.natCast_ediv, e]
theorem div_natAbs_le (t : Int) (g : Nat) : (t / (g : Int)).natAbs ≤ t.natAbs := by
  have := Int.natAbs_ediv_le_natAbs t g
  omega
theorem divInt_bd {t b : Int} {n : Nat} (hb : 0 < b) (h1 : t.natAbs < 2 ^ n) (h2 : b.natAbs < 2 ^ n) : Bd n (Rat.divInt t b) := by
  refine ⟨?_, ?_⟩
  · rw [← cut_num hb]
    exact Nat.lt_of_le_of_lt (div_natAbs_le _ _) h1
  · have e := cut_den (t := t) hb
    have := div_natAbs_le b (Int.gcd t b)
    rw [e] at this
    have e2 : ((Rat.divInt t b).den : Int).natAbs = (Rat.divInt t b).den := by omega
    rw [e2] at this
    exact Nat.lt_of_le_of_lt this h2
theorem plus_eq (a b : Rat) : Rat.divInt (a.num * b.den + b.num * a.den) (a.den * b.den) = a + b := by
  rw [Rat.add_def', ← Rat.divInt_ofNat]
  rfl
theorem less_eq (a b : Rat) : Rat.divInt (a.num * b.den - b.num * a.den) (a.den * b.den) = a - b := by
  rw [Rat.sub_def', ← Rat.divInt_ofNat]
  rfl
theorem times_eq (a b : Rat) : Rat.divInt (a.num * b.num) (a.den * b.den) = a * b := by
  rw [Rat.mul_def', ← Rat.divInt_ofNat]
  rfl
theorem over_eq (a b : Rat) : Rat.divInt (a.num * b.den) (a.den * b.num) = a / b := by
  rw [Rat.div_def, Rat.inv_def, ← Rat.divInt_mul_divInt, Rat.num_divInt_den]
theorem mul_lt2 {a b : Int} {n m : Nat} (h1 : a.natAbs < 2 ^ n) (h2 : b.natAbs < 2 ^ m) : (a * b).natAbs < 2 ^ (n + m) := by
  rw [Int.natAbs_mul, Nat.pow_add]
  exact Nat.mul_lt_mul'' h1 h2
theorem add_lt2 {a b : Int} {n : Nat} (h1 : a.natAbs < 2 ^ n) (h2 : b.natAbs < 2 ^ n) : (a + b).natAbs < 2 ^ (n + 1) := by
  have := Int.natAbs_add_le a b
  rw [Nat.pow_succ]
  omega
theorem sub_lt2 {a b : Int} {n : Nat} (h1 : a.natAbs < 2 ^ n) (h2 : b.natAbs < 2 ^ n) : (a - b).natAbs < 2 ^ (n + 1) := by
  have := Int.natAbs_sub_le a b
  rw [Nat.pow_succ]
  omega
theorem den_lt2 {q : Rat} {n : Nat} (h : Bd n q) : ((q.den : Int)).natAbs < 2 ^ n := by
  have := h.2
  omega
theorem Bd.add {a b : Rat} {n m : Nat} (ha : Bd n a) (hb : Bd m b) : Bd (n + m + 1) (a + b) := by
  rw [← plus_eq]
  refine divInt_bd (Int.mul_pos (den_pos a) (den_pos b)) ?_ ?_
  · refine add_lt2 (mul_lt2 ha.1 (den_lt2 hb)) ?_
    rw [Nat.add_comm n m]
    exact mul_lt2 hb.1 (den_lt2 ha)
  · exact Nat.lt_of_lt_of_le (mul_lt2 (den_lt2 ha) (den_lt2 hb)) (two_le (Nat.le_succ _))
theorem Bd.sub {a b : Rat} {n m : Nat} (ha : Bd n a) (hb : Bd m b) : Bd (n + m + 1) (a - b) := by
  rw [← less_eq]
  refine divInt_bd (Int.mul_pos (den_pos a) (den_pos b)) ?_ ?_
  · refine sub_lt2 (mul_lt2 ha.1 (den_lt2 hb)) ?_
    rw [Nat.add_comm n m]
    exact mul_lt2 hb.1 (den_lt2 ha)
  · exact Nat.lt_of_lt_of_le (mul_lt2 (den_lt2 ha) (den_lt2 hb)) (two_le (Nat.le_succ _))
theorem Bd.mul {a b : Rat} {n m : Nat} (ha : Bd n a) (hb : Bd m b) : Bd (n + m) (a * b) := by
  rw [← times_eq]
  exact divInt_bd (Int.mul_pos (den_pos a) (den_pos b)) (mul_lt2 ha.1 hb.1) (mul_lt2 (den_lt2 ha) (den_lt2 hb))
theorem num_pos {q : Rat} (h : 0 < q) : 0 < q.num := by
  have := (Rat.lt_iff 0 q).mp h
  simpa using this
theorem num_neg {q : Rat} (h : q < 0) : q.num < 0 := by
  have := (Rat.lt_iff q 0).mp h
  simpa using this
theorem Bd.div {a b : Rat} {n m : Nat} (ha : Bd n a) (hb : Bd m b) (h0 : 0 < b) : Bd (n + m) (a / b) := by
  rw [← over_eq]
  exact divInt_bd (Int.mul_pos (den_pos a) (num_pos h0)) (mul_lt2 ha.1 (den_lt2 hb)) (mul_lt2 (den_lt2 ha) hb.1)
theorem bd_int {i : Int} {n : Nat} (h : i.natAbs < 2 ^ n) (h0 : 0 < n) : Bd n (i : Rat) := by
  refine ⟨h, ?_⟩
  show 1 < 2 ^ n
  exact Nat.lt_of_lt_of_le (by decide : 1 < 2 ^ 1) (two_le h0)
theorem below_iff (a b : Rat) : decide (a.num * (b.den : Int) < b.num * (a.den : Int)) = decide (a < b) := by
  rw [decide_eq_decide]
  exact (Rat.lt_iff a b).symm
theorem eq_iff (a b : Rat) : (a.num = b.num ∧ (a.den : Int) = b.den) ↔ a = b := by
  constructor
  · rintro ⟨h1, h2⟩
    exact Rat.ext h1 (by omega)
  · rintro rfl
    exact ⟨rfl, rfl⟩
/-- Euclid's turn -/
theorem gcd_step {a b : Int} (_hb : 0 < b) : Int.gcd b (a % b) = Int.gcd a b := by
  have e : a % b = a - b * (a / b) := Int.emod_def a b
  rw [e, Int.gcd_comm a b]
  first
    | exact Int.gcd_sub_mul_left_right ..
    | simp
end PF
end
section
set_option maxHeartbeats 4000000
/-! The mirror: what the defs compute, over Rat and plain lists. Plain Lean. -/
namespace PF
def GoodS (long : Int) (s : Int × Rat) : Prop := 0 < s.1 ∧ s.1 < long ∧ Bd 320 s.2 ∧ 0 ≤ s.2
structure GoodP (long : Int) (ss : List (Int × Rat)) : Prop where
  lo : 2 ≤ long
  hi : long ≤ 1000
  few : ss.length ≤ 12
  each : ∀ s ∈ ss, GoodS long s
  rise : (ss.map (·.1)).Pairwise (· < ·)
def GoodH (long : Int) (h : Rat × Rat) : Prop := Bd 110 h.1 ∧ Bd 110 h.2 ∧ 0 ≤ h.1 ∧ h.1 ≤ (long : Rat) ∧ 0 < h.2
def full (n : Nat) : List Int := (List.range n).map fun (i : Nat) => (i : Int)
def restsL (n : Nat) (L : List Int) : List Int := -1 :: (L ++ [(n : Int)])
def placeOf (long : Int) (ss : List (Int × Rat)) (r : Int) : Int := if r = -1 then 0 else if r = (ss.length : Int) then long else (ss.map (·.1)).getD r.toNat 0
/-- a world: the plank's length, its props, what lies on it -/
structure Wd where
  long : Int
  ss : List (Int × Rat)
  heavy : List (Rat × Rat)
abbrev Ky := Int × Int × Int
def Wd.place (W : Wd) (r : Int) : Int := placeOf W.long W.ss r
structure GoodW (W : Wd) : Prop where
  p : GoodP W.long W.ss
  few : W.heavy.length ≤ 6
  each : ∀ h ∈ W.heavy, GoodH W.long h
def GoodKey (n : Nat) (k : Ky) : Prop := -1 ≤ k.1 ∧ k.1 < k.2.1 ∧ k.2.1 < k.2.2 ∧ k.2.2 ≤ (n : Int) ∧ 0 ≤ k.2.1
def shareAt (lo he hi : Int) (x : Rat) : Rat :=
  if (lo : Rat) < x ∧ ¬ (he : Rat) < x then (x - (lo : Rat)) / ((he - lo : Int) : Rat)
  else if (he : Rat) < x ∧ x < (hi : Rat) then ((hi : Rat) - x) / ((hi - he : Int) : Rat) else 0
def share (W : Wd) (k : Ky) (x : Rat) : Rat := shareAt (W.place k.1) (W.place k.2.1) (W.place k.2.2) x
def loadOf (W : Wd) (k : Ky) : Rat := (W.heavy.map fun h => h.2 * share W k h.1).foldl (· + ·) 0
def strongOf (W : Wd) (p : Int) : Rat := (W.ss.map (·.2)).getD p.toNat 0
def spare (W : Wd) (k : Ky) : Rat := strongOf W k.2.1 - loadOf W k
def fails (W : Wd) (much x : Rat) (k : Ky) : Bool := decide (spare W k < much * share W k x)
/-- each prop of a lot between the rests beside it -/
def sides (n : Nat) (L : List Int) : List Ky := (restsL n L).zip (L.zip ((restsL n L).drop 2))
def overL (F : Ky → Bool) (n : Nat) (L : List Int) : List Int := ((sides n L).filter F).map fun k => k.2.1
def minusP (L : List Int) (p : Int) : List Int := L.filter fun a => !decide (a = p)
def settle (F : Ky → Bool) (n : Nat) : Nat → List Int → List Int
  | 0, L => L
  | f + 1, L => match overL F n L with
    | [] => L
    | p :: _ => settle F n f (minusP L p)
def leftOf (W : Wd) (much x : Rat) : List Int := settle (fails W much x) W.ss.length (W.ss.length + 1) (full W.ss.length)
/-! ### places -/
theorem getD_lt {α : Type} {l : List α} {i : Nat} {d : α} (h : i < l.length) : l.getD i d = l[i] := by
  rw [List.getD_eq_getElem?_getD, List.getElem?_eq_getElem h]
  rfl
theorem place_lt {long : Int} {ss : List (Int × Rat)} (G : GoodP long ss) {r r' : Int} (h1 : -1 ≤ r) (h2 : r < r') (h3 : r' ≤ (ss.length : Int)) : placeOf long ss r < placeOf long ss r' := by
  have g1 := G.lo
  have gd : ∀ i : Nat, i < ss.length → 0 < (ss.map (·.1)).getD i 0 ∧ (ss.map (·.1)).getD i 0 < long := fun i hi => by
    have e : (ss.map (·.1)).getD i 0 = ss[i].1 := by
      rw [List.getD_eq_getElem?_getD, List.getElem?_map, List.getElem?_eq_getElem hi]
      rfl
    have g := G.each ss[i] (List.getElem_mem hi)
    exact ⟨by rw [e]; exact g.1, by rw [e]; exact g.2.1⟩
  unfold placeOf
  by_cases c1 : r = -1
  · rw [if_pos c1, if_neg (show ¬ r' = -1 by omega)]
    by_cases c2 : r' = (ss.length : Int)
    · rw [if_pos c2]
      omega
    · rw [if_neg c2]
      exact (gd r'.toNat (by omega)).1
  · rw [if_neg c1, if_neg (show ¬ r = (ss.length : Int) by omega), if_neg (show ¬ r' = -1 by omega)]
    have hi : r.toNat < ss.length := by omega
    by_cases c2 : r' = (ss.length : Int)
    · rw [if_pos c2]
      exact (gd r.toNat hi).2
    · rw [if_neg c2]
      have hi' : r'.toNat < ss.length := by omega
      rw [getD_lt (by simpa using hi), getD_lt (by simpa using hi')]
      exact (List.pairwise_iff_getElem.mp G.rise) r.toNat r'.toNat (by simpa using hi) (by simpa using hi') (by omega)
theorem place_bd {long : Int} {ss : List (Int × Rat)} (G : GoodP long ss) {r : Int} (h1 : -1 ≤ r) (h3 : r ≤ (ss.length : Int)) : 0 ≤ placeOf long ss r ∧ placeOf long ss r ≤ long := by
  have g1 := G.lo
  have e1 : placeOf long ss (-1) = 0 := if_pos rfl
  have e2 : placeOf long ss (ss.length : Int) = long := by
    unfold placeOf
    rw [if_neg (by omega), if_pos rfl]
  refine ⟨?_, ?_⟩
  · by_cases c : r = -1
    · rw [c, e1]
      exact Int.le_refl _
    · have := place_lt G (r := -1) (r' := r) (by omega) (by omega) h3
      rw [e1] at this
      omega
  · by_cases c : r = (ss.length : Int)
    · rw [c, e2]
      exact Int.le_refl _
    · have := place_lt G (r := r) (r' := (ss.length : Int)) h1 (by omega) (Int.le_refl _)
      rw [e2] at this
      omega
/-! ### the share, as the program reckons it -/
theorem ratlt {a b : Int} : (a : Rat) < (b : Rat) ↔ a < b := Rat.intCast_lt_intCast
theorem sub_ne {a b : Int} (h : a < b) : ((b - a : Int) : Rat) ≠ 0 := by
  intro e
  have := Rat.intCast_eq_zero_iff.mp e
  omega
theorem share_at {lo he hi : Int} (h1 : lo < he) (h2 : he < hi) : shareAt lo he hi (he : Rat) = 1 := by
  unfold shareAt
  rw [if_pos ⟨ratlt.mpr h1, Rat.lt_irrefl⟩]
  have e : ((he - lo : Int) : Rat) = (he : Rat) - (lo : Rat) := Rat.intCast_sub _ _
  have n := sub_ne h1
  rw [e] at n ⊢
  rw [Rat.div_def]
  exact Rat.mul_inv_cancel _ n
theorem share_low {lo he hi : Int} {x : Rat} (h1 : lo < he) (h2 : he < hi) (c : x < (he : Rat)) (d : (lo : Rat) < x) : shareAt lo he hi x = (x - (lo : Rat)) / ((he - lo : Int) : Rat) := by
  unfold shareAt
  rw [if_pos ⟨d, by grind⟩]
theorem share_low0 {lo he hi : Int} {x : Rat} (h1 : lo < he) (h2 : he < hi) (c : x < (he : Rat)) (d : ¬ (lo : Rat) < x) : shareAt lo he hi x = 0 := by
  unfold shareAt
  rw [if_neg (fun h => d h.1), if_neg (fun h => by have := h.1; grind)]
theorem share_high0 {lo he hi : Int} {x : Rat} (h1 : lo < he) (h2 : he < hi) (c : (he : Rat) < x) (d : ¬ x < (hi : Rat)) : shareAt lo he hi x = 0 := by
  unfold shareAt
  rw [if_neg (fun h => h.2 c), if_neg (fun h => d h.2)]
theorem share_high {lo he hi : Int} {x : Rat} (h1 : lo < he) (h2 : he < hi) (c : (he : Rat) < x) (d : x < (hi : Rat)) : shareAt lo he hi x = 1 - (x - (he : Rat)) / ((hi - he : Int) : Rat) := by
  unfold shareAt
  rw [if_neg (fun h => h.2 c), if_pos ⟨c, d⟩]
  have e : ((hi - he : Int) : Rat) = (hi : Rat) - (he : Rat) := Rat.intCast_sub _ _
  have n := sub_ne h2
  rw [e] at n ⊢
  grind
theorem bd10 {i : Int} (h0 : 0 ≤ i) (h1 : i ≤ 1000) : Bd 10 (i : Rat) := bd_int (by omega) (by decide)
theorem ipos {i : Int} (h : 0 < i) : (0 : Rat) < (i : Rat) := Rat.intCast_pos.mpr h
theorem bd0 : Bd 1 (0 : Rat) := ⟨by decide, by decide⟩
theorem bd1 : Bd 1 (1 : Rat) := ⟨by decide, by decide⟩
theorem shareAt_bd {lo he hi : Int} {x : Rat} {n : Nat} (h0 : 0 ≤ lo) (h1 : lo < he) (h2 : he < hi) (h3 : hi ≤ 1000) (hx : Bd n x) : Bd (n + 21) (shareAt lo he hi x) := by
  unfold shareAt
  split
  · exact ((hx.sub (bd10 (i := lo) (by omega) (by omega))).div (bd10 (i := he - lo) (by omega) (by omega)) (ipos (by omega))).mono (by omega)
  · split
    · exact (((bd10 (i := hi) (by omega) (by omega)).sub hx).div (bd10 (i := hi - he) (by omega) (by omega)) (ipos (by omega))).mono (by omega)
    · exact bd0.mono (by omega)
theorem share_bd {W : Wd} (G : GoodP W.long W.ss) {k : Ky} (g : GoodKey W.ss.length k) {x : Rat} {n : Nat} (hx : Bd n x) : Bd (n + 21) (share W k x) := by
  obtain ⟨g1, g2, g3, g4, g5⟩ := g
  have a1 := place_bd G g1 (by omega)
  have a2 := place_lt G g1 g2 (by omega)
  have a3 := place_lt G (by omega) g3 g4
  have a4 := place_bd G (r := k.2.2) (by omega) g4
  have := G.hi
  exact shareAt_bd a1.1 a2 a3 (by unfold Wd.place; omega) hx
theorem foldl_bd {b : Nat} : ∀ (qs : List Rat) (a : Rat) (n : Nat), Bd n a → (∀ q ∈ qs, Bd b q) → Bd (n + qs.length * (b + 1)) (qs.foldl (· + ·) a)
  | [], a, n, h, _ => by simpa using h
  | q :: r, a, n, h, hq => by
    have h1 := h.add (hq q List.mem_cons_self)
    have h2 := foldl_bd r (a + q) _ h1 fun z hz => hq z (List.mem_cons_of_mem _ hz)
    refine h2.mono ?_
    rw [List.length_cons, Nat.succ_mul]
    omega
theorem term_bd {W : Wd} (G : GoodW W) {k : Ky} (g : GoodKey W.ss.length k) : ∀ q ∈ W.heavy.map (fun h => h.2 * share W k h.1), Bd 241 q := fun q hq => by
  obtain ⟨h, hh, rfl⟩ := List.mem_map.mp hq
  have e := G.each h hh
  exact (e.2.1.mul (share_bd G.p g e.1)).mono (by omega)
theorem load_bd {W : Wd} (G : GoodW W) {k : Ky} (g : GoodKey W.ss.length k) : Bd 1460 (loadOf W k) := by
  have h := foldl_bd _ 0 1 bd0 (term_bd G g)
  refine h.mono ?_
  rw [List.length_map]
  have := Nat.mul_le_mul_right (241 + 1) G.few
  omega
theorem strong_bd {W : Wd} (G : GoodW W) {k : Ky} (g : GoodKey W.ss.length k) : Bd 320 (strongOf W k.2.1) ∧ 0 ≤ strongOf W k.2.1 := by
  obtain ⟨g1, g2, g3, g4, g5⟩ := g
  have hi : k.2.1.toNat < W.ss.length := by omega
  have e : strongOf W k.2.1 = W.ss[k.2.1.toNat].2 := by
    unfold strongOf
    rw [List.getD_eq_getElem?_getD, List.getElem?_map, List.getElem?_eq_getElem hi]
    rfl
  have g := G.p.each _ (List.getElem_mem hi)
  rw [e]
  exact ⟨g.2.2.1, g.2.2.2⟩
theorem spare_bd {W : Wd} (G : GoodW W) {k : Ky} (g : GoodKey W.ss.length k) : Bd 1781 (spare W k) := ((strong_bd G g).1.sub (load_bd G g)).mono (by omega)
/-! ### lots -/
/-- props, rising -/
structure GoodL (n : Nat) (L : List Int) : Prop where
  rise : L.Pairwise (· < ·)
  within : ∀ p ∈ L, 0 ≤ p ∧ p < (n : Int)
theorem full_len (n : Nat) : (full n).length = n := by
  unfold full
  rw [List.length_map, List.length_range]
theorem full_good (n : Nat) : GoodL n (full n) := by
  refine ⟨?_, fun p hp => ?_⟩
  · unfold full
    rw [List.pairwise_map]
    exact List.pairwise_lt_range.imp fun h => by omega
  · unfold full at hp
    obtain ⟨i, hi, rfl⟩ := List.mem_map.mp hp
    rw [List.mem_range] at hi
    omega
theorem minus_good {n : Nat} {L : List Int} (h : GoodL n L) (p : Int) : GoodL n (minusP L p) :=
  ⟨h.rise.filter _, fun q hq => h.within q (List.mem_filter.mp hq).1⟩
theorem good_len {n : Nat} {L : List Int} (h : GoodL n L) : L.length ≤ n := by
  have hs : ∀ p ∈ L, p ∈ full n := fun p hp => by
    have := h.within p hp
    unfold full
    exact List.mem_map.mpr ⟨p.toNat, List.mem_range.mpr (by omega), by omega⟩
  have nd : L.Nodup := h.rise.imp fun hlt e => by omega
  have := nd.length_le_of_subset hs
  rw [full_len] at this
  exact this
end PF
end
section
set_option maxHeartbeats 4000000
namespace PF
open PySem L2
/-! ### the text by places -/
def topS (i : Nat) : Stmt := PySem.Challenge.pw_propfall_k44_whole_one_weight_at_all_pla.main.body.getD i (.Pass ⟨0, 0, 0, 0⟩)
/-! ### a def, a method, a class as what it promises -/
section
variable (P : Program) (w : World) (K : PySem.W.Frag) (mg : Str → Option Value) (base : Heap)
def Fn (k : Nat) (x : Str) (ps : List Str) (sp : Sp) : Prop :=
  ∃ (f : Addr) (fd : FuncData), FnOk P w K mg base CX0 k f fd ps sp ∧ mg x = some (.ref f) ∧ PySem.W.keepIn K (.ref f) = true ∧ Binds K fd ps []
def MFn (k : Nat) (C : Addr) (m : Str) (ps : List Str) (sp : Sp) : Prop :=
  ∃ (g : Addr) (fd : FuncData), FnOk P w K mg base CX0 k g fd ps sp ∧ Meth K C m g ∧ Binds K fd ps []
/-- a class, by its __init__; dvs: the defaults behind the given ones -/
def CFn (k : Nat) (C : Addr) (x : Str) (ps : List Str) (dvs : List V) (sp : Sp) : Prop :=
  ∃ (g : Addr) (fd : FuncData) (ds : List Value), FnOk P w K mg base CX0 k g fd ps sp ∧ Mk K C g ∧ mg x = some (.ref C) ∧ Binds K fd ps ds ∧ Vals dvs ds
end
theorem ifT {c : Bool} {A B : Prop} (hc : c = true) (h : A) : if c = true then A else B := by
  rw [if_pos hc]
  exact h
theorem ifF {c : Bool} {A B : Prop} (hc : c = false) (h : B) : if c = true then A else B := by
  rw [hc, if_neg Bool.false_ne_true]
  exact h
theorem ifB {c : Bool} {A B : Prop} (h1 : c = true → A) (h2 : c = false → B) : if c = true then A else B := by
  cases c with
  | true => exact ifT rfl (h1 rfl)
  | false => exact ifF rfl (h2 rfl)
theorem hru {A : Around} {k : Nat} (hr : Room k A) : A.units + 64 < cLine := hr.units
def tCallF (sp : Sp) (t : TA) : TE := fun σ H Q => t σ H fun vs H1 => sp vs H1 Q E0
def tMethF (C : Addr) (m : Str) (sp : Sp) (ta : TE) (t : TA) : TE := fun σ H Q => ta σ H fun x H1 => ∃ a dx fs, x = .ref a ∧ H1 a = some (.ins C dx fs) ∧ fs.lookup m = none ∧ t σ H1 fun vs H2 => sp (x :: vs) H2 Q E0
section
variable {X : Cx} {k j : Nat} {x m : Str} {ps : List Str} {sp : Sp} {p pos apos : Pos} {e o : Expr} {es : List Expr} {t : TA} {ta : TE} {C : Addr} {dvs : List V}
theorem pe_fn (G : Fn X.prog X.w X.K X.mg X.base k x ps sp) (hr : Room j X.A) (ha : PA X (e :: es) t) (h : k ≤ j := by decide) (hg : Gl X x := by rfl)
    (hdb : (x == ("__debug__" : Str)) = false := by decide)
    (hst : starEach (e :: es) X.env = (false, eval e X.env) :: starEach es X.env := by rfl) (hpl : (backTo pos (starEach es X.env)).any (·.1) = false := by rfl) :
    PE X (.Call (.Name x p) (e :: es) [] pos) (tCallF sp t) := by
  obtain ⟨f, fd, F, hm, hk, hb⟩ := G
  refine ⟨fun pins s σ H Q I hw => ?_⟩
  refine (pe_call (sp := sp) (E := E0) F (hr.mono h) hg hm hk hb .nil pass0 ha hdb hst hpl).run pins s σ H Q I ?_
  have q : t σ H fun vs H1 => sp vs H1 Q E0 := hw
  show t σ H fun vs H1 => sp (vs ++ []) H1 Q E0
  simpa only [List.append_nil] using q
theorem pe_mfn {pl : Sem Bool} (G : MFn X.prog X.w X.K X.mg X.base k C m ps sp) (c : Cls X.K C) (hr : Room j X.A) (he : PE X o ta) (ha : PA X (e :: es) t) (h : k ≤ j := by decide)
    (hst : starEach (e :: es) X.env = (false, eval e X.env) :: starEach es X.env := by rfl) (hpl : (backTo pos (starEach es X.env)).any (·.1) = false := by rfl)
    (ht : eval (.Call (.Attribute o m apos) (e :: es) [] pos) X.env = (do
      let ov ← eval o X.env
      standAt apos.atName
      let (f, first) ← holding [ov] (getMethod ov m pl)
      callWith pos f first (backTo pos (starEach (e :: es) X.env)) (backToKw pos (keywordEach [] X.env))) := by rfl) :
    PE X (.Call (.Attribute o m apos) (e :: es) [] pos) (tMethF C m sp ta t) := by
  obtain ⟨f, fd, F, hm, hb⟩ := G
  refine ⟨fun pins s σ H Q I hw => ?_⟩
  refine (pe_meth (sp := sp) (E := E0) (pl := pl) he c hm F (hr.mono h) hb .nil pass0 ha hst hpl ht).run pins s σ H Q I ?_
  have q : ta σ H fun x H1 => ∃ a dx fs, x = .ref a ∧ H1 a = some (.ins C dx fs) ∧ fs.lookup m = none ∧ t σ H1 fun vs H2 => sp (x :: vs) H2 Q E0 := hw
  show ta σ H fun x H1 => ∃ a dx fs, x = .ref a ∧ H1 a = some (.ins C dx fs) ∧ fs.lookup m = none ∧ t σ H1 fun vs H2 => sp (x :: (vs ++ [])) H2 Q E0
  simpa only [List.append_nil] using q
theorem pe_mfn0 {pl : Sem Bool} (G : MFn X.prog X.w X.K X.mg X.base k C m ps sp) (c : Cls X.K C) (hr : Room j X.A) (he : PE X o ta) (h : k ≤ j := by decide)
    (ht : eval (.Call (.Attribute o m apos) [] [] pos) X.env = (do
      let ov ← eval o X.env
      standAt apos.atName
      let (f, first) ← holding [ov] (getMethod ov m pl)
      callWith pos f first (backTo pos (starEach [] X.env)) (backToKw pos (keywordEach [] X.env))) := by rfl) :
    PE X (.Call (.Attribute o m apos) [] [] pos) (tMethF C m sp ta tNil) := by
  obtain ⟨f, fd, F, hm, hb⟩ := G
  refine ⟨fun pins s σ H Q I hw => ?_⟩
  exact (pe_meth0 (sp := sp) (E := E0) (pl := pl) he c hm F (hr.mono h) hb .nil pass0 ht).run pins s σ H Q I hw
/-- C(..), the defaults' values dvs behind the given ones -/
def tMakeF (C : Addr) (sp : Sp) (dvs : List V) (t : TA) : TE := fun σ H Q => t σ H fun vs H1 => ∀ x dx, H1 x = none → H1 dx = none → dx ≠ x →
  sp (.ref x :: (vs ++ dvs)) (upd (upd H1 dx (.own x)) x (.ins C dx [])) (fun v H2 => v = .non ∧ Q (.ref x) H2) E0
theorem pe_mk (G : CFn X.prog X.w X.K X.mg X.base k C x ps dvs sp) (hr : Room j X.A) (ha : PA X (e :: es) t) (h : k + 1 ≤ j := by decide) (hg : Gl X x := by rfl)
    (hdb : (x == ("__debug__" : Str)) = false := by decide)
    (hst : starEach (e :: es) X.env = (false, eval e X.env) :: starEach es X.env := by rfl) (hpl : (backTo pos (starEach es X.env)).any (·.1) = false := by rfl) :
    PE X (.Call (.Name x p) (e :: es) [] pos) (tMakeF C sp dvs t) := by
  obtain ⟨f, fd, ds, F, M, hm, hb, hd⟩ := G
  refine ⟨fun pins s σ H Q I hw => ?_⟩
  exact (pe_make (sp := sp) (E := E0) M F (hr.mono h) hg hm hb hd pass0 ha hdb hst hpl).run pins s σ H Q I hw
end
/-! ### rules with the written part told (blocks) -/
section
variable {X : Cx} (K : PySem.W.Frag)
theorem ixT (h : X.K = K := by rfl) : IxR X (rIxT K) := h ▸ ix_tup
theorem ixL (h : X.K = K := by rfl) : IxR X (rIxL K) := h ▸ ix_list
theorem slL (h : X.K = K := by rfl) : SlR X (rSlL K) := h ▸ sl_list
theorem slT (h : X.K = K := by rfl) : SlR X (rSlT K) := h ▸ sl_tup
def rLen : List V → Hp → VK → Prop := fun xs H Q => ∃ p ys, xs = [.ref p] ∧ (SqL K H p ys ∨ SqT K H p ys) ∧ Q (.int ys.length) H
theorem cLen (h : X.K = K := by rfl) : CallR X (.builtin "len") (rLen K) := h ▸ call_len_seq
theorem cIsi (h : X.K = K := by rfl) : CallR X (.builtin "isinstance") (rIsi K) := h ▸ call_isi
theorem cAll (hc : X.calm = true) (h : X.K = K := by rfl) : CallR X (.builtin "all") (rAll K) := h ▸ cr_all hc
theorem cAny (hc : X.calm = true) (h : X.K = K := by rfl) : CallR X (.builtin "any") (rAny K) := h ▸ cr_any hc
theorem cSum (hc : X.calm = true) (h : X.K = K := by rfl) : CallR X (.builtin "sum") (rSum K) := h ▸ cr_sum hc
def rList : List V → Hp → VK → Prop := fun xs H Q => ∃ p ys, xs = [.ref p] ∧ (SqL K H p ys ∨ SqT K H p ys) ∧ ∀ l, H l = none → Q (.ref l) (L2.upd H l (.lst ys))
theorem cList (h : X.K = K := by rfl) : CallR X (.type "list") (rList K) := h ▸ call_list_of
def rTuple : List V → Hp → VK → Prop := fun xs H Q => ∃ p ys, xs = [.ref p] ∧ ((SqL K H p ys ∧ ∀ l, H l = none → Q (.ref l) (L2.upd H l (.tup ys))) ∨ (SqT K H p ys ∧ Q (.ref p) H))
theorem cTuple (h : X.K = K := by rfl) : CallR X (.type "tuple") (rTuple K) := h ▸ call_tuple_of
theorem oCatT (h : X.K = K := by rfl) : OpR X (binaryOp .Add) (rCatT K) := h ▸ op_catT
theorem oEqD (hu : X.A.units + 64 < cLine) (h : X.K = K := by rfl) : OpR X (compareOp .Eq) (rEqD K) := h ▸ op_eqD hu
theorem oNeD (hu : X.A.units + 64 < cLine) (h : X.K = K := by rfl) : OpR X (compareOp .NotEq) (rNeD K) := h ▸ op_neD hu
theorem oIn (h : X.K = K := by rfl) : OpR X (compareOp .In) (rIn K false) := h ▸ op_in_seq
theorem oNotIn (h : X.K = K := by rfl) : OpR X (compareOp .NotIn) (rIn K true) := h ▸ op_notIn_seq
theorem pe_fldK {e : Expr} {ta : TE} {f : Str} {pos : Pos} (he : PE X e ta) (hb : attributeBase e f X.env (eval e X.env) = eval e X.env := by rfl) (h : X.K = K := by rfl) : PE X (.Attribute e f pos) (tFld K ta f) := h ▸ pe_fld he hb
theorem piL {tg l : Expr} {tl : TE} (hl : PE X l tl) (h : X.K = K := by rfl) : PI X tg l (iList K tl) := h ▸ pi_list hl
theorem piT {tg l : Expr} {tl : TE} (hl : PE X l tl) (h : X.K = K := by rfl) : PI X tg l (iTup K tl) := h ▸ pi_tup hl
end
/-! ### what the top holds -/
structure Txt (K : PySem.W.Frag) (mg : Str → Option Value) (aN aO : Addr) (tL tM tP : Tok) : Prop where
  babs : mg "abs" = none
  bisinstance : mg "isinstance" = none
  btuple : mg "tuple" = none
  bint : mg "int" = none
  bbool : mg "bool" = none
  blist : mg "list" = none
  blen : mg "len" = none
  ball : mg "all" = none
  bany : mg "any" = none
  brange : mg "range" = none
  bzip : mg "zip" = none
  benumerate : mg "enumerate" = none
  bsum : mg "sum" = none
  bmax : mg "max" = none
  bmin : mg "min" = none
  bsorted : mg "sorted" = none
  bset : mg "set" = none
  bdict : mg "dict" = none
  mNOUGHT : mg "NOUGHT" = some (.ref aN)
  mONE : mg "ONE" = some (.ref aO)
  kNOUGHT : ∀ H, SqT K H aN [.int 0, .int 1]
  kONE : ∀ H, SqT K H aO [.int 1, .int 1]
  mLEFT_WALL : mg "LEFT_WALL" = some (.int (-1) tL)
  mMOST_LENGTH : mg "MOST_LENGTH" = some (.int 1000 tM)
  mMOST_PROPS : mg "MOST_PROPS" = some (.int 12 tP)
/-! ### heaps that grow -/
theorem _root_.L2.Same.new {H : Hp} {p : Addr} {o : HO} (h : H p = none) : Same H (upd H p o) := fun b u e => by
  rw [upd_ne (ne_of_none e h)]
  exact e
theorem _root_.L2.Same.news {H H' : Hp} {p : Addr} {o : HO} (s : Same H H') (h : H' p = none) : Same H (upd H' p o) := s.trans (Same.new h)
/-- what is not known to H may change -/
theorem _root_.L2.Same.mut {H H' : Hp} {p : Addr} {o : HO} (s : Same H H') (h : H p = none) : Same H (upd H' p o) := fun b u e => by
  rw [upd_ne (ne_of_none e h)]
  exact s b u e
theorem _root_.L2.Same.rd {H H' : Hp} {a : Addr} {u : HO} (e : Same H H') (h : Rd H a u) : Rd H' a u := by
  rcases h with h | ⟨o, h⟩
  · exact .inl (e _ _ h)
  · exact .inr ⟨o, e _ _ h⟩
theorem _root_.L2.Same.sqT {K : PySem.W.Frag} {H H' : Hp} {a : Addr} {xs : List V} (e : Same H H') (h : SqT K H a xs) : SqT K H' a xs := by
  rcases h with h | h
  · exact .inl (e.rd h)
  · exact .inr h
/-! ### tuples stay, whatever else changes -/
structure Tu (H H' : Hp) : Prop where
  t : ∀ b xs, H b = some (.tup xs) → H' b = some (.tup xs)
  f : ∀ b o xs, H b = some (.frz o (.tup xs)) → H' b = some (.frz o (.tup xs))
theorem Tu.refl (H : Hp) : Tu H H := ⟨fun _ _ h => h, fun _ _ _ h => h⟩
theorem Tu.trans {H H1 H2 : Hp} (a : Tu H H1) (b : Tu H1 H2) : Tu H H2 := ⟨fun c xs h => b.t c xs (a.t c xs h), fun c o xs h => b.f c o xs (a.f c o xs h)⟩
theorem _root_.L2.Same.tu {H H' : Hp} (s : Same H H') : Tu H H' := ⟨fun b xs h => s b _ h, fun b o xs h => s b _ h⟩
/-- no tuple, bare or locked -/
def noT : HO → Prop
  | .tup _ => False
  | .frz _ (.tup _) => False
  | _ => True
theorem Tu.upd {H : Hp} {p : Addr} {o u : HO} (h : H p = some u) (n : noT u) : Tu H (upd H p o) := by
  refine ⟨fun b xs e => ?_, fun b q xs e => ?_⟩
  · have hb : b ≠ p := fun z => by
      rw [z, h] at e
      cases e
      exact n
    rw [upd_ne hb]
    exact e
  · have hb : b ≠ p := fun z => by
      rw [z, h] at e
      cases e
      exact n
    rw [upd_ne hb]
    exact e
theorem Tu.new {H : Hp} {p : Addr} {o : HO} (h : H p = none) : Tu H (L2.upd H p o) := (Same.new h).tu
theorem Tu.sqT {K : PySem.W.Frag} {H H' : Hp} {a : Addr} {xs : List V} (e : Tu H H') (h : SqT K H a xs) : SqT K H' a xs := by
  rcases h with (h | ⟨o, h⟩) | h
  · exact .inl (.inl (e.t _ _ h))
  · exact .inl (.inr ⟨o, e.f _ _ _ h⟩)
  · exact .inr h
/-! ### a fraction in the heap -/
def Fr (K : PySem.W.Frag) (H : Hp) (v : V) (q : Rat) : Prop := ∃ p, v = .ref p ∧ SqT K H p [.int q.num, .int (q.den : Int)]
/-- .. one that is tracked -/
def FrN (H : Hp) (v : V) (q : Rat) : Prop := ∃ p, v = .ref p ∧ H p = some (.tup [.int q.num, .int (q.den : Int)])
theorem FrN.fr {K : PySem.W.Frag} {H : Hp} {v : V} {q : Rat} (h : FrN H v q) : Fr K H v q := by
  obtain ⟨p, e, h⟩ := h
  exact ⟨p, e, SqT.of h⟩
theorem Fr.mono {K : PySem.W.Frag} {H H' : Hp} {v : V} {q : Rat} (s : Tu H H') (h : Fr K H v q) : Fr K H' v q := by
  obtain ⟨p, e, h⟩ := h
  exact ⟨p, e, s.sqT h⟩
theorem FrN.mono {H H' : Hp} {v : V} {q : Rat} (s : Tu H H') (h : FrN H v q) : FrN H' v q := by
  obtain ⟨p, e, h⟩ := h
  exact ⟨p, e, s.t _ _ h⟩
/-! ### sizes -/
theorem mulW {i j : Int} {a b : Nat} (ha : i.natAbs < 2 ^ a) (hb : j.natAbs < 2 ^ b) (h : a + b ≤ 100000) : CMulW i j :=
  wide_mul (a := a + 1) (b := b + 1) (Nat.lt_of_lt_of_le ha (two_le (Nat.le_succ _))) (Nat.lt_of_lt_of_le hb (two_le (Nat.le_succ _))) (Nat.succ_pos _) (Nat.succ_pos _) (by omega)
theorem divW {i j : Int} {b : Nat} (h : 0 < j) (hb : j.natAbs < 2 ^ b) (h9 : b ≤ 8999) : CDivW i j :=
  wide_div (b := b + 1) h (Nat.lt_of_lt_of_le hb (two_le (Nat.le_succ _))) (Nat.succ_pos _) (by omega)
end PF
end
section
set_option maxHeartbeats 4000000
namespace PF
open PySem L2
def spDivisor : Sp := fun vs H Q _ => ∃ a b : Int, vs = [.int a, .int b] ∧ 0 ≤ a ∧ 0 < b ∧ Q (.int (Int.gcd a b : Nat)) H
def spCut : Sp := fun vs H Q _ => ∃ t b : Int, vs = [.int t, .int b] ∧ 0 < b ∧ b.natAbs < 2 ^ 8999 ∧ ∀ p, H p = none → Q (.ref p) (upd H p (.tup [.int (Rat.divInt t b).num, .int ((Rat.divInt t b).den : Int)]))
section
variable {P : Program} {w : World} {K : PySem.W.Frag} {mg : Str → Option Value} {base : Heap} {aN aO : Addr} {tL tM tP : Tok}
abbrev s_divisor : Stmt := topS 12
abbrev n_divisor : List Str := ["one", "other"]
theorem sc_divisor : FnScope n_divisor ["one", "other"] (defScope s_divisor) := ⟨rfl, rfl, rfl, by decide +kernel, rfl, by decide +kernel, by decide +kernel⟩
theorem ok_divisor {f : Addr} {fd : FuncData} (F : Fun K "divisor" "divisor" s_divisor f fd) (T : Txt K mg aN aO tL tM tP) : FnOk P w K mg base CX0 1 f fd ["one", "other"] spDivisor := by
  have sc := sc_divisor
  refine F.ok sc (fun vs H Q E h => ?_) (fun cdv A outer s H vs Q E hr h => ?_)
  · obtain ⟨a, b, rfl, _⟩ := h
    rfl
  · obtain ⟨a, b, rfl, ha, hb, k⟩ := h
    refine ⟨_, (pss_cons (ps_while PassesOwn.never (pt_cmpR op_ne (pv 1) pe_int (nomark _))
 (pss_one (ps_par (i := 0) (j := 1) (by rfl) sc.nd rfl rfl (by decide) rfl rfl (pa_cons (pv 1) (pa_cons (pe_op op_mod (pv 0) (pv 1)) pa_nil)) (by rfl))))
 (pss_one (ps_ret (pv 0)))), ?_⟩
    refine ⟨fun m σ H' => ∃ x y : Int, σ = [some (.int x), some (.int y)] ∧ H' = H ∧ 0 ≤ x ∧ 0 ≤ y ∧ Int.gcd x y = Int.gcd a b ∧ m = y.toNat, ⟨_, a, b, rfl, rfl, ha, Int.le_of_lt hb, rfl, rfl⟩, ?_⟩
    rintro m σ H' ⟨x, y, rfl, rfl, hx, hy, hg, rfl⟩
    refine ⟨_, rfl, rfl, _, rfl, ?_⟩
    by_cases hy0 : y = 0
    · subst hy0
      refine iteF ?_
      refine ⟨_, rfl, ?_⟩
      rw [Int.gcd_zero_right] at hg
      have e : x = ((Int.gcd a b : Nat) : Int) := by omega
      rw [e]
      exact k
    · have e : (!decide (V.int y = V.int 0)) = true := by simpa using hy0
      refine ifT e ?_
      refine ⟨_, fun σ' H' h => h, ?_⟩
      have hy1 : 0 < y := by omega
      refine ⟨_, rfl, _, rfl, _, rfl, _, _, rfl, rfl, hy1, _, _, rfl, ?_⟩
      refine ⟨_, ?_, y, x % y, rfl, rfl, hy, Int.emod_nonneg _ hy0, (gcd_step hy1).trans hg, rfl⟩
      have := Int.emod_lt_of_pos x hy1
      have := Int.emod_nonneg x hy0
      omega
end
section
variable {P : Program} {w : World} {K : PySem.W.Frag} {mg : Str → Option Value} {base : Heap} {aN aO : Addr} {tL tM tP : Tok}
abbrev s_cut : Stmt := topS 13
abbrev n_cut : List Str := ["top", "bottom", "common"]
theorem sc_cut : FnScope n_cut ["top", "bottom"] (defScope s_cut) := ⟨rfl, rfl, rfl, by decide +kernel, rfl, by decide +kernel, by decide +kernel⟩
theorem ok_cut {f : Addr} {fd : FuncData} (F : Fun K "cut" "cut" s_cut f fd) (T : Txt K mg aN aO tL tM tP) (G_divisor : Fn P w K mg base 1 "divisor" ["one", "other"] spDivisor) : FnOk P w K mg base CX0 2 f fd ["top", "bottom"] spCut := by
  have sc := sc_cut
  refine F.ok sc (fun vs H Q E h => ?_) (fun cdv A outer s H vs Q E hr h => ?_)
  · obtain ⟨a, b, rfl, _⟩ := h
    rfl
  · obtain ⟨t, b, rfl, hb, hz, k⟩ := h
    refine ⟨_, (pss_cons (ps_set (i := 2) sc.nd rfl (Or.inl rfl) (pe_fn G_divisor hr (pa_cons (pe_callB call_abs (by rfl) T.babs (by decide +kernel) (pa_cons (pv 0) pa_nil)) (pa_cons (pv 1) pa_nil))))
 (pss_one (ps_ret (pe_tup (pa_cons (pe_op op_fdivW (pv 0) (pv 2)) (pa_cons (pe_op op_fdivW (pv 1) (pv 2)) pa_nil)))))), ?_⟩
    have e1 : Int.gcd (if t < 0 then -t else t) b = Int.gcd t b := by
      split
      · exact Int.neg_gcd
      · rfl
    refine ⟨_, rfl, _, rfl, _, rfl, _, _, rfl, by split <;> omega, hb, ?_⟩
    rw [e1]
    have g0 : 0 < Int.gcd t b := Int.gcd_pos_of_ne_zero_right _ (by omega)
    have gl : Int.gcd t b ≤ b.natAbs := Nat.le_of_dvd (by omega) (Int.gcd_dvd_natAbs_right t b)
    have gz : ((Int.gcd t b : Nat) : Int).natAbs < 2 ^ 8999 := Nat.lt_of_le_of_lt (by omega) hz
    have cg : CDivW t (Int.gcd t b : Nat) := divW (by omega) gz (Nat.le_refl _)
    have cg2 : CDivW b (Int.gcd t b : Nat) := divW (by omega) gz (Nat.le_refl _)
    refine ⟨_, rfl, _, rfl, _, _, rfl, rfl, cg, _, rfl, _, rfl, _, _, rfl, rfl, cg2, (by show 2 ≤ sizeLine; decide), fun p hp => ?_⟩
    have q := k p hp
    rw [← cut_num hb, ← cut_den hb] at q
    exact q
end
end PF
end
section
set_option maxHeartbeats 4000000
namespace PF
open PySem L2
abbrev frO (q : Rat) : HO := .tup [.int q.num, .int (q.den : Int)]
/-- a new fraction is handed back -/
def RetQ (q : Rat) (H : Hp) (Q : VK) : Prop := ∀ (H' : Hp) (v : V), Same H H' → FrN H' v q → Q v H'
theorem RetQ.go {q : Rat} {H H' : Hp} {Q : VK} (k : RetQ q H Q) (s : Same H H') {p : Addr} (hp : H' p = none) {o : HO} (e : o = frO q) : Q (.ref p) (upd H' p o) := by
  subst e
  exact k _ _ (s.news hp) ⟨p, rfl, upd_same⟩
/-- two fractions in, one out -/
def sp2 (K : PySem.W.Frag) (f : Rat → Rat → Rat) (C : Rat → Rat → Prop) : Sp := fun vs H Q _ => ∃ (u v : V) (a b : Rat) (n m : Nat), vs = [u, v] ∧ Fr K H u a ∧ Fr K H v b ∧ Bd n a ∧ Bd m b ∧ n + m ≤ 8998 ∧ C a b ∧ RetQ (f a b) H Q
def spBelow (K : PySem.W.Frag) : Sp := fun vs H Q _ => ∃ (u v : V) (a b : Rat) (n m : Nat), vs = [u, v] ∧ Fr K H u a ∧ Fr K H v b ∧ Bd n a ∧ Bd m b ∧ n + m ≤ 8998 ∧ Q (.bl (decide (a < b))) H
def spWhole : Sp := fun vs H Q _ => ∃ i : Int, vs = [.int i] ∧ RetQ (i : Rat) H Q
theorem p8999 {x y n : Nat} (h : x < 2 ^ n) (k : n ≤ y) : x < 2 ^ y := Nat.lt_of_lt_of_le h (two_le k)
section
variable {P : Program} {w : World} {K : PySem.W.Frag} {mg : Str → Option Value} {base : Heap} {aN aO : Addr} {tL tM tP : Tok}
abbrev s_law_cut : Stmt := topS 55
abbrev n_law_cut : List Str := ["_law_top", "_law_bottom", "_law_one", "_law_other"]
theorem sc_law_cut : FnScope n_law_cut ["_law_top", "_law_bottom"] (defScope s_law_cut) := ⟨rfl, rfl, rfl, by decide +kernel, rfl, by decide +kernel, by decide +kernel⟩
theorem ok_law_cut {f : Addr} {fd : FuncData} (F : Fun K "_law_cut" "_law_cut" s_law_cut f fd) (T : Txt K mg aN aO tL tM tP)  : FnOk P w K mg base CX0 1 f fd ["_law_top", "_law_bottom"] spCut := by
  have sc := sc_law_cut
  refine F.ok sc (fun vs H Q E h => ?_) (fun cdv A outer s H vs Q E hr h => ?_)
  · obtain ⟨a, b, rfl, _⟩ := h
    rfl
  · obtain ⟨t, b, rfl, hb, hz, k⟩ := h
    refine ⟨_, (pss_cons (ps_par (i := 2) (j := 3) (by rfl) sc.nd rfl rfl (by decide) rfl rfl (pa_cons (pe_callB call_abs (by rfl) T.babs (by decide +kernel) (pa_cons (pv 0) pa_nil)) (pa_cons (pv 1) pa_nil)) (by rfl))
 (pss_cons (ps_while PassesOwn.never (pt_cmpR op_gt (pv 3) pe_int (nomark _))
 (pss_one (ps_par (i := 2) (j := 3) (by rfl) sc.nd rfl rfl (by decide) rfl rfl (pa_cons (pv 3) (pa_cons (pe_op op_mod (pe_callTy call_int1 (by rfl) T.bint (by decide +kernel) (pa_cons (pv 2) pa_nil)) (pv 3)) pa_nil)) (by rfl))))
 (pss_one (ps_ret (pe_tup (pa_cons (pe_op op_fdivW (pv 0) (pv 2)) (pa_cons (pe_op op_fdivW (pv 1) (pv 2)) pa_nil))))))), ?_⟩
    refine ⟨_, rfl, _, rfl, _, rfl, _, _, rfl, ?_⟩
    have e1 : Int.gcd (if t < 0 then -t else t) b = Int.gcd t b := by
      split
      · exact Int.neg_gcd
      · rfl
    refine ⟨fun m σ H' => ∃ x y : Int, σ = [some (.int t), some (.int b), some (.int x), some (.int y)] ∧ H' = H ∧ 0 ≤ x ∧ 0 ≤ y ∧ Int.gcd x y = Int.gcd t b ∧ m = y.toNat, ⟨_, _, b, rfl, rfl, by split <;> omega, Int.le_of_lt hb, e1, rfl⟩, ?_⟩
    rintro m σ H' ⟨x, y, rfl, rfl, hx, hy, hg, rfl⟩
    refine ⟨_, rfl, _, _, rfl, rfl, _, rfl, ?_⟩
    refine ifB (fun c => ?_) (fun c => ?_)
    · have hy1 : 0 < y := of_decide_eq_true c
      refine ⟨_, fun σ' H' h => h, ?_⟩
      refine ⟨_, rfl, _, rfl, .inl ⟨_, rfl, _, rfl, _, _, rfl, rfl, hy1, _, _, rfl, ?_⟩⟩
      refine ⟨_, ?_, y, x % y, rfl, rfl, hy, Int.emod_nonneg _ (by omega), (gcd_step hy1).trans hg, rfl⟩
      have := Int.emod_lt_of_pos x hy1
      have := Int.emod_nonneg x (b := y) (by omega)
      omega
    · have hy0 : y = 0 := by
        have := of_decide_eq_false c
        omega
      subst hy0
      rw [Int.gcd_zero_right] at hg
      have e : x = ((Int.gcd t b : Nat) : Int) := by omega
      subst e
      have g0 : 0 < Int.gcd t b := Int.gcd_pos_of_ne_zero_right _ (by omega)
      have gl : Int.gcd t b ≤ b.natAbs := Nat.le_of_dvd (by omega) (Int.gcd_dvd_natAbs_right t b)
      have gz : ((Int.gcd t b : Nat) : Int).natAbs < 2 ^ 8999 := Nat.lt_of_le_of_lt (by omega) hz
      have cg : CDivW t (Int.gcd t b : Nat) := divW (by omega) gz (Nat.le_refl _)
      have cg2 : CDivW b (Int.gcd t b : Nat) := divW (by omega) gz (Nat.le_refl _)
      refine ⟨_, rfl, _, rfl, _, _, rfl, rfl, cg, _, rfl, _, rfl, _, _, rfl, rfl, cg2, (by show 2 ≤ sizeLine; decide), fun p hp => ?_⟩
      have q := k p hp
      rw [← cut_num hb, ← cut_den hb] at q
      exact q
abbrev s_plus : Stmt := topS 16
abbrev n_plus : List Str := ["one", "other"]
theorem sc_plus : FnScope n_plus ["one", "other"] (defScope s_plus) := ⟨rfl, rfl, rfl, by decide +kernel, rfl, by decide +kernel, by decide +kernel⟩
theorem ok_plus {f : Addr} {fd : FuncData} (F : Fun K "plus" "plus" s_plus f fd) (T : Txt K mg aN aO tL tM tP) (G_cut : Fn P w K mg base 2 "cut" ["top", "bottom"] spCut) : FnOk P w K mg base CX0 3 f fd ["one", "other"] (sp2 K (fun a b => a + b) (fun _ _ => True)) := by
  have sc := sc_plus
  refine F.ok sc (fun vs H Q E h => ?_) (fun cdv A outer s H vs Q E hr h => ?_)
  · obtain ⟨u, v, a, b, n, m, rfl, _⟩ := h
    rfl
  · obtain ⟨u, v, a, b, n, m, rfl, ⟨p, rfl, hp⟩, ⟨q, rfl, hq⟩, ha, hb, hs, hC, k⟩ := h
    have dl := Int.mul_pos (den_pos a) (den_pos b)
    have dz : ((a.den : Int) * (b.den : Int)).natAbs < 2 ^ 8999 := p8999 (mul_lt2 (den_lt2 ha) (den_lt2 hb)) (by omega)
    have m1 : CMulW a.num (b.den : Int) := mulW ha.1 (den_lt2 hb) (by omega)
    have m2 : CMulW b.num (a.den : Int) := mulW hb.1 (den_lt2 ha) (by omega)
    have m3 : CMulW (a.den : Int) (b.den : Int) := mulW (den_lt2 ha) (den_lt2 hb) (by omega)
    have m4 : CMulW a.num b.num := mulW ha.1 hb.1 (by omega)
    have m5 : CMulW (a.den : Int) b.num := mulW (den_lt2 ha) hb.1 (by omega)
    refine ⟨_, (pss_one (ps_ret (pe_fn G_cut hr (pa_cons (pe_op op_add (pe_op op_mulW (pe_ix (ixT K) (pv 0) pe_int (fun _ _ => rfl)) (pe_ix (ixT K) (pv 1) pe_int (fun _ _ => rfl))) (pe_op op_mulW (pe_ix (ixT K) (pv 1) pe_int (fun _ _ => rfl)) (pe_ix (ixT K) (pv 0) pe_int (fun _ _ => rfl)))) (pa_cons (pe_op op_mulW (pe_ix (ixT K) (pv 0) pe_int (fun _ _ => rfl)) (pe_ix (ixT K) (pv 1) pe_int (fun _ _ => rfl))) pa_nil))))), ?_⟩
    refine ⟨_, rfl, _, _, _, _, rfl, rfl, hp, rfl, _, rfl, _, _, _, _, rfl, rfl, hq, rfl, _, _, rfl, rfl, m1, _, rfl, _, _, _, _, rfl, rfl, hq, rfl, _, rfl, _, _, _, _, rfl, rfl, hp, rfl, _, _, rfl, rfl, m2, _, _, rfl, rfl, _, rfl, _, _, _, _, rfl, rfl, hp, rfl, _, rfl, _, _, _, _, rfl, rfl, hq, rfl, _, _, rfl, rfl, m3, _, _, rfl, dl, dz, fun r nr => ?_⟩
    rw [plus_eq]
    exact k.go (Same.refl _) nr rfl
abbrev s_less : Stmt := topS 17
abbrev n_less : List Str := ["one", "other"]
theorem sc_less : FnScope n_less ["one", "other"] (defScope s_less) := ⟨rfl, rfl, rfl, by decide +kernel, rfl, by decide +kernel, by decide +kernel⟩
theorem ok_less {f : Addr} {fd : FuncData} (F : Fun K "less" "less" s_less f fd) (T : Txt K mg aN aO tL tM tP) (G_cut : Fn P w K mg base 2 "cut" ["top", "bottom"] spCut) : FnOk P w K mg base CX0 3 f fd ["one", "other"] (sp2 K (fun a b => a - b) (fun _ _ => True)) := by
  have sc := sc_less
  refine F.ok sc (fun vs H Q E h => ?_) (fun cdv A outer s H vs Q E hr h => ?_)
  · obtain ⟨u, v, a, b, n, m, rfl, _⟩ := h
    rfl
  · obtain ⟨u, v, a, b, n, m, rfl, ⟨p, rfl, hp⟩, ⟨q, rfl, hq⟩, ha, hb, hs, hC, k⟩ := h
    have dl := Int.mul_pos (den_pos a) (den_pos b)
    have dz : ((a.den : Int) * (b.den : Int)).natAbs < 2 ^ 8999 := p8999 (mul_lt2 (den_lt2 ha) (den_lt2 hb)) (by omega)
    have m1 : CMulW a.num (b.den : Int) := mulW ha.1 (den_lt2 hb) (by omega)
    have m2 : CMulW b.num (a.den : Int) := mulW hb.1 (den_lt2 ha) (by omega)
    have m3 : CMulW (a.den : Int) (b.den : Int) := mulW (den_lt2 ha) (den_lt2 hb) (by omega)
    have m4 : CMulW a.num b.num := mulW ha.1 hb.1 (by omega)
    have m5 : CMulW (a.den : Int) b.num := mulW (den_lt2 ha) hb.1 (by omega)
    refine ⟨_, (pss_one (ps_ret (pe_fn G_cut hr (pa_cons (pe_op op_sub (pe_op op_mulW (pe_ix (ixT K) (pv 0) pe_int (fun _ _ => rfl)) (pe_ix (ixT K) (pv 1) pe_int (fun _ _ => rfl))) (pe_op op_mulW (pe_ix (ixT K) (pv 1) pe_int (fun _ _ => rfl)) (pe_ix (ixT K) (pv 0) pe_int (fun _ _ => rfl)))) (pa_cons (pe_op op_mulW (pe_ix (ixT K) (pv 0) pe_int (fun _ _ => rfl)) (pe_ix (ixT K) (pv 1) pe_int (fun _ _ => rfl))) pa_nil))))), ?_⟩
    refine ⟨_, rfl, _, _, _, _, rfl, rfl, hp, rfl, _, rfl, _, _, _, _, rfl, rfl, hq, rfl, _, _, rfl, rfl, m1, _, rfl, _, _, _, _, rfl, rfl, hq, rfl, _, rfl, _, _, _, _, rfl, rfl, hp, rfl, _, _, rfl, rfl, m2, _, _, rfl, rfl, _, rfl, _, _, _, _, rfl, rfl, hp, rfl, _, rfl, _, _, _, _, rfl, rfl, hq, rfl, _, _, rfl, rfl, m3, _, _, rfl, dl, dz, fun r nr => ?_⟩
    rw [less_eq]
    exact k.go (Same.refl _) nr rfl
abbrev s_times : Stmt := topS 18
abbrev n_times : List Str := ["one", "other"]
theorem sc_times : FnScope n_times ["one", "other"] (defScope s_times) := ⟨rfl, rfl, rfl, by decide +kernel, rfl, by decide +kernel, by decide +kernel⟩
theorem ok_times {f : Addr} {fd : FuncData} (F : Fun K "times" "times" s_times f fd) (T : Txt K mg aN aO tL tM tP) (G_cut : Fn P w K mg base 2 "cut" ["top", "bottom"] spCut) : FnOk P w K mg base CX0 3 f fd ["one", "other"] (sp2 K (fun a b => a * b) (fun _ _ => True)) := by
  have sc := sc_times
  refine F.ok sc (fun vs H Q E h => ?_) (fun cdv A outer s H vs Q E hr h => ?_)
  · obtain ⟨u, v, a, b, n, m, rfl, _⟩ := h
    rfl
  · obtain ⟨u, v, a, b, n, m, rfl, ⟨p, rfl, hp⟩, ⟨q, rfl, hq⟩, ha, hb, hs, hC, k⟩ := h
    have dl := Int.mul_pos (den_pos a) (den_pos b)
    have dz : ((a.den : Int) * (b.den : Int)).natAbs < 2 ^ 8999 := p8999 (mul_lt2 (den_lt2 ha) (den_lt2 hb)) (by omega)
    have m1 : CMulW a.num (b.den : Int) := mulW ha.1 (den_lt2 hb) (by omega)
    have m2 : CMulW b.num (a.den : Int) := mulW hb.1 (den_lt2 ha) (by omega)
    have m3 : CMulW (a.den : Int) (b.den : Int) := mulW (den_lt2 ha) (den_lt2 hb) (by omega)
    have m4 : CMulW a.num b.num := mulW ha.1 hb.1 (by omega)
    have m5 : CMulW (a.den : Int) b.num := mulW (den_lt2 ha) hb.1 (by omega)
    refine ⟨_, (pss_one (ps_ret (pe_fn G_cut hr (pa_cons (pe_op op_mulW (pe_ix (ixT K) (pv 0) pe_int (fun _ _ => rfl)) (pe_ix (ixT K) (pv 1) pe_int (fun _ _ => rfl))) (pa_cons (pe_op op_mulW (pe_ix (ixT K) (pv 0) pe_int (fun _ _ => rfl)) (pe_ix (ixT K) (pv 1) pe_int (fun _ _ => rfl))) pa_nil))))), ?_⟩
    refine ⟨_, rfl, _, _, _, _, rfl, rfl, hp, rfl, _, rfl, _, _, _, _, rfl, rfl, hq, rfl, _, _, rfl, rfl, m4, _, rfl, _, _, _, _, rfl, rfl, hp, rfl, _, rfl, _, _, _, _, rfl, rfl, hq, rfl, _, _, rfl, rfl, m3, _, _, rfl, dl, dz, fun r nr => ?_⟩
    rw [times_eq]
    exact k.go (Same.refl _) nr rfl
abbrev s_over : Stmt := topS 19
abbrev n_over : List Str := ["one", "other"]
theorem sc_over : FnScope n_over ["one", "other"] (defScope s_over) := ⟨rfl, rfl, rfl, by decide +kernel, rfl, by decide +kernel, by decide +kernel⟩
theorem ok_over {f : Addr} {fd : FuncData} (F : Fun K "over" "over" s_over f fd) (T : Txt K mg aN aO tL tM tP) (G_cut : Fn P w K mg base 2 "cut" ["top", "bottom"] spCut) : FnOk P w K mg base CX0 3 f fd ["one", "other"] (sp2 K (fun a b => a / b) (fun _ b => 0 < b)) := by
  have sc := sc_over
  refine F.ok sc (fun vs H Q E h => ?_) (fun cdv A outer s H vs Q E hr h => ?_)
  · obtain ⟨u, v, a, b, n, m, rfl, _⟩ := h
    rfl
  · obtain ⟨u, v, a, b, n, m, rfl, ⟨p, rfl, hp⟩, ⟨q, rfl, hq⟩, ha, hb, hs, hC, k⟩ := h
    have dl := Int.mul_pos (den_pos a) (den_pos b)
    have dz : ((a.den : Int) * (b.den : Int)).natAbs < 2 ^ 8999 := p8999 (mul_lt2 (den_lt2 ha) (den_lt2 hb)) (by omega)
    have m1 : CMulW a.num (b.den : Int) := mulW ha.1 (den_lt2 hb) (by omega)
    have m2 : CMulW b.num (a.den : Int) := mulW hb.1 (den_lt2 ha) (by omega)
    have m3 : CMulW (a.den : Int) (b.den : Int) := mulW (den_lt2 ha) (den_lt2 hb) (by omega)
    have m4 : CMulW a.num b.num := mulW ha.1 hb.1 (by omega)
    have m5 : CMulW (a.den : Int) b.num := mulW (den_lt2 ha) hb.1 (by omega)
    have bn := num_pos hC
    have dl2 := Int.mul_pos (den_pos a) bn
    have dz2 : ((a.den : Int) * b.num).natAbs < 2 ^ 8999 := p8999 (mul_lt2 (den_lt2 ha) hb.1) (by omega)
    refine ⟨_, (pss_cons (ps_if (pt_cmpR op_lt (pe_ix (ixT K) (pv 1) pe_int (fun _ _ => rfl)) pe_int (nomark _))
 (pss_one (ps_ret (pe_fn G_cut hr (pa_cons (pe_op op_mulW (pe_un un_neg (pe_ix (ixT K) (pv 0) pe_int (fun _ _ => rfl))) (pe_ix (ixT K) (pv 1) pe_int (fun _ _ => rfl))) (pa_cons (pe_op op_mulW (pe_un un_neg (pe_ix (ixT K) (pv 0) pe_int (fun _ _ => rfl))) (pe_ix (ixT K) (pv 1) pe_int (fun _ _ => rfl))) pa_nil)))))
 pss_nil)
 (pss_one (ps_ret (pe_fn G_cut hr (pa_cons (pe_op op_mulW (pe_ix (ixT K) (pv 0) pe_int (fun _ _ => rfl)) (pe_ix (ixT K) (pv 1) pe_int (fun _ _ => rfl))) (pa_cons (pe_op op_mulW (pe_ix (ixT K) (pv 0) pe_int (fun _ _ => rfl)) (pe_ix (ixT K) (pv 1) pe_int (fun _ _ => rfl))) pa_nil)))))), ?_⟩
    refine ⟨_, rfl, _, _, _, _, rfl, rfl, hq, rfl, _, _, rfl, rfl, _, rfl, ?_⟩
    refine ifF (decide_eq_false (by omega)) ?_
    refine ⟨_, rfl, _, _, _, _, rfl, rfl, hp, rfl, _, rfl, _, _, _, _, rfl, rfl, hq, rfl, _, _, rfl, rfl, m1, _, rfl, _, _, _, _, rfl, rfl, hp, rfl, _, rfl, _, _, _, _, rfl, rfl, hq, rfl, _, _, rfl, rfl, m5, _, _, rfl, dl2, dz2, fun r nr => ?_⟩
    rw [over_eq]
    exact k.go (Same.refl _) nr rfl
abbrev s_is_below : Stmt := topS 20
abbrev n_is_below : List Str := ["one", "other"]
theorem sc_is_below : FnScope n_is_below ["one", "other"] (defScope s_is_below) := ⟨rfl, rfl, rfl, by decide +kernel, rfl, by decide +kernel, by decide +kernel⟩
theorem ok_is_below {f : Addr} {fd : FuncData} (F : Fun K "is_below" "is_below" s_is_below f fd) (T : Txt K mg aN aO tL tM tP)  : FnOk P w K mg base CX0 1 f fd ["one", "other"] (spBelow K) := by
  have sc := sc_is_below
  refine F.ok sc (fun vs H Q E h => ?_) (fun cdv A outer s H vs Q E hr h => ?_)
  · obtain ⟨u, v, a, b, n, m, rfl, _⟩ := h
    rfl
  · obtain ⟨u, v, a, b, n, m, rfl, ⟨p, rfl, hp⟩, ⟨q, rfl, hq⟩, ha, hb, hs, k⟩ := h
    have dl := Int.mul_pos (den_pos a) (den_pos b)
    have dz : ((a.den : Int) * (b.den : Int)).natAbs < 2 ^ 8999 := p8999 (mul_lt2 (den_lt2 ha) (den_lt2 hb)) (by omega)
    have m1 : CMulW a.num (b.den : Int) := mulW ha.1 (den_lt2 hb) (by omega)
    have m2 : CMulW b.num (a.den : Int) := mulW hb.1 (den_lt2 ha) (by omega)
    have m3 : CMulW (a.den : Int) (b.den : Int) := mulW (den_lt2 ha) (den_lt2 hb) (by omega)
    have m4 : CMulW a.num b.num := mulW ha.1 hb.1 (by omega)
    have m5 : CMulW (a.den : Int) b.num := mulW (den_lt2 ha) hb.1 (by omega)
    refine ⟨_, (pss_one (ps_ret (pe_cmpR op_lt (pe_op op_mulW (pe_ix (ixT K) (pv 0) pe_int (fun _ _ => rfl)) (pe_ix (ixT K) (pv 1) pe_int (fun _ _ => rfl))) (pe_op op_mulW (pe_ix (ixT K) (pv 1) pe_int (fun _ _ => rfl)) (pe_ix (ixT K) (pv 0) pe_int (fun _ _ => rfl))) (nomark _)))), ?_⟩
    refine ⟨_, rfl, _, _, _, _, rfl, rfl, hp, rfl, _, rfl, _, _, _, _, rfl, rfl, hq, rfl, _, _, rfl, rfl, m1, _, rfl, _, _, _, _, rfl, rfl, hq, rfl, _, rfl, _, _, _, _, rfl, rfl, hp, rfl, _, _, rfl, rfl, m2, _, _, rfl, rfl, ?_⟩
    have e := below_iff a b
    show Q (V.bl (decide (a.num * (b.den : Int) < b.num * (a.den : Int)))) _
    rw [e]
    exact k
abbrev s_law_plus : Stmt := topS 56
abbrev n_law_plus : List Str := ["_law_one", "_law_other"]
theorem sc_law_plus : FnScope n_law_plus ["_law_one", "_law_other"] (defScope s_law_plus) := ⟨rfl, rfl, rfl, by decide +kernel, rfl, by decide +kernel, by decide +kernel⟩
theorem ok_law_plus {f : Addr} {fd : FuncData} (F : Fun K "_law_plus" "_law_plus" s_law_plus f fd) (T : Txt K mg aN aO tL tM tP) (G_cut : Fn P w K mg base 1 "_law_cut" ["_law_top", "_law_bottom"] spCut) : FnOk P w K mg base CX0 2 f fd ["_law_one", "_law_other"] (sp2 K (fun a b => a + b) (fun _ _ => True)) := by
  have sc := sc_law_plus
  refine F.ok sc (fun vs H Q E h => ?_) (fun cdv A outer s H vs Q E hr h => ?_)
  · obtain ⟨u, v, a, b, n, m, rfl, _⟩ := h
    rfl
  · obtain ⟨u, v, a, b, n, m, rfl, ⟨p, rfl, hp⟩, ⟨q, rfl, hq⟩, ha, hb, hs, hC, k⟩ := h
    have dl := Int.mul_pos (den_pos a) (den_pos b)
    have dz : ((a.den : Int) * (b.den : Int)).natAbs < 2 ^ 8999 := p8999 (mul_lt2 (den_lt2 ha) (den_lt2 hb)) (by omega)
    have m1 : CMulW a.num (b.den : Int) := mulW ha.1 (den_lt2 hb) (by omega)
    have m2 : CMulW b.num (a.den : Int) := mulW hb.1 (den_lt2 ha) (by omega)
    have m3 : CMulW (a.den : Int) (b.den : Int) := mulW (den_lt2 ha) (den_lt2 hb) (by omega)
    have m4 : CMulW a.num b.num := mulW ha.1 hb.1 (by omega)
    have m5 : CMulW (a.den : Int) b.num := mulW (den_lt2 ha) hb.1 (by omega)
    refine ⟨_, (pss_one (ps_ret (pe_fn G_cut hr (pa_cons (pe_op op_add (pe_op op_mulW (pe_ix (ixT K) (pv 0) pe_int (fun _ _ => rfl)) (pe_ix (ixT K) (pv 1) pe_int (fun _ _ => rfl))) (pe_op op_mulW (pe_ix (ixT K) (pv 1) pe_int (fun _ _ => rfl)) (pe_ix (ixT K) (pv 0) pe_int (fun _ _ => rfl)))) (pa_cons (pe_op op_mulW (pe_ix (ixT K) (pv 0) pe_int (fun _ _ => rfl)) (pe_ix (ixT K) (pv 1) pe_int (fun _ _ => rfl))) pa_nil))))), ?_⟩
    refine ⟨_, rfl, _, _, _, _, rfl, rfl, hp, rfl, _, rfl, _, _, _, _, rfl, rfl, hq, rfl, _, _, rfl, rfl, m1, _, rfl, _, _, _, _, rfl, rfl, hq, rfl, _, rfl, _, _, _, _, rfl, rfl, hp, rfl, _, _, rfl, rfl, m2, _, _, rfl, rfl, _, rfl, _, _, _, _, rfl, rfl, hp, rfl, _, rfl, _, _, _, _, rfl, rfl, hq, rfl, _, _, rfl, rfl, m3, _, _, rfl, dl, dz, fun r nr => ?_⟩
    rw [plus_eq]
    exact k.go (Same.refl _) nr rfl
abbrev s_law_minus : Stmt := topS 57
abbrev n_law_minus : List Str := ["_law_one", "_law_other"]
theorem sc_law_minus : FnScope n_law_minus ["_law_one", "_law_other"] (defScope s_law_minus) := ⟨rfl, rfl, rfl, by decide +kernel, rfl, by decide +kernel, by decide +kernel⟩
theorem ok_law_minus {f : Addr} {fd : FuncData} (F : Fun K "_law_minus" "_law_minus" s_law_minus f fd) (T : Txt K mg aN aO tL tM tP) (G_cut : Fn P w K mg base 1 "_law_cut" ["_law_top", "_law_bottom"] spCut) : FnOk P w K mg base CX0 2 f fd ["_law_one", "_law_other"] (sp2 K (fun a b => a - b) (fun _ _ => True)) := by
  have sc := sc_law_minus
  refine F.ok sc (fun vs H Q E h => ?_) (fun cdv A outer s H vs Q E hr h => ?_)
  · obtain ⟨u, v, a, b, n, m, rfl, _⟩ := h
    rfl
  · obtain ⟨u, v, a, b, n, m, rfl, ⟨p, rfl, hp⟩, ⟨q, rfl, hq⟩, ha, hb, hs, hC, k⟩ := h
    have dl := Int.mul_pos (den_pos a) (den_pos b)
    have dz : ((a.den : Int) * (b.den : Int)).natAbs < 2 ^ 8999 := p8999 (mul_lt2 (den_lt2 ha) (den_lt2 hb)) (by omega)
    have m1 : CMulW a.num (b.den : Int) := mulW ha.1 (den_lt2 hb) (by omega)
    have m2 : CMulW b.num (a.den : Int) := mulW hb.1 (den_lt2 ha) (by omega)
    have m3 : CMulW (a.den : Int) (b.den : Int) := mulW (den_lt2 ha) (den_lt2 hb) (by omega)
    have m4 : CMulW a.num b.num := mulW ha.1 hb.1 (by omega)
    have m5 : CMulW (a.den : Int) b.num := mulW (den_lt2 ha) hb.1 (by omega)
    refine ⟨_, (pss_one (ps_ret (pe_fn G_cut hr (pa_cons (pe_op op_sub (pe_op op_mulW (pe_ix (ixT K) (pv 0) pe_int (fun _ _ => rfl)) (pe_ix (ixT K) (pv 1) pe_int (fun _ _ => rfl))) (pe_op op_mulW (pe_ix (ixT K) (pv 1) pe_int (fun _ _ => rfl)) (pe_ix (ixT K) (pv 0) pe_int (fun _ _ => rfl)))) (pa_cons (pe_op op_mulW (pe_ix (ixT K) (pv 0) pe_int (fun _ _ => rfl)) (pe_ix (ixT K) (pv 1) pe_int (fun _ _ => rfl))) pa_nil))))), ?_⟩
    refine ⟨_, rfl, _, _, _, _, rfl, rfl, hp, rfl, _, rfl, _, _, _, _, rfl, rfl, hq, rfl, _, _, rfl, rfl, m1, _, rfl, _, _, _, _, rfl, rfl, hq, rfl, _, rfl, _, _, _, _, rfl, rfl, hp, rfl, _, _, rfl, rfl, m2, _, _, rfl, rfl, _, rfl, _, _, _, _, rfl, rfl, hp, rfl, _, rfl, _, _, _, _, rfl, rfl, hq, rfl, _, _, rfl, rfl, m3, _, _, rfl, dl, dz, fun r nr => ?_⟩
    rw [less_eq]
    exact k.go (Same.refl _) nr rfl
abbrev s_law_by : Stmt := topS 58
abbrev n_law_by : List Str := ["_law_one", "_law_other"]
theorem sc_law_by : FnScope n_law_by ["_law_one", "_law_other"] (defScope s_law_by) := ⟨rfl, rfl, rfl, by decide +kernel, rfl, by decide +kernel, by decide +kernel⟩
theorem ok_law_by {f : Addr} {fd : FuncData} (F : Fun K "_law_by" "_law_by" s_law_by f fd) (T : Txt K mg aN aO tL tM tP) (G_cut : Fn P w K mg base 1 "_law_cut" ["_law_top", "_law_bottom"] spCut) : FnOk P w K mg base CX0 2 f fd ["_law_one", "_law_other"] (sp2 K (fun a b => a * b) (fun _ _ => True)) := by
  have sc := sc_law_by
  refine F.ok sc (fun vs H Q E h => ?_) (fun cdv A outer s H vs Q E hr h => ?_)
  · obtain ⟨u, v, a, b, n, m, rfl, _⟩ := h
    rfl
  · obtain ⟨u, v, a, b, n, m, rfl, ⟨p, rfl, hp⟩, ⟨q, rfl, hq⟩, ha, hb, hs, hC, k⟩ := h
    have dl := Int.mul_pos (den_pos a) (den_pos b)
    have dz : ((a.den : Int) * (b.den : Int)).natAbs < 2 ^ 8999 := p8999 (mul_lt2 (den_lt2 ha) (den_lt2 hb)) (by omega)
    have m1 : CMulW a.num (b.den : Int) := mulW ha.1 (den_lt2 hb) (by omega)
    have m2 : CMulW b.num (a.den : Int) := mulW hb.1 (den_lt2 ha) (by omega)
    have m3 : CMulW (a.den : Int) (b.den : Int) := mulW (den_lt2 ha) (den_lt2 hb) (by omega)
    have m4 : CMulW a.num b.num := mulW ha.1 hb.1 (by omega)
    have m5 : CMulW (a.den : Int) b.num := mulW (den_lt2 ha) hb.1 (by omega)
    refine ⟨_, (pss_one (ps_ret (pe_fn G_cut hr (pa_cons (pe_op op_mulW (pe_ix (ixT K) (pv 0) pe_int (fun _ _ => rfl)) (pe_ix (ixT K) (pv 1) pe_int (fun _ _ => rfl))) (pa_cons (pe_op op_mulW (pe_ix (ixT K) (pv 0) pe_int (fun _ _ => rfl)) (pe_ix (ixT K) (pv 1) pe_int (fun _ _ => rfl))) pa_nil))))), ?_⟩
    refine ⟨_, rfl, _, _, _, _, rfl, rfl, hp, rfl, _, rfl, _, _, _, _, rfl, rfl, hq, rfl, _, _, rfl, rfl, m4, _, rfl, _, _, _, _, rfl, rfl, hp, rfl, _, rfl, _, _, _, _, rfl, rfl, hq, rfl, _, _, rfl, rfl, m3, _, _, rfl, dl, dz, fun r nr => ?_⟩
    rw [times_eq]
    exact k.go (Same.refl _) nr rfl
abbrev s_law_part_of : Stmt := topS 59
abbrev n_law_part_of : List Str := ["_law_one", "_law_other"]
theorem sc_law_part_of : FnScope n_law_part_of ["_law_one", "_law_other"] (defScope s_law_part_of) := ⟨rfl, rfl, rfl, by decide +kernel, rfl, by decide +kernel, by decide +kernel⟩
theorem ok_law_part_of {f : Addr} {fd : FuncData} (F : Fun K "_law_part_of" "_law_part_of" s_law_part_of f fd) (T : Txt K mg aN aO tL tM tP) (G_cut : Fn P w K mg base 1 "_law_cut" ["_law_top", "_law_bottom"] spCut) : FnOk P w K mg base CX0 2 f fd ["_law_one", "_law_other"] (sp2 K (fun a b => a / b) (fun _ b => 0 < b)) := by
  have sc := sc_law_part_of
  refine F.ok sc (fun vs H Q E h => ?_) (fun cdv A outer s H vs Q E hr h => ?_)
  · obtain ⟨u, v, a, b, n, m, rfl, _⟩ := h
    rfl
  · obtain ⟨u, v, a, b, n, m, rfl, ⟨p, rfl, hp⟩, ⟨q, rfl, hq⟩, ha, hb, hs, hC, k⟩ := h
    have dl := Int.mul_pos (den_pos a) (den_pos b)
    have dz : ((a.den : Int) * (b.den : Int)).natAbs < 2 ^ 8999 := p8999 (mul_lt2 (den_lt2 ha) (den_lt2 hb)) (by omega)
    have m1 : CMulW a.num (b.den : Int) := mulW ha.1 (den_lt2 hb) (by omega)
    have m2 : CMulW b.num (a.den : Int) := mulW hb.1 (den_lt2 ha) (by omega)
    have m3 : CMulW (a.den : Int) (b.den : Int) := mulW (den_lt2 ha) (den_lt2 hb) (by omega)
    have m4 : CMulW a.num b.num := mulW ha.1 hb.1 (by omega)
    have m5 : CMulW (a.den : Int) b.num := mulW (den_lt2 ha) hb.1 (by omega)
    have bn := num_pos hC
    have dl2 := Int.mul_pos (den_pos a) bn
    have dz2 : ((a.den : Int) * b.num).natAbs < 2 ^ 8999 := p8999 (mul_lt2 (den_lt2 ha) hb.1) (by omega)
    refine ⟨_, (pss_one (ps_ret (pe_fn G_cut hr (pa_cons (pe_op op_mulW (pe_ix (ixT K) (pv 0) pe_int (fun _ _ => rfl)) (pe_ix (ixT K) (pv 1) pe_int (fun _ _ => rfl))) (pa_cons (pe_op op_mulW (pe_ix (ixT K) (pv 0) pe_int (fun _ _ => rfl)) (pe_ix (ixT K) (pv 1) pe_int (fun _ _ => rfl))) pa_nil))))), ?_⟩
    refine ⟨_, rfl, _, _, _, _, rfl, rfl, hp, rfl, _, rfl, _, _, _, _, rfl, rfl, hq, rfl, _, _, rfl, rfl, m1, _, rfl, _, _, _, _, rfl, rfl, hp, rfl, _, rfl, _, _, _, _, rfl, rfl, hq, rfl, _, _, rfl, rfl, m5, _, _, rfl, dl2, dz2, fun r nr => ?_⟩
    rw [over_eq]
    exact k.go (Same.refl _) nr rfl
abbrev s_law_is_below : Stmt := topS 60
abbrev n_law_is_below : List Str := ["_law_one", "_law_other"]
theorem sc_law_is_below : FnScope n_law_is_below ["_law_one", "_law_other"] (defScope s_law_is_below) := ⟨rfl, rfl, rfl, by decide +kernel, rfl, by decide +kernel, by decide +kernel⟩
theorem ok_law_is_below {f : Addr} {fd : FuncData} (F : Fun K "_law_is_below" "_law_is_below" s_law_is_below f fd) (T : Txt K mg aN aO tL tM tP)  : FnOk P w K mg base CX0 1 f fd ["_law_one", "_law_other"] (spBelow K) := by
  have sc := sc_law_is_below
  refine F.ok sc (fun vs H Q E h => ?_) (fun cdv A outer s H vs Q E hr h => ?_)
  · obtain ⟨u, v, a, b, n, m, rfl, _⟩ := h
    rfl
  · obtain ⟨u, v, a, b, n, m, rfl, ⟨p, rfl, hp⟩, ⟨q, rfl, hq⟩, ha, hb, hs, k⟩ := h
    have dl := Int.mul_pos (den_pos a) (den_pos b)
    have dz : ((a.den : Int) * (b.den : Int)).natAbs < 2 ^ 8999 := p8999 (mul_lt2 (den_lt2 ha) (den_lt2 hb)) (by omega)
    have m1 : CMulW a.num (b.den : Int) := mulW ha.1 (den_lt2 hb) (by omega)
    have m2 : CMulW b.num (a.den : Int) := mulW hb.1 (den_lt2 ha) (by omega)
    have m3 : CMulW (a.den : Int) (b.den : Int) := mulW (den_lt2 ha) (den_lt2 hb) (by omega)
    have m4 : CMulW a.num b.num := mulW ha.1 hb.1 (by omega)
    have m5 : CMulW (a.den : Int) b.num := mulW (den_lt2 ha) hb.1 (by omega)
    refine ⟨_, (pss_one (ps_ret (pe_cmpR op_lt (pe_op op_mulW (pe_ix (ixT K) (pv 0) pe_int (fun _ _ => rfl)) (pe_ix (ixT K) (pv 1) pe_int (fun _ _ => rfl))) (pe_op op_mulW (pe_ix (ixT K) (pv 1) pe_int (fun _ _ => rfl)) (pe_ix (ixT K) (pv 0) pe_int (fun _ _ => rfl))) (nomark _)))), ?_⟩
    refine ⟨_, rfl, _, _, _, _, rfl, rfl, hp, rfl, _, rfl, _, _, _, _, rfl, rfl, hq, rfl, _, _, rfl, rfl, m1, _, rfl, _, _, _, _, rfl, rfl, hq, rfl, _, rfl, _, _, _, _, rfl, rfl, hp, rfl, _, _, rfl, rfl, m2, _, _, rfl, rfl, ?_⟩
    have e := below_iff a b
    show Q (V.bl (decide (a.num * (b.den : Int) < b.num * (a.den : Int)))) _
    rw [e]
    exact k
abbrev s_whole : Stmt := topS 15
abbrev n_whole : List Str := ["number"]
theorem sc_whole : FnScope n_whole ["number"] (defScope s_whole) := ⟨rfl, rfl, rfl, by decide +kernel, rfl, by decide +kernel, by decide +kernel⟩
theorem ok_whole {f : Addr} {fd : FuncData} (F : Fun K "whole" "whole" s_whole f fd) (T : Txt K mg aN aO tL tM tP)  : FnOk P w K mg base CX0 1 f fd ["number"] spWhole := by
  have sc := sc_whole
  refine F.ok sc (fun vs H Q E h => ?_) (fun cdv A outer s H vs Q E hr h => ?_)
  · obtain ⟨i, rfl, _⟩ := h
    rfl
  · obtain ⟨i, rfl, k⟩ := h
    refine ⟨_, (pss_one (ps_ret (pe_tup (pa_cons (pv 0) (pa_cons pe_int pa_nil))))), ?_⟩
    refine ⟨_, rfl, (by show 2 ≤ sizeLine; decide), fun r nr => ?_⟩
    exact k.go (Same.refl _) nr rfl
end
end PF
end
section
set_option maxHeartbeats 4000000
namespace PF
open PySem L2
/-! ### lists of things in the heap -/
theorem pr_mono {α : Type} {R R' : V → α → Prop} {vs : List V} {as : List α} (h : Paired R vs as) (f : ∀ v a, R v a → R' v a) : Paired R' vs as := Paired.mapP h f
theorem pr_len {α : Type} {R : V → α → Prop} {vs : List V} {as : List α} (h : Paired R vs as) : vs.length = as.length := Paired.length h
theorem pr_get {α : Type} {R : V → α → Prop} : ∀ {vs : List V} {as : List α}, Paired R vs as → ∀ {i : Nat} {a : α}, as[i]? = some a → ∃ v, vs[i]? = some v ∧ R v a
  | _, _, .nil, i, a, h => by simp at h
  | _, _, .cons r t, 0, a, h => by
    simp at h
    subst h
    exact ⟨_, rfl, r⟩
  | _, _, .cons r t, i + 1, a, h => by
    obtain ⟨v, e, q⟩ := pr_get t (i := i) (a := a) (by simpa using h)
    exact ⟨v, by simpa using e, q⟩
theorem pr_get' {α : Type} {R : V → α → Prop} : ∀ {vs : List V} {as : List α}, Paired R vs as → ∀ {i : Nat} {v : V}, vs[i]? = some v → ∃ a, as[i]? = some a ∧ R v a
  | _, _, .nil, i, a, h => by simp at h
  | _, _, .cons r t, 0, a, h => by
    simp at h
    subst h
    exact ⟨_, rfl, r⟩
  | _, _, .cons r t, i + 1, a, h => by
    obtain ⟨v, e, q⟩ := pr_get' t (i := i) (v := a) (by simpa using h)
    exact ⟨v, by simpa using e, q⟩
theorem pr_snoc {α : Type} {R : V → α → Prop} {v : V} {a : α} (r : R v a) : ∀ {vs : List V} {as : List α}, Paired R vs as → Paired R (vs ++ [v]) (as ++ [a])
  | _, _, .nil => .cons r .nil
  | _, _, .cons q t => .cons q (pr_snoc r t)
theorem pr_app {α : Type} {R : V → α → Prop} {ws : List V} {bs : List α} (r : Paired R ws bs) : ∀ {vs : List V} {as : List α}, Paired R vs as → Paired R (vs ++ ws) (as ++ bs)
  | _, _, .nil => r
  | _, _, .cons q t => .cons q (pr_app r t)
theorem pr_drop {α : Type} {R : V → α → Prop} : ∀ (n : Nat) {vs : List V} {as : List α}, Paired R vs as → Paired R (vs.drop n) (as.drop n)
  | 0, _, _, h => h
  | n + 1, _, _, .nil => .nil
  | n + 1, _, _, .cons _ t => pr_drop n t
theorem pr_take {α : Type} {R : V → α → Prop} : ∀ (n : Nat) {vs : List V} {as : List α}, Paired R vs as → Paired R (vs.take n) (as.take n)
  | 0, _, _, h => .nil
  | n + 1, _, _, .nil => .nil
  | n + 1, _, _, .cons r t => .cons r (pr_take n t)
theorem pr_ints (L : List Int) : Paired (fun v a => v = V.int a) (L.map V.int) L := by
  induction L with
  | nil => exact .nil
  | cons a r ih => exact .cons rfl ih
theorem ints_pr {vs : List V} {L : List Int} (h : Paired (fun v a => v = V.int a) vs L) : vs = L.map V.int := by
  induction L generalizing vs with
  | nil =>
    cases h
    rfl
  | cons a r ih =>
    cases h with
    | cons e t =>
      subst e
      rw [ih t]
      rfl
theorem bls_pr {vs : List V} {L : List Bool} (h : Paired (fun v a => v = V.bl a) vs L) : vs = L.map V.bl := by
  induction L generalizing vs with
  | nil =>
    cases h
    rfl
  | cons a r ih =>
    cases h with
    | cons e t =>
      subst e
      rw [ih t]
      rfl
theorem szL {n : Nat} (h : n ≤ 100000) : n ≤ sizeLine := Nat.le_trans h (by decide)
theorem szl {n : Nat} (h : n < 100000) : n < sizeLine := Nat.lt_of_lt_of_le h (by decide)
/-! ### comprehensions -/
section
variable {J : It} {n : Nat} {G : Hp → Prop} {Y : Nat → Hp → V → Hp → Prop} {g : TG} {tt : TT} {te : TE} {vs : List Nat} {σ : St} {H1 : Hp} {D : Addr} {Qd : Hp → Prop} {α : Type}
/-- [e for ..]: item i is f i's -/
theorem lc_map (w : L2.Walk J n G Y) (f : Nat → α) (R : Hp → V → α → Prop) (mono : ∀ H H' v a, Tu H H' → R H v a → R H' v a) (nD : H1 D = none) (hn : n ≤ 90000) (hG : ∀ H', Same H1 H' → G H')
    (body : ∀ i x H H', i < n → Same H1 H → Y i H x H' → Same H H' ∧ ∀ Qk : VK, (∀ y H2, Same H' H2 → R H2 y (f i) → Qk y H2) → g x (wipe σ vs) H' fun σ2 H2 => wipe σ2 vs = wipe σ vs ∧ te σ2 H2 Qk)
    (k : ∀ H' ys, Same H1 H' → H' D = some (.lst ys) → Paired (R H') ys ((List.range n).map f) → Qd H') :
    ∃ W : Nat → Nat → Hp → Prop, (∃ m, W 0 m (upd H1 D (.lst []))) ∧ ∀ i m H, W i m H →
      (J.stop i H ∧ Qd H) ∨ (J.go i H ∧ ∃ Nx : Hp → Prop, (∀ H', Nx H' → ∃ m', m' < m ∧ W (i + 1) m' H') ∧ ∀ x H', J.yld i H x H' → g x (wipe σ vs) H' fun σ2 H2 => wipe σ2 vs = wipe σ vs ∧ tYes σ2 H2 fun b H3 =>
        if b = true then te σ2 H3 fun y H4 => ∃ acc, H4 D = some (.lst acc) ∧ acc.length < sizeLine ∧ Nx (upd H4 D (.lst (acc ++ [y]))) else Nx H3) := by
  refine lc_it w (fun i H => i ≤ n ∧ Same H1 H ∧ ∃ ys, H D = some (.lst ys) ∧ Paired (R H) ys ((List.range i).map f)) ⟨Nat.zero_le _, Same.new nD, [], upd_same, .nil⟩ (fun i H _ p => hG H p.2.1) ?_ (fun H p => ?_)
  · rintro i x H H' hi ⟨_, s, ys, hD, hp⟩ y
    obtain ⟨s2, b⟩ := body i x H H' hi s y
    have hl := pr_len hp
    rw [List.length_map, List.length_range] at hl
    refine b (fun y H4 => ∃ acc, H4 D = some (.lst acc) ∧ acc.length < sizeLine ∧ (fun i H => i ≤ n ∧ Same H1 H ∧ ∃ ys, H D = some (.lst ys) ∧ Paired (R H) ys ((List.range i).map f)) (i + 1) (upd H4 D (.lst (acc ++ [y])))) (fun y H2 s3 r => ?_)
    have hD2 := s3 _ _ (s2 _ _ hD)
    have tu : Tu H2 (upd H2 D (.lst (ys ++ [y]))) := Tu.upd hD2 trivial
    refine ⟨ys, hD2, szl (by omega), hi, Same.mut ((s.trans s2).trans s3) nD, ys ++ [y], upd_same, ?_⟩
    rw [List.range_succ, List.map_append, List.map_singleton]
    exact pr_snoc (mono _ _ _ _ tu r) (pr_mono hp fun v a h => mono _ _ _ _ ((s2.trans s3).tu.trans tu) h)
  · obtain ⟨_, s, ys, hD, hp⟩ := p
    exact k H ys s hD hp
/-- [x for .. if ..]: item i stands for f i, kept where p says so -/
theorem lc_filt (w : L2.Walk J n G Y) (f : Nat → α) (p : α → Bool) (R : Hp → V → α → Prop) (mono : ∀ H H' v a, Tu H H' → R H v a → R H' v a) (nD : H1 D = none) (hn : n ≤ 90000) (hG : ∀ H', Same H1 H' → G H')
    (body : ∀ i x H H', i < n → Same H1 H → Y i H x H' → Same H H' ∧ ∀ (Qk : VK) (Qn : Hp → Prop), (p (f i) = true → ∀ y H2, Same H' H2 → R H2 y (f i) → Qk y H2) → (p (f i) = false → ∀ H2, Same H' H2 → Qn H2) →
      g x (wipe σ vs) H' fun σ2 H2 => wipe σ2 vs = wipe σ vs ∧ tt σ2 H2 fun b H3 => if b = true then te σ2 H3 Qk else Qn H3)
    (k : ∀ H' ys, Same H1 H' → H' D = some (.lst ys) → Paired (R H') ys (((List.range n).map f).filter p) → Qd H') :
    ∃ W : Nat → Nat → Hp → Prop, (∃ m, W 0 m (upd H1 D (.lst []))) ∧ ∀ i m H, W i m H →
      (J.stop i H ∧ Qd H) ∨ (J.go i H ∧ ∃ Nx : Hp → Prop, (∀ H', Nx H' → ∃ m', m' < m ∧ W (i + 1) m' H') ∧ ∀ x H', J.yld i H x H' → g x (wipe σ vs) H' fun σ2 H2 => wipe σ2 vs = wipe σ vs ∧ tt σ2 H2 fun b H3 =>
        if b = true then te σ2 H3 fun y H4 => ∃ acc, H4 D = some (.lst acc) ∧ acc.length < sizeLine ∧ Nx (upd H4 D (.lst (acc ++ [y]))) else Nx H3) := by
  refine lc_it w (fun i H => i ≤ n ∧ Same H1 H ∧ ∃ ys, H D = some (.lst ys) ∧ Paired (R H) ys (((List.range i).map f).filter p)) ⟨Nat.zero_le _, Same.new nD, [], upd_same, .nil⟩ (fun i H _ p => hG H p.2.1) ?_ (fun H p => ?_)
  · rintro i x H H' hi ⟨_, s, ys, hD, hp⟩ y
    obtain ⟨s2, b⟩ := body i x H H' hi s y
    have hl := pr_len hp
    have hl2 := List.length_filter_le p ((List.range i).map f)
    rw [List.length_map, List.length_range] at hl2
    have ef : ((List.range (i + 1)).map f).filter p = ((List.range i).map f).filter p ++ if p (f i) = true then [f i] else [] := by
      rw [List.range_succ, List.map_append, List.map_singleton, List.filter_append]
      simp [List.filter_cons]
    refine b (fun y H4 => ∃ acc, H4 D = some (.lst acc) ∧ acc.length < sizeLine ∧ (fun i H => i ≤ n ∧ Same H1 H ∧ ∃ ys, H D = some (.lst ys) ∧ Paired (R H) ys (((List.range i).map f).filter p)) (i + 1) (upd H4 D (.lst (acc ++ [y])))) _ (fun e y H2 s3 r => ?_) (fun e H2 s3 => ?_)
    · have hD2 := s3 _ _ (s2 _ _ hD)
      have tu : Tu H2 (upd H2 D (.lst (ys ++ [y]))) := Tu.upd hD2 trivial
      refine ⟨ys, hD2, szl (by omega), hi, Same.mut ((s.trans s2).trans s3) nD, ys ++ [y], upd_same, ?_⟩
      rw [ef, if_pos e]
      exact pr_snoc (mono _ _ _ _ tu r) (pr_mono hp fun v a h => mono _ _ _ _ ((s2.trans s3).tu.trans tu) h)
    · refine ⟨hi, (s.trans s2).trans s3, ys, s3 _ _ (s2 _ _ hD), ?_⟩
      rw [ef, if_neg (by rw [e]; exact Bool.false_ne_true), List.append_nil]
      exact pr_mono hp fun v a h => mono _ _ _ _ (s2.trans s3).tu h
  · obtain ⟨_, s, ys, hD, hp⟩ := p
    exact k H ys s hD hp
end
/-! ### types -/
theorem tyT {K : PySem.W.Frag} {H : Hp} {p : Addr} {xs : List V} (h : SqT K H p xs) : TyX K H (.ref p) (.type "tuple") := by
  rcases h with (h | ⟨o, h⟩) | ⟨o, its, n, h1, h2, _⟩
  · exact .base (.tup h)
  · exact .fTuple h
  · exact .kTuple h1 h2
theorem tyL {K : PySem.W.Frag} {H : Hp} {p : Addr} {xs : List V} (h : H p = some (.lst xs)) : TyX K H (.ref p) (.type "list") := .base (.lst h)
theorem tyI {K : PySem.W.Frag} {H : Hp} (i : Int) : TyX K H (.int i) (.type "int") := .base (.int i)
end PF
end
section
set_option maxHeartbeats 4000000
set_option exponentiation.threshold 20000
namespace PF
open PySem L2
theorem fr0 {K : PySem.W.Frag} {mg : Str → Option Value} {aN aO : Addr} {tL tM tP : Tok} (T : Txt K mg aN aO tL tM tP) (H : Hp) : Fr K H (.ref aN) 0 := ⟨aN, rfl, T.kNOUGHT H⟩
theorem fr1 {K : PySem.W.Frag} {mg : Str → Option Value} {aN aO : Addr} {tL tM tP : Tok} (T : Txt K mg aN aO tL tM tP) (H : Hp) : Fr K H (.ref aO) 1 := ⟨aO, rfl, T.kONE H⟩
theorem reduced_gcd (q : Rat) : Int.gcd (if q.num < 0 then -q.num else q.num) (q.den : Int) = 1 := by
  have h := q.reduced
  have e : Int.gcd (if q.num < 0 then -q.num else q.num) (q.den : Int) = Int.gcd q.num (q.den : Int) := by
    split
    · exact Int.neg_gcd
    · rfl
  rw [e]
  exact h
theorem cut_from (xs : List V) (k : Nat) : cutV xs (some (k : Int)) none = xs.drop k := by
  unfold cutV
  rw [HT.sIx_nat, HT.sIx_none]
  by_cases h : k ≤ xs.length
  · rw [Nat.min_eq_left h, List.take_of_length_le (by rw [List.length_drop]; omega)]
  · rw [Nat.min_eq_right (by omega), List.drop_of_length_le (Nat.le_refl _), List.drop_of_length_le (by omega)]
    simp
theorem cut_to (xs : List V) (k : Nat) : cutV xs none (some (k : Int)) = xs.take k := by
  unfold cutV
  rw [HT.sIx_nat, HT.sIx_none, List.drop_zero, Nat.sub_zero]
  by_cases h : k ≤ xs.length
  · rw [Nat.min_eq_left h]
  · rw [Nat.min_eq_right (by omega), List.take_length, List.take_of_length_le (by omega)]
/-! ### promises -/
def spIsWhole : Sp := fun vs H Q _ => ∃ i : Int, vs = [.int i] ∧ Q (.bl true) H
def spIsFrac (K : PySem.W.Frag) : Sp := fun vs H Q _ => ∃ (v : V) (q : Rat), vs = [v] ∧ Fr K H v q ∧ ∀ H', Same H H' → Q (.bl true) H'
def spIsMeas (K : PySem.W.Frag) : Sp := fun vs H Q _ => ∃ (v : V) (q : Rat) (n : Nat), vs = [v] ∧ Fr K H v q ∧ Bd n q ∧ n ≤ 8990 ∧ 0 ≤ q ∧ ∀ H', Same H H' → Q (.bl true) H'
/-- a prop: its place, its strength -/
def Stk (K : PySem.W.Frag) (H : Hp) (v : V) (s : Int × Rat) : Prop := ∃ t sv, v = .ref t ∧ SqT K H t [.int s.1, sv] ∧ Fr K H sv s.2
theorem Stk.mono {K : PySem.W.Frag} {H H' : Hp} {v : V} {s : Int × Rat} (u : Tu H H') (h : Stk K H v s) : Stk K H' v s := by
  obtain ⟨t, sv, e, h1, h2⟩ := h
  exact ⟨t, sv, e, u.sqT h1, h2.mono u⟩
def spIsProp (K : PySem.W.Frag) : Sp := fun vs H Q _ => ∃ (v : V) (long : Int) (s : Int × Rat), vs = [v, .int long] ∧ Stk K H v s ∧ GoodS long s ∧ ∀ H', Same H H' → Q (.bl true) H'
def spAreProps (K : PySem.W.Frag) : Sp := fun vs H Q _ => ∃ (l : Addr) (xs : List V) (long : Int) (ss : List (Int × Rat)), vs = [.ref l, .int long] ∧ H l = some (.lst xs) ∧ Paired (Stk K H) xs ss ∧ ss.length ≤ 12 ∧ (∀ s ∈ ss, GoodS long s) ∧ (ss.map (·.1)).Pairwise (· < ·) ∧ ∀ H', Same H H' → Q (.bl true) H'
def spSumOf (K : PySem.W.Frag) : Sp := fun vs H Q _ => ∃ (l : Addr) (xs : List V) (qs : List Rat) (b : Nat), vs = [.ref l] ∧ H l = some (.lst xs) ∧ Paired (Fr K H) xs qs ∧ (∀ q ∈ qs, Bd b q) ∧ qs.length * (b + 1) ≤ 8000 ∧
  ∀ (H' : Hp) (v : V), Same H H' → Fr K H' v (qs.foldl (· + ·) 0) → Q v H'
section
variable {P : Program} {w : World} {K : PySem.W.Frag} {mg : Str → Option Value} {base : Heap} {aN aO : Addr} {tL tM tP : Tok}
abbrev s_is_whole : Stmt := topS 11
abbrev n_is_whole : List Str := ["thing"]
theorem sc_is_whole : FnScope n_is_whole ["thing"] (defScope s_is_whole) := ⟨rfl, rfl, rfl, by decide +kernel, rfl, by decide +kernel, by decide +kernel⟩
theorem ok_is_whole {f : Addr} {fd : FuncData} (F : Fun K "is_whole" "is_whole" s_is_whole f fd) (T : Txt K mg aN aO tL tM tP)  : FnOk P w K mg base CX0 1 f fd ["thing"] spIsWhole := by
  have sc := sc_is_whole
  refine F.ok sc (fun vs H Q E h => ?_) (fun cdv A outer s H vs Q E hr h => ?_)
  · (repeat (rcases h with ⟨_, h⟩))
    subst_vars
    rfl
  · obtain ⟨i, rfl, k⟩ := h
    refine ⟨_, (pss_one (ps_ret (pe_and (pe_callB (cIsi K) (by rfl) T.bisinstance (by decide +kernel) (pa_cons (pv 0) (pa_cons (pe_bltn (v := .ty "int") (by rfl) T.bint (by decide +kernel) rfl) pa_nil))) (pe_one (pe_not (pe_callB (cIsi K) (by rfl) T.bisinstance (by decide +kernel) (pa_cons (pv 0) (pa_cons (pe_bltn (v := .ty "bool") (by rfl) T.bbool (by decide +kernel) rfl) pa_nil)))))))), ?_⟩
    refine ⟨_, rfl, _, _, _, _, true, rfl, .ty "int", tyI _, kit_ty (by decide +kernel), _, rfl, ?_⟩
    refine iteT ?_
    exact ⟨_, rfl, _, _, _, _, false, rfl, .ty "bool", tyI _, kit_ty (by decide +kernel), _, rfl, k⟩
abbrev s_is_fraction : Stmt := topS 14
abbrev n_is_fraction : List Str := ["thing", "one"]
theorem sc_is_fraction : FnScope n_is_fraction ["thing"] (defScope s_is_fraction) := ⟨rfl, rfl, rfl, by decide +kernel, rfl, by decide +kernel, by decide +kernel⟩
theorem ok_is_fraction {f : Addr} {fd : FuncData} (F : Fun K "is_fraction" "is_fraction" s_is_fraction f fd) (T : Txt K mg aN aO tL tM tP) (G_divisor : Fn P w K mg base 1 "divisor" ["one", "other"] spDivisor) (G_is_whole : Fn P w K mg base 1 "is_whole" ["thing"] spIsWhole) : FnOk P w K mg base CX0 2 f fd ["thing"] (spIsFrac K) := by
  have sc := sc_is_fraction
  refine F.ok sc (fun vs H Q E h => ?_) (fun cdv A outer s H vs Q E hr h => ?_)
  · (repeat (rcases h with ⟨_, h⟩))
    subst_vars
    rfl
  · obtain ⟨v, q, rfl, ⟨p, rfl, hp⟩, k⟩ := h
    refine ⟨_, (pss_cons (ps_if (PW.pt (pw_or (pt_not (pt_val (pe_callB (cIsi K) (by rfl) T.bisinstance (by decide +kernel) (pa_cons (pv 0) (pa_cons (pe_bltn (v := .ty "tuple") (by rfl) T.btuple (by decide +kernel) rfl) pa_nil))))) (pw_or (pt_cmpR op_ne (pe_callB (cLen K) (by rfl) T.blen (by decide +kernel) (pa_cons (pv 0) pa_nil)) pe_int (nomark _)) (pw_or1 (pt_not (pt_val (pe_callB (cAll K rfl) (by rfl) T.ball (by decide +kernel) (pa_cons (pe_lc (own := [("one", 1)]) (g := (gName 1)) rfl sc.nd (piT K (pv 0)) (blkOk_by (N := n_is_fraction) (sc := defScope s_is_fraction) (own := [("one", 1)]) (by decide +kernel)) (fun _ _ _ _ _ => (pg_name (i := 1) sc.nd rfl (Or.inl rfl))) (fun _ _ _ _ _ => pts_nil) (fun _ _ _ _ _ => (pe_fn G_is_whole hr (pa_cons (pv 1) pa_nil)))) pa_nil))))))))
 (pss_one (ps_ret pe_bl))
 pss_nil)
 (pss_one (ps_ret (pe_and (pe_cmpR op_gt (pe_ix (ixT K) (pv 0) pe_int (fun _ _ => rfl)) pe_int (nomark _)) (pe_one (pe_cmpR op_eq (pe_fn G_divisor hr (pa_cons (pe_callB call_abs (by rfl) T.babs (by decide +kernel) (pa_cons (pe_ix (ixT K) (pv 0) pe_int (fun _ _ => rfl)) pa_nil)) (pa_cons (pe_ix (ixT K) (pv 0) pe_int (fun _ _ => rfl)) pa_nil))) pe_int (nomark _))))))), ?_⟩
    refine ⟨_, rfl, _, _, _, _, true, rfl, .ty "tuple", tyT hp, kit_ty (by decide +kernel), _, rfl, ?_⟩
    refine ifF rfl ?_
    refine ⟨_, rfl, p, _, rfl, .inr hp, rfl, _, rfl, ?_⟩
    refine ifF rfl ?_
    refine ⟨_, rfl, p, rfl, ⟨_, hp⟩, fun D nD => lc_map walk_tup (fun _ => true) (fun _ v b => v = V.bl b) (fun _ _ _ _ _ h => h) nD (by show 2 ≤ 90000; decide) (fun H' s => s.tu.sqT hp) (fun i x H1 H2 hi s1 y => ?_) (fun H1 ys s1 hD hy => ?_)⟩
    · obtain ⟨rfl, hx⟩ := y
      refine ⟨Same.refl _, fun Qk kk => ?_⟩
      obtain ⟨z, rfl⟩ : ∃ z, x = V.int z := by
        rcases i with _ | _ | i
        · exact ⟨_, (Option.some.inj hx).symm⟩
        · exact ⟨_, (Option.some.inj hx).symm⟩
        · exact absurd hi (by show ¬ i + 2 < 2; omega)
      exact ⟨rfl, _, rfl, _, rfl, kk _ _ (Same.refl _) rfl⟩
    · have e := bls_pr hy
      rw [e] at hD
      have hp1 := s1.tu.sqT hp
      refine ⟨_, _, rfl, SqL.of hD, _, rfl, ?_⟩
      refine ifF rfl ?_
      refine ⟨_, rfl, _, _, _, _, rfl, rfl, hp1, rfl, _, _, rfl, rfl, _, rfl, ?_⟩
      refine ifT (decide_eq_true (den_pos q)) ?_
      refine ⟨_, rfl, _, _, _, _, rfl, rfl, hp1, rfl, _, rfl, _, rfl, _, _, _, _, rfl, rfl, hp1, rfl, _, _, rfl, by split <;> omega, den_pos q, rfl, ?_⟩
      rw [reduced_gcd q]
      exact k _ s1
abbrev s_is_measure : Stmt := topS 26
abbrev n_is_measure : List Str := ["thing"]
theorem sc_is_measure : FnScope n_is_measure ["thing"] (defScope s_is_measure) := ⟨rfl, rfl, rfl, by decide +kernel, rfl, by decide +kernel, by decide +kernel⟩
theorem ok_is_measure {f : Addr} {fd : FuncData} (F : Fun K "is_measure" "is_measure" s_is_measure f fd) (T : Txt K mg aN aO tL tM tP) (G_is_fraction : Fn P w K mg base 2 "is_fraction" ["thing"] (spIsFrac K)) (G_is_below : Fn P w K mg base 1 "is_below" ["one", "other"] (spBelow K)) : FnOk P w K mg base CX0 3 f fd ["thing"] (spIsMeas K) := by
  have sc := sc_is_measure
  refine F.ok sc (fun vs H Q E h => ?_) (fun cdv A outer s H vs Q E hr h => ?_)
  · (repeat (rcases h with ⟨_, h⟩))
    subst_vars
    rfl
  · obtain ⟨v, q, n, rfl, hq, hb, hn, h0, k⟩ := h
    refine ⟨_, (pss_one (ps_ret (pe_and (pe_fn G_is_fraction hr (pa_cons (pv 0) pa_nil)) (pe_one (pe_not (pe_fn G_is_below hr (pa_cons (pv 0) (pa_cons (pe_glob (v := .ref aN) rfl T.mNOUGHT rfl) pa_nil)))))))), ?_⟩
    refine ⟨_, rfl, v, q, rfl, hq, fun H1 s1 => ⟨_, rfl, ?_⟩⟩
    refine iteT ?_
    refine ⟨_, rfl, _, _, q, 0, n, 1, rfl, hq.mono s1.tu, fr0 T _, hb, bd0, by omega, _, rfl, ?_⟩
    have e : decide (q < 0) = false := decide_eq_false (Rat.not_lt.mpr h0)
    rw [e]
    exact k _ s1
abbrev s_is_prop : Stmt := topS 27
abbrev n_is_prop : List Str := ["thing", "length"]
theorem sc_is_prop : FnScope n_is_prop ["thing", "length"] (defScope s_is_prop) := ⟨rfl, rfl, rfl, by decide +kernel, rfl, by decide +kernel, by decide +kernel⟩
theorem ok_is_prop {f : Addr} {fd : FuncData} (F : Fun K "is_prop" "is_prop" s_is_prop f fd) (T : Txt K mg aN aO tL tM tP) (G_is_measure : Fn P w K mg base 3 "is_measure" ["thing"] (spIsMeas K)) (G_is_whole : Fn P w K mg base 1 "is_whole" ["thing"] spIsWhole) : FnOk P w K mg base CX0 4 f fd ["thing", "length"] (spIsProp K) := by
  have sc := sc_is_prop
  refine F.ok sc (fun vs H Q E h => ?_) (fun cdv A outer s H vs Q E hr h => ?_)
  · (repeat (rcases h with ⟨_, h⟩))
    subst_vars
    rfl
  · obtain ⟨v, long, s, rfl, ⟨t, sv, rfl, ht, hf⟩, ⟨g1, g2, g3, g4⟩, k⟩ := h
    refine ⟨_, (pss_cons (ps_if (PW.pt (pw_or (pt_not (pt_val (pe_callB (cIsi K) (by rfl) T.bisinstance (by decide +kernel) (pa_cons (pv 0) (pa_cons (pe_bltn (v := .ty "tuple") (by rfl) T.btuple (by decide +kernel) rfl) pa_nil))))) (pw_or (pt_cmpR op_ne (pe_callB (cLen K) (by rfl) T.blen (by decide +kernel) (pa_cons (pv 0) pa_nil)) pe_int (nomark _)) (pw_or1 (pt_not (pt_val (pe_fn G_is_whole hr (pa_cons (pe_ix (ixT K) (pv 0) pe_int (fun _ _ => rfl)) pa_nil))))))))
 (pss_one (ps_ret pe_bl))
 pss_nil)
 (pss_one (ps_ret (pe_and (pe_chain op_lt op_lt pe_int (pe_ix (ixT K) (pv 0) pe_int (fun _ _ => rfl)) (pv 1)) (pe_one (pe_fn G_is_measure hr (pa_cons (pe_ix (ixT K) (pv 0) pe_int (fun _ _ => rfl)) pa_nil))))))), ?_⟩
    refine ⟨_, rfl, _, _, _, _, true, rfl, .ty "tuple", tyT ht, kit_ty (by decide +kernel), _, rfl, ?_⟩
    refine ifF rfl ?_
    refine ⟨_, rfl, t, _, rfl, .inr ht, rfl, _, rfl, ?_⟩
    refine ifF rfl ?_
    refine ⟨_, rfl, _, _, _, _, rfl, rfl, ht, rfl, _, rfl, _, rfl, ?_⟩
    refine ifF rfl ?_
    refine ⟨_, rfl, _, _, _, _, rfl, rfl, ht, rfl, _, _, rfl, rfl, _, rfl, ?_⟩
    refine ifT (decide_eq_true g1) ?_
    refine ⟨_, rfl, _, _, rfl, rfl, _, rfl, ?_⟩
    refine ifT (decide_eq_true g2) ?_
    exact ⟨_, rfl, _, _, _, _, rfl, rfl, ht, rfl, _, s.2, 320, rfl, hf, g3, by decide, g4, k⟩
abbrev s_are_props : Stmt := topS 28
abbrev n_are_props : List Str := ["thing", "length", "one", "other"]
theorem sc_are_props : FnScope n_are_props ["thing", "length"] (defScope s_are_props) := ⟨rfl, rfl, rfl, by decide +kernel, rfl, by decide +kernel, by decide +kernel⟩
theorem ok_are_props {f : Addr} {fd : FuncData} (F : Fun K "are_props" "are_props" s_are_props f fd) (T : Txt K mg aN aO tL tM tP) (G_is_prop : Fn P w K mg base 4 "is_prop" ["thing", "length"] (spIsProp K)) : FnOk P w K mg base CX0 5 f fd ["thing", "length"] (spAreProps K) := by
  have sc := sc_are_props
  refine F.ok sc (fun vs H Q E h => ?_) (fun cdv A outer s H vs Q E hr h => ?_)
  · (repeat (rcases h with ⟨_, h⟩))
    subst_vars
    rfl
  · obtain ⟨l, xs, long, ss, rfl, hl, hs, hlen, hg, hr2, k⟩ := h
    have el := pr_len hs
    refine ⟨_, (pss_cons (ps_if (PW.pt (pw_or (pt_not (pt_val (pe_callB (cIsi K) (by rfl) T.bisinstance (by decide +kernel) (pa_cons (pv 0) (pa_cons (pe_bltn (v := .ty "list") (by rfl) T.blist (by decide +kernel) rfl) pa_nil))))) (pw_or (pt_cmpR op_gt (pe_callB (cLen K) (by rfl) T.blen (by decide +kernel) (pa_cons (pv 0) pa_nil)) (pe_glob (v := .int (12)) rfl T.mMOST_PROPS ⟨_, rfl⟩) (nomark _)) (pw_or1 (pt_not (pt_val (pe_callB (cAll K rfl) (by rfl) T.ball (by decide +kernel) (pa_cons (pe_lc (own := [("one", 2)]) (g := (gName 2)) rfl sc.nd (piL K (pv 0)) (blkOk_by (N := n_are_props) (sc := defScope s_are_props) (own := [("one", 2)]) (by decide +kernel)) (fun _ _ _ _ _ => (pg_name (i := 2) sc.nd rfl (Or.inl rfl))) (fun _ _ _ _ _ => pts_nil) (fun _ _ _ _ _ => (pe_fn G_is_prop hr (pa_cons (pv 2) (pa_cons (pv 1) pa_nil))))) pa_nil))))))))
 (pss_one (ps_ret pe_bl))
 pss_nil)
 (pss_one (ps_ret (pe_callB (cAll K rfl) (by rfl) T.ball (by decide +kernel) (pa_cons (pe_lc (own := [("one", 2), ("other", 3)]) (g := (gTup K 2 (gCons (gName 2) (gCons (gName 3) gNil)))) rfl sc.nd (pi_zip (by rfl) T.bzip (pa_cons (pv 0) (pa_cons (pe_slice (slL K) (pv 0) (po_some pe_int) po_none) pa_nil))) (blkOk_by (N := n_are_props) (sc := defScope s_are_props) (own := [("one", 2), ("other", 3)]) (by decide +kernel)) (fun _ _ _ _ _ => (pg_tup rfl (pgs_cons (pg_name (i := 2) sc.nd rfl (Or.inl rfl)) (pgs_cons (pg_name (i := 3) sc.nd rfl (Or.inl rfl)) pgs_nil)))) (fun _ _ _ _ _ => pts_nil) (fun _ _ _ _ _ => (pe_cmpR op_lt (pe_ix (ixT K) (pv 2) pe_int (fun _ _ => rfl)) (pe_ix (ixT K) (pv 3) pe_int (fun _ _ => rfl)) (nomark _)))) pa_nil))))), ?_⟩
    refine ⟨_, rfl, _, _, _, _, true, rfl, .ty "list", tyL hl, kit_ty (by decide +kernel), _, rfl, ?_⟩
    refine ifF rfl ?_
    refine ⟨_, rfl, l, _, rfl, .inl (SqL.of hl), _, _, rfl, rfl, _, rfl, ?_⟩
    refine ifF (decide_eq_false (by omega)) ?_
    refine ⟨_, rfl, l, rfl, ⟨_, SqL.of hl⟩, fun D nD => lc_map walk_list (fun _ => true) (fun _ v b => v = V.bl b) (fun _ _ _ _ _ h => h) nD (by omega) (fun H' s => s.seq (SqL.of hl)) (fun i x H1 H2 hi s1 y => ?_) (fun H1 ys s1 hD hy => ?_)⟩
    · obtain ⟨rfl, hx⟩ := y
      refine ⟨Same.refl _, fun Qk kk => ?_⟩
      obtain ⟨a, ha, st⟩ := pr_get' hs hx
      exact ⟨rfl, _, rfl, _, rfl, _, long, a, rfl, st.mono s1.tu, hg a (List.mem_of_getElem? ha), fun H' s' => kk _ _ s' rfl⟩
    · have e := bls_pr hy
      rw [e] at hD
      have hl1 := s1 _ _ hl
      refine ⟨_, _, rfl, SqL.of hD, _, rfl, ?_⟩
      refine ifF (by simp) ?_
      refine ⟨_, rfl, _, rfl, _, rfl, l, xs, rfl, SqL.of hl1, fun p np => ?_⟩
      have s2 : Same H1 (upd H1 p (.lst (cutV xs (some 1) none))) := Same.new np
      rw [show cutV xs (some 1) none = xs.drop 1 from cut_from xs 1] at s2 ⊢
      refine ⟨l, p, xs, xs.drop 1, rfl, SqL.of (s2 _ _ hl1), SqL.of upd_same, fun D2 nD2 => lc_map (walk_zip rfl) (fun _ => true) (fun _ v b => v = V.bl b) (fun _ _ _ _ _ h => h) nD2 (by omega) (fun H' s => ⟨SqL.of (s _ _ (s2 _ _ hl1)), SqL.of (s _ _ upd_same)⟩) (fun i x H3 H4 hi s3 y => ?_) (fun H3 ys s3 hD hy => ?_)⟩
      · obtain ⟨T2, x1, x2, rfl, hT2, rfl, h1, h2⟩ := y
        have sn : Same H3 (upd H3 T2 (.tup [x1, x2])) := Same.new hT2
        refine ⟨sn, fun Qk kk => ?_⟩
        have tu := ((s1.trans s2).trans (s3.trans sn)).tu
        obtain ⟨a, ha, ⟨t1, sv1, rfl, ht1, _⟩⟩ := pr_get' hs h1
        have h2' : xs[i + 1]? = some x2 := by
          have q : (xs.drop 1)[i]? = some x2 := h2
          rw [List.getElem?_drop, Nat.add_comm] at q
          exact q
        obtain ⟨a2, ha2, ⟨t2, sv2, rfl, ht2, _⟩⟩ := pr_get' hs h2'
        refine ⟨T2, _, rfl, SqT.of upd_same, rfl, _, _, rfl, _, _, rfl, rfl, rfl, _, rfl, _, _, _, _, rfl, rfl, tu.sqT ht1, rfl, _, rfl, _, _, _, _, rfl, rfl, tu.sqT ht2, rfl, _, _, rfl, rfl, ?_⟩
        refine kk _ _ (Same.refl _) ?_
        have e1 : (ss.map (·.1))[i]? = some a.1 := by rw [List.getElem?_map, ha]; rfl
        have e2 : (ss.map (·.1))[i + 1]? = some a2.1 := by rw [List.getElem?_map, ha2]; rfl
        have lt : a.1 < a2.1 := by
          obtain ⟨q1, q2⟩ := List.getElem?_eq_some_iff.mp e1
          obtain ⟨q3, q4⟩ := List.getElem?_eq_some_iff.mp e2
          have := (List.pairwise_iff_getElem.mp hr2) i (i + 1) q1 q3 (Nat.lt_succ_self i)
          rw [q2, q4] at this
          exact this
        exact congrArg V.bl (decide_eq_true lt)
      · have e := bls_pr hy
        rw [e] at hD
        refine ⟨_, _, rfl, SqL.of hD, ?_⟩
        have e2 : (List.map (fun _ => true) (List.range (min xs.length (xs.drop 1).length))).all id = true := by simp
        rw [e2]
        exact k _ ((s1.trans s2).trans s3)
abbrev s_sum_of : Stmt := topS 21
abbrev n_sum_of : List Str := ["some", "found", "one"]
theorem sc_sum_of : FnScope n_sum_of ["some"] (defScope s_sum_of) := ⟨rfl, rfl, rfl, by decide +kernel, rfl, by decide +kernel, by decide +kernel⟩
theorem ok_sum_of {f : Addr} {fd : FuncData} (F : Fun K "sum_of" "sum_of" s_sum_of f fd) (T : Txt K mg aN aO tL tM tP) (G_plus : Fn P w K mg base 3 "plus" ["one", "other"] (sp2 K (fun a b => a + b) (fun _ _ => True))) : FnOk P w K mg base CX0 4 f fd ["some"] (spSumOf K) := by
  have sc := sc_sum_of
  refine F.ok sc (fun vs H Q E h => ?_) (fun cdv A outer s H vs Q E hr h => ?_)
  · (repeat (rcases h with ⟨_, h⟩))
    subst_vars
    rfl
  · obtain ⟨l, xs, qs, b, rfl, hl, hs, hb, hz, k⟩ := h
    have el := pr_len hs
    refine ⟨_, (pss_cons (ps_set (i := 1) sc.nd rfl (Or.inl rfl) (pe_glob (v := .ref aN) rfl T.mNOUGHT rfl))
 (pss_cons (ps_for PassesOwn.never rfl (piL K (pv 0)) (pg_name (i := 2) sc.nd rfl (Or.inl rfl))
 (pss_one (ps_set (i := 1) sc.nd rfl (Or.inl rfl) (pe_fn G_plus hr (pa_cons (pv 1) (pa_cons (pv 2) pa_nil))))))
 (pss_one (ps_ret (pv 1))))), ?_⟩
    refine ⟨_, rfl, l, rfl, ⟨_, SqL.of hl⟩, for_it walk_list (fun i σ H' => Same H H' ∧ ∃ v c, σ = [some (.ref l), some v, c] ∧ Fr K H' v ((qs.take i).foldl (· + ·) 0)) ⟨Same.refl _, _, _, rfl, fr0 T _⟩ (fun i σ H' _ p => p.1.seq (SqL.of hl)) ?_ ?_⟩
    · rintro i x σ H1 H2 hi ⟨s1, v, c, rfl, hv⟩ ⟨rfl, hx⟩
      obtain ⟨a, ha, fa⟩ := pr_get' hs hx
      have hi2 : i < qs.length := by omega
      have b1 := foldl_bd (b := b) (qs.take i) 0 1 bd0 fun z hz => hb z (List.mem_of_mem_take hz)
      have ln : (qs.take i).length = i := by rw [List.length_take]; omega
      rw [ln] at b1
      have le : (i + 1) * (b + 1) ≤ qs.length * (b + 1) := Nat.mul_le_mul_right _ hi2
      rw [Nat.succ_mul] at le
      refine ⟨_, rfl, _, rfl, _, _, _, a, _, b, rfl, hv, fa.mono s1.tu, b1, hb a (List.mem_of_getElem? ha), by omega, trivial, fun H3 v3 s3 f3 => ?_⟩
      refine ⟨s1.trans s3, _, _, rfl, ?_⟩
      rw [List.take_add_one, ha]
      simpa using f3.fr
    · rintro σ H1 ⟨s1, v, c, rfl, hv⟩
      rw [el, List.take_length] at hv
      exact ⟨_, rfl, k _ _ s1 hv⟩
end
end PF
end
section
set_option maxHeartbeats 4000000
set_option exponentiation.threshold 20000
namespace PF
open PySem L2
/-! ### a plank in the heap -/
def plF (long : Int) (st : Addr) : List (Str × V) := putF "limit" .non (putF "stakes" (.ref st) (putF "long" (.int long) []))
theorem pl_long (l : Int) (s : Addr) : (plF l s).lookup ("long" : Str) = some (.int l) := by
  unfold plF
  rw [lookup_putF, if_neg (by decide +kernel), lookup_putF, if_neg (by decide +kernel), lookup_putF, if_pos rfl]
theorem pl_stakes (l : Int) (s : Addr) : (plF l s).lookup ("stakes" : Str) = some (.ref s) := by
  unfold plF
  rw [lookup_putF, if_neg (by decide +kernel), lookup_putF, if_pos rfl]
theorem pl_no (l : Int) (s : Addr) {m : Str} (h1 : ¬ m = "limit") (h2 : ¬ m = "stakes") (h3 : ¬ m = "long") : (plF l s).lookup m = none := by
  unfold plF
  rw [lookup_putF, if_neg h1, lookup_putF, if_neg h2, lookup_putF, if_neg h3]
  rfl
structure PlankNo (K : PySem.W.Frag) (C : Addr) : Prop where
  long : NoAttr K C "long"
  stakes : NoAttr K C "stakes"
  limit : NoAttr K C "limit"
def PlankAt (K : PySem.W.Frag) (C : Addr) (H : Hp) (v : V) (long : Int) (ss : List (Int × Rat)) : Prop :=
  ∃ (a dx st : Addr) (vs : List V), v = .ref a ∧ H a = some (.ins C dx (plF long st)) ∧ H st = some (.tup vs) ∧ Paired (Stk K H) vs ss
theorem PlankAt.mono {K : PySem.W.Frag} {C : Addr} {H H' : Hp} {v : V} {long : Int} {ss : List (Int × Rat)} (s : Same H H') (h : PlankAt K C H v long ss) : PlankAt K C H' v long ss := by
  obtain ⟨a, dx, st, vs, e, h1, h2, h3⟩ := h
  exact ⟨a, dx, st, vs, e, s _ _ h1, s _ _ h2, pr_mono h3 fun _ _ h => h.mono s.tu⟩
theorem rgV_full (n : Nat) : rgV 0 (n : Int) = (full n).map V.int := by
  unfold rgV full
  rw [List.map_map]
  have e : ((n : Int) - 0).toNat = n := by omega
  rw [e]
  refine List.map_congr_left fun i _ => ?_
  show V.int (0 + (i : Int)) = V.int (i : Int)
  rw [Int.zero_add]
/-- a lot: a tuple of ints -/
def LotAt (K : PySem.W.Frag) (H : Hp) (v : V) (L : List Int) : Prop := ∃ p, v = .ref p ∧ SqT K H p (L.map V.int)
def LotN (H : Hp) (v : V) (L : List Int) : Prop := ∃ p, v = .ref p ∧ H p = some (.tup (L.map V.int))
theorem LotN.at {K : PySem.W.Frag} {H : Hp} {v : V} {L : List Int} (h : LotN H v L) : LotAt K H v L := by
  obtain ⟨p, e, h⟩ := h
  exact ⟨p, e, SqT.of h⟩
theorem LotAt.mono {K : PySem.W.Frag} {H H' : Hp} {v : V} {L : List Int} (u : Tu H H') (h : LotAt K H v L) : LotAt K H' v L := by
  obtain ⟨p, e, h⟩ := h
  exact ⟨p, e, u.sqT h⟩
theorem LotN.mono {H H' : Hp} {v : V} {L : List Int} (u : Tu H H') (h : LotN H v L) : LotN H' v L := by
  obtain ⟨p, e, h⟩ := h
  exact ⟨p, e, u.t _ _ h⟩
def Hvy (K : PySem.W.Frag) (H : Hp) (v : V) (h : Rat × Rat) : Prop := ∃ t a b, v = .ref t ∧ SqT K H t [a, b] ∧ Fr K H a h.1 ∧ Fr K H b h.2
theorem Hvy.mono {K : PySem.W.Frag} {H H' : Hp} {v : V} {h : Rat × Rat} (u : Tu H H') (x : Hvy K H v h) : Hvy K H' v h := by
  obtain ⟨t, a, b, e, h1, h2, h3⟩ := x
  exact ⟨t, a, b, e, u.sqT h1, h2.mono u, h3.mono u⟩
theorem rCat_of {K : PySem.W.Frag} {H : Hp} {a b : Addr} {xs ys : List V} {Q : VK} (ha : H a = some (.tup xs)) (hb : SqT K H b ys) (hx : xs ≠ []) (hl : xs.length + ys.length ≤ 100000)
    (k : ∀ H' p, Same H H' → H' p = some (.tup (xs ++ ys)) → Q (.ref p) H') : rCatT K (.ref a) (.ref b) H Q := by
  refine ⟨a, b, xs, ys, rfl, rfl, SqT.of ha, hb, hx, szL hl, fun e => k _ _ (Same.refl _) (by rw [e, List.append_nil]; exact ha), fun _ p np => k _ _ (Same.new np) upd_same⟩
/-! ### promises -/
def spPlankInit (K : PySem.W.Frag) (C : Addr) : Sp := fun vs H Q _ => ∃ (H0 : Hp) (p dx l : Addr) (xs : List V) (long : Int) (ss : List (Int × Rat)), vs = [.ref p, .int long, .ref l, .non] ∧ Same H0 H ∧ H0 p = none ∧ H p = some (.ins C dx []) ∧ H l = some (.lst xs) ∧
  Paired (Stk K H) xs ss ∧ GoodP long ss ∧ ∀ H', Same H0 H' → PlankAt K C H' (.ref p) long ss → Q .non H'
def spLength (K : PySem.W.Frag) (C : Addr) : Sp := fun vs H Q _ => ∃ (v : V) (long : Int) (ss : List (Int × Rat)), vs = [v] ∧ PlankAt K C H v long ss ∧ Q (.int long) H
def spCount (K : PySem.W.Frag) (C : Addr) : Sp := fun vs H Q _ => ∃ (v : V) (long : Int) (ss : List (Int × Rat)), vs = [v] ∧ PlankAt K C H v long ss ∧ Q (.int (ss.length : Nat)) H
def spProps (K : PySem.W.Frag) (C : Addr) : Sp := fun vs H Q _ => ∃ (v : V) (long : Int) (ss : List (Int × Rat)), vs = [v] ∧ PlankAt K C H v long ss ∧ ∀ p xs, H p = none → Paired (Stk K H) xs ss → Q (.ref p) (upd H p (.lst xs))
def spPlaceOf (K : PySem.W.Frag) (C : Addr) : Sp := fun vs H Q _ => ∃ (v : V) (long : Int) (ss : List (Int × Rat)) (r : Int), vs = [v, .int r] ∧ PlankAt K C H v long ss ∧ -1 ≤ r ∧ r ≤ (ss.length : Int) ∧ Q (.int (placeOf long ss r)) H
def spLotOf (K : PySem.W.Frag) (C : Addr) : Sp := fun vs H Q _ => ∃ (v : V) (long : Int) (ss : List (Int × Rat)), vs = [v, .non] ∧ PlankAt K C H v long ss ∧ ss.length ≤ 12 ∧ ∀ p, H p = none → Q (.ref p) (upd H p (.tup ((full ss.length).map V.int)))
def spRestsOf (K : PySem.W.Frag) (C : Addr) : Sp := fun vs H Q _ => ∃ (v u : V) (long : Int) (ss : List (Int × Rat)) (L : List Int), vs = [v, u] ∧ PlankAt K C H v long ss ∧ LotAt K H u L ∧ L.length ≤ 1000 ∧ ∀ H' p, Same H H' → H' p = some (.tup ((restsL ss.length L).map V.int)) → Q (.ref p) H'
def spIsSpot (K : PySem.W.Frag) (C : Addr) : Sp := fun vs H Q _ => ∃ (v u : V) (long : Int) (ss : List (Int × Rat)) (q : Rat), vs = [v, u] ∧ PlankAt K C H v long ss ∧ GoodP long ss ∧ Fr K H u q ∧ Bd 110 q ∧ 0 ≤ q ∧ q ≤ (long : Rat) ∧ ∀ H', Same H H' → Q (.bl true) H'
def spIsWeight (K : PySem.W.Frag) (C : Addr) : Sp := fun vs H Q _ => ∃ (v u : V) (long : Int) (ss : List (Int × Rat)) (h : Rat × Rat), vs = [v, u] ∧ PlankAt K C H v long ss ∧ GoodP long ss ∧ Hvy K H u h ∧ GoodH long h ∧ ∀ H', Same H H' → Q (.bl true) H'
def spCheckW (K : PySem.W.Frag) (C : Addr) : Sp := fun vs H Q _ => ∃ (v : V) (l : Addr) (xs : List V) (long : Int) (ss : List (Int × Rat)) (hs : List (Rat × Rat)), vs = [v, .ref l] ∧ PlankAt K C H v long ss ∧ GoodP long ss ∧ H l = some (.lst xs) ∧ Paired (Hvy K H) xs hs ∧ (∀ h ∈ hs, GoodH long h) ∧ ∀ H', Same H H' → Q .non H'
def spSlope (K : PySem.W.Frag) : Sp := fun vs H Q _ => ∃ (lo hi : Int) (u : V) (q : Rat) (n : Nat), vs = [.int lo, .int hi, u] ∧ 0 ≤ lo ∧ lo < hi ∧ hi ≤ 1000 ∧ Fr K H u q ∧ Bd n q ∧ n ≤ 8000 ∧ RetQ ((q - (lo : Rat)) / ((hi - lo : Int) : Rat)) H Q
section
variable {P : Program} {w : World} {K : PySem.W.Frag} {mg : Str → Option Value} {base : Heap} {aN aO : Addr} {tL tM tP : Tok} {CPlank : Addr}
abbrev s_Plank___init__ : Stmt := inClass (topS 29) 0
abbrev n_Plank___init__ : List Str := ["self", "length", "props", "bend"]
theorem sc_Plank___init__ : FnScope n_Plank___init__ ["self", "length", "props", "bend"] (defScope s_Plank___init__) := ⟨rfl, rfl, rfl, by decide +kernel, rfl, by decide +kernel, by decide +kernel⟩
theorem ok_Plank___init__ {f : Addr} {fd : FuncData} (F : Fun K "__init__" "Plank.__init__" s_Plank___init__ f fd) (T : Txt K mg aN aO tL tM tP) (G_are_props : Fn P w K mg base 5 "are_props" ["thing", "length"] (spAreProps K)) (G_is_whole : Fn P w K mg base 1 "is_whole" ["thing"] spIsWhole) (G_is_measure : Fn P w K mg base 3 "is_measure" ["thing"] (spIsMeas K)) (TPlank : Cls K CPlank) (NPlank : PlankNo K CPlank) : FnOk P w K mg base CX0 6 f fd ["self", "length", "props", "bend"] (spPlankInit K CPlank) := by
  have sc := sc_Plank___init__
  refine F.ok sc (fun vs H Q E h => ?_) (fun cdv A outer s H vs Q E hr h => ?_)
  · (repeat (rcases h with ⟨_, h⟩))
    subst_vars
    rfl
  · obtain ⟨H0, p, dx, l, xs, long, ss, rfl, s0, p0, hp, hl, hx, G, k⟩ := h
    have g1 := G.lo
    have g2 := G.hi
    refine ⟨_, (pss_cons (ps_if (PW.pt (pw_or (pt_not (pt_val (pe_fn G_is_whole hr (pa_cons (pv 1) pa_nil)))) (pw_or1 (pt_not (pt_chain op_le op_le pe_int (pv 1) (pe_glob (v := .int (1000)) rfl T.mMOST_LENGTH ⟨_, rfl⟩))))))
 pss_never
 pss_nil)
 (pss_cons (ps_if (pt_not (pt_val (pe_fn G_are_props hr (pa_cons (pv 2) (pa_cons (pv 1) pa_nil)))))
 pss_never
 pss_nil)
 (pss_cons (ps_if (PW.pt (pw_and (pt_cmpR op_notN (pv 3) pe_non (nomark _)) (pw_and1 (pt_not (pt_val (pe_fn G_is_measure hr (pa_cons (pv 3) pa_nil)))))))
 pss_never
 pss_nil)
 (pss_cons (ps_fld (pv 0) (pv 1) rfl)
 (pss_cons (ps_fld (pv 0) (pe_callTy (cTuple K) (by rfl) T.btuple (by decide +kernel) (pa_cons (pv 2) pa_nil)) rfl)
 (pss_one (ps_fld (pv 0) (pv 3) rfl))))))), ?_⟩
    refine ⟨_, rfl, _, rfl, _, rfl, ?_⟩
    refine ifF rfl ?_
    refine ⟨_, rfl, _, _, rfl, rfl, _, rfl, ?_⟩
    refine ifT (decide_eq_true g1) ?_
    refine ⟨_, _, rfl, rfl, _, rfl, ?_⟩
    rw [decide_eq_true g2]
    refine ifF rfl ?_
    refine ⟨_, rfl, _, rfl, l, xs, long, ss, rfl, hl, hx, G.few, G.each, G.rise, fun H1 s1 => ⟨_, rfl, ?_⟩⟩
    refine ifF rfl ?_
    refine ⟨_, rfl, rfl, _, rfl, ?_⟩
    refine ifF rfl ?_
    refine ifF rfl ?_
    have hp1 := s1 _ _ hp
    have hl1 := s1 _ _ hl
    have nlp : l ≠ p := ne_of hl1 hp1 (by intro q; cases q)
    refine ⟨_, rfl, _, rfl, p, CPlank, dx, [], rfl, hp1, TPlank, NPlank.long, (by show 0 < 1000; decide), ?_⟩
    refine ⟨_, rfl, l, _, rfl, .inl ⟨SqL.of (by rw [upd_ne nlp]; exact hl1), fun st nst => ?_⟩⟩
    have nps : p ≠ st := ne_of_none upd_same nst
    refine ⟨_, rfl, p, CPlank, dx, _, rfl, (by rw [upd_ne nps]; exact upd_same), TPlank, NPlank.stakes, (by show 1 < 1000; decide), ?_⟩
    refine ⟨_, rfl, _, rfl, p, CPlank, dx, _, rfl, upd_same, TPlank, NPlank.limit, ?_, ?_⟩
    · show (putF "stakes" (V.ref st) [("long", V.int long)]).length < 1000
      have := length_putF "stakes" (V.ref st) [("long", V.int long)]
      simp at this
      omega
    · have nst1 : H1 st = none := by
        rw [upd_ne (Ne.symm nps)] at nst
        exact nst
      have st0 : H0 st = none := (s0.trans s1).free nst1
      have tu : Tu H1 (upd (upd (upd (upd H1 p (.ins CPlank dx (putF "long" (.int long) []))) st (.tup xs)) p (.ins CPlank dx (putF "stakes" (.ref st) (putF "long" (.int long) [])))) p (.ins CPlank dx (plF long st))) := by
        refine (Tu.upd (o := .ins CPlank dx (putF "long" (.int long) [])) hp1 trivial).trans ?_
        refine (Tu.new (o := .tup xs) nst).trans ?_
        refine (Tu.upd (o := .ins CPlank dx (putF "stakes" (.ref st) (putF "long" (.int long) []))) (u := .ins CPlank dx (putF "long" (.int long) [])) (by rw [upd_ne nps]; exact upd_same) trivial).trans ?_
        exact Tu.upd upd_same trivial
      refine k _ ?_ ⟨p, dx, st, xs, rfl, upd_same, ?_, ?_⟩
      · exact ((((s0.trans s1).mut p0).mut st0).mut p0).mut p0
      · rw [upd_ne (Ne.symm nps), upd_ne (Ne.symm nps)]
        exact upd_same
      · exact pr_mono hx fun _ _ h => h.mono (s1.tu.trans tu)
abbrev s_Plank_length : Stmt := inClass (topS 29) 2
abbrev n_Plank_length : List Str := ["self"]
theorem sc_Plank_length : FnScope n_Plank_length ["self"] (defScope s_Plank_length) := ⟨rfl, rfl, rfl, by decide +kernel, rfl, by decide +kernel, by decide +kernel⟩
theorem ok_Plank_length {f : Addr} {fd : FuncData} (F : Fun K "length" "Plank.length" s_Plank_length f fd) (T : Txt K mg aN aO tL tM tP)  (TPlank : Cls K CPlank) (NPlank : PlankNo K CPlank) : FnOk P w K mg base CX0 1 f fd ["self"] (spLength K CPlank) := by
  have sc := sc_Plank_length
  refine F.ok sc (fun vs H Q E h => ?_) (fun cdv A outer s H vs Q E hr h => ?_)
  · (repeat (rcases h with ⟨_, h⟩))
    subst_vars
    rfl
  · obtain ⟨v, long, ss, rfl, ⟨a, dx, st, vs, rfl, ha, hst, hp⟩, k⟩ := h
    refine ⟨_, (pss_one (ps_ret (pe_fldK K (pv 0)))), ?_⟩
    exact ⟨_, rfl, a, _, dx, _, _, rfl, ha, TPlank, NPlank.long, pl_long _ _, k⟩
abbrev s_Plank_count : Stmt := inClass (topS 29) 5
abbrev n_Plank_count : List Str := ["self"]
theorem sc_Plank_count : FnScope n_Plank_count ["self"] (defScope s_Plank_count) := ⟨rfl, rfl, rfl, by decide +kernel, rfl, by decide +kernel, by decide +kernel⟩
theorem ok_Plank_count {f : Addr} {fd : FuncData} (F : Fun K "count" "Plank.count" s_Plank_count f fd) (T : Txt K mg aN aO tL tM tP)  (TPlank : Cls K CPlank) (NPlank : PlankNo K CPlank) : FnOk P w K mg base CX0 1 f fd ["self"] (spCount K CPlank) := by
  have sc := sc_Plank_count
  refine F.ok sc (fun vs H Q E h => ?_) (fun cdv A outer s H vs Q E hr h => ?_)
  · (repeat (rcases h with ⟨_, h⟩))
    subst_vars
    rfl
  · obtain ⟨v, long, ss, rfl, ⟨a, dx, st, vs, rfl, ha, hst, hp⟩, k⟩ := h
    rw [← pr_len hp] at k
    refine ⟨_, (pss_one (ps_ret (pe_callB (cLen K) (by rfl) T.blen (by decide +kernel) (pa_cons (pe_fldK K (pv 0)) pa_nil)))), ?_⟩
    exact ⟨_, rfl, a, _, dx, _, _, rfl, ha, TPlank, NPlank.stakes, pl_stakes _ _, st, _, rfl, .inr (SqT.of hst), k⟩
abbrev s_Plank_props : Stmt := inClass (topS 29) 3
abbrev n_Plank_props : List Str := ["self"]
theorem sc_Plank_props : FnScope n_Plank_props ["self"] (defScope s_Plank_props) := ⟨rfl, rfl, rfl, by decide +kernel, rfl, by decide +kernel, by decide +kernel⟩
theorem ok_Plank_props {f : Addr} {fd : FuncData} (F : Fun K "props" "Plank.props" s_Plank_props f fd) (T : Txt K mg aN aO tL tM tP)  (TPlank : Cls K CPlank) (NPlank : PlankNo K CPlank) : FnOk P w K mg base CX0 1 f fd ["self"] (spProps K CPlank) := by
  have sc := sc_Plank_props
  refine F.ok sc (fun vs H Q E h => ?_) (fun cdv A outer s H vs Q E hr h => ?_)
  · (repeat (rcases h with ⟨_, h⟩))
    subst_vars
    rfl
  · obtain ⟨v, long, ss, rfl, ⟨a, dx, st, vs, rfl, ha, hst, hp⟩, k⟩ := h
    refine ⟨_, (pss_one (ps_ret (pe_callTy (cList K) (by rfl) T.blist (by decide +kernel) (pa_cons (pe_fldK K (pv 0)) pa_nil)))), ?_⟩
    exact ⟨_, rfl, a, _, dx, _, _, rfl, ha, TPlank, NPlank.stakes, pl_stakes _ _, st, _, rfl, .inr (SqT.of hst), fun p np => k p _ np hp⟩
abbrev s_Plank_place_of : Stmt := inClass (topS 29) 6
abbrev n_Plank_place_of : List Str := ["self", "rest"]
theorem sc_Plank_place_of : FnScope n_Plank_place_of ["self", "rest"] (defScope s_Plank_place_of) := ⟨rfl, rfl, rfl, by decide +kernel, rfl, by decide +kernel, by decide +kernel⟩
theorem ok_Plank_place_of {f : Addr} {fd : FuncData} (F : Fun K "place_of" "Plank.place_of" s_Plank_place_of f fd) (T : Txt K mg aN aO tL tM tP) (G_is_whole : Fn P w K mg base 1 "is_whole" ["thing"] spIsWhole) (G_Plank_count : MFn P w K mg base 1 CPlank "count" ["self"] (spCount K CPlank)) (TPlank : Cls K CPlank) (NPlank : PlankNo K CPlank) : FnOk P w K mg base CX0 2 f fd ["self", "rest"] (spPlaceOf K CPlank) := by
  have sc := sc_Plank_place_of
  refine F.ok sc (fun vs H Q E h => ?_) (fun cdv A outer s H vs Q E hr h => ?_)
  · (repeat (rcases h with ⟨_, h⟩))
    subst_vars
    rfl
  · obtain ⟨v, long, ss, r, rfl, ⟨a, dx, st, vs, rfl, ha, hst, hp⟩, h1, h2, k⟩ := h
    have el := pr_len hp
    have pl : PlankAt K CPlank H (.ref a) long ss := ⟨a, dx, st, vs, rfl, ha, hst, hp⟩
    have lk : (plF long st).lookup ("count" : Str) = none := pl_no _ _ (by decide +kernel) (by decide +kernel) (by decide +kernel)
    refine ⟨_, (pss_cons (ps_if (PW.pt (pw_or (pt_not (pt_val (pe_fn G_is_whole hr (pa_cons (pv 1) pa_nil)))) (pw_or1 (pt_not (pt_chain op_le op_le (pe_glob (v := .int (-1)) rfl T.mLEFT_WALL ⟨_, rfl⟩) (pv 1) (pe_mfn0 G_Plank_count TPlank hr (pv 0)))))))
 pss_never
 pss_nil)
 (pss_cons (ps_if (pt_cmpR op_eq (pv 1) (pe_glob (v := .int (-1)) rfl T.mLEFT_WALL ⟨_, rfl⟩) (nomark _))
 (pss_one (ps_ret pe_int))
 pss_nil)
 (pss_one (ps_ret (pe_ifExp (pt_cmpR op_eq (pv 1) (pe_mfn0 G_Plank_count TPlank hr (pv 0)) (nomark _)) (pe_fldK K (pv 0)) (pe_ix (ixT K) (pe_ix (ixT K) (pe_fldK K (pv 0)) (pv 1) (fun _ _ => rfl)) pe_int (fun _ _ => rfl))))))), ?_⟩
    refine ⟨_, rfl, _, rfl, _, rfl, ?_⟩
    refine ifF rfl ?_
    refine ⟨_, rfl, _, _, rfl, rfl, _, rfl, ?_⟩
    refine ifT (decide_eq_true h1) ?_
    refine ⟨_, rfl, a, dx, _, rfl, ha, lk, _, long, ss, rfl, pl, _, _, rfl, rfl, _, rfl, ?_⟩
    rw [decide_eq_true h2]
    refine ifF rfl ?_
    refine ⟨_, rfl, rfl, _, rfl, ?_⟩
    unfold placeOf at k
    refine ifB (fun c => ?_) (fun c => ?_)
    · have e : r = -1 := by simpa using c
      rw [if_pos e] at k
      exact k
    · have e : ¬ r = -1 := by simpa using c
      rw [if_neg e] at k
      refine ⟨_, rfl, _, rfl, a, dx, _, rfl, ha, lk, _, long, ss, rfl, pl, rfl, _, rfl, ?_⟩
      refine ifB (fun c => ?_) (fun c => ?_)
      · have e2 : r = (ss.length : Int) := by simpa using c
        rw [if_pos e2] at k
        exact ⟨_, rfl, a, _, dx, _, _, rfl, ha, TPlank, NPlank.long, pl_long _ _, k⟩
      · have e2 : ¬ r = (ss.length : Int) := by simpa using c
        rw [if_neg e2] at k
        have hr2 : r.toNat < ss.length := by omega
        obtain ⟨v2, hv2, t, sv, rfl, ht, hf⟩ := pr_get hp (List.getElem?_eq_getElem hr2)
        refine ⟨_, rfl, a, _, dx, _, _, rfl, ha, TPlank, NPlank.stakes, pl_stakes _ _, _, rfl, st, _, _, _, rfl, rfl, SqT.of hst, at_of (j := r.toNat) (by omega) hv2, t, _, _, _, rfl, rfl, ht, rfl, ?_⟩
        have e3 : (ss.map (·.1)).getD r.toNat 0 = ss[r.toNat].1 := by
          rw [List.getD_eq_getElem?_getD, List.getElem?_map, List.getElem?_eq_getElem hr2]
          rfl
        rw [e3] at k
        exact k
abbrev s_lot_of : Stmt := topS 31
abbrev n_lot_of : List Str := ["plank", "lot"]
theorem sc_lot_of : FnScope n_lot_of ["plank", "lot"] (defScope s_lot_of) := ⟨rfl, rfl, rfl, by decide +kernel, rfl, by decide +kernel, by decide +kernel⟩
theorem ok_lot_of {f : Addr} {fd : FuncData} (F : Fun K "lot_of" "lot_of" s_lot_of f fd) (T : Txt K mg aN aO tL tM tP) (G_Plank_count : MFn P w K mg base 1 CPlank "count" ["self"] (spCount K CPlank)) (TPlank : Cls K CPlank) (NPlank : PlankNo K CPlank) : FnOk P w K mg base CX0 2 f fd ["plank", "lot"] (spLotOf K CPlank) := by
  have sc := sc_lot_of
  refine F.ok sc (fun vs H Q E h => ?_) (fun cdv A outer s H vs Q E hr h => ?_)
  · (repeat (rcases h with ⟨_, h⟩))
    subst_vars
    rfl
  · obtain ⟨v, long, ss, rfl, pl, hf, k⟩ := h
    obtain ⟨a, dx, st, vs, rfl, ha, hst, hp⟩ := id pl
    have lk : (plF long st).lookup ("count" : Str) = none := pl_no _ _ (by decide +kernel) (by decide +kernel) (by decide +kernel)
    refine ⟨_, (pss_cons (ps_if (pt_cmpR op_isN (pv 1) pe_non (nomark _))
 (pss_one (ps_ret (pe_tupRg rfl (by rfl) T.btuple (prg_1 (by rfl) T.brange (pe_mfn0 G_Plank_count TPlank hr (pv 0)) rfl) rfl)))
 pss_nil)
 pss_never), ?_⟩
    refine ⟨_, rfl, rfl, _, rfl, ?_⟩
    refine ifT rfl ?_
    refine ⟨_, rfl, a, dx, _, rfl, ha, lk, _, long, ss, rfl, pl, _, rfl, RgOk.of_le (by decide) (by omega) (by decide) (by omega), fun p np => ?_⟩
    rw [rgV_full]
    exact k p np
abbrev s_rests_of : Stmt := topS 32
abbrev n_rests_of : List Str := ["plank", "lot"]
theorem sc_rests_of : FnScope n_rests_of ["plank", "lot"] (defScope s_rests_of) := ⟨rfl, rfl, rfl, by decide +kernel, rfl, by decide +kernel, by decide +kernel⟩
theorem ok_rests_of {f : Addr} {fd : FuncData} (F : Fun K "rests_of" "rests_of" s_rests_of f fd) (T : Txt K mg aN aO tL tM tP) (G_Plank_count : MFn P w K mg base 1 CPlank "count" ["self"] (spCount K CPlank)) (TPlank : Cls K CPlank) (NPlank : PlankNo K CPlank) : FnOk P w K mg base CX0 2 f fd ["plank", "lot"] (spRestsOf K CPlank) := by
  have sc := sc_rests_of
  refine F.ok sc (fun vs H Q E h => ?_) (fun cdv A outer s H vs Q E hr h => ?_)
  · (repeat (rcases h with ⟨_, h⟩))
    subst_vars
    rfl
  · obtain ⟨v, u, long, ss, L, rfl, pl, ⟨q, rfl, hq⟩, hL, k⟩ := h
    refine ⟨_, (pss_one (ps_ret (pe_op (oCatT K) (pe_op (oCatT K) (pe_tup (pa_cons (pe_glob (v := .int (-1)) rfl T.mLEFT_WALL ⟨_, rfl⟩) pa_nil)) (pv 1)) (pe_tup (pa_cons (pe_mfn0 G_Plank_count TPlank hr (pv 0)) pa_nil))))), ?_⟩
    refine ⟨(by show 1 ≤ sizeLine; decide), fun p np => ⟨_, rfl, ?_⟩⟩
    refine rCat_of upd_same ((Same.new np).tu.sqT hq) (by simp) (by simp; omega) fun H1 p1 s1 h1 => ?_
    have s01 := (Same.new np).trans s1
    obtain ⟨a, dx, st, vs, rfl, ha, hst, hp⟩ := pl.mono s01
    have lk : (plF long st).lookup ("count" : Str) = none := pl_no _ _ (by decide +kernel) (by decide +kernel) (by decide +kernel)
    refine ⟨_, rfl, a, dx, _, rfl, ha, lk, _, long, ss, rfl, pl.mono s01, (by show 1 ≤ sizeLine; decide), fun p2 np2 => ?_⟩
    refine rCat_of (Same.new np2 _ _ h1) (SqT.of upd_same) (by simp) (by simp; omega) fun H2 p3 s2 h2 => ?_
    refine k _ _ (s01.trans ((Same.new np2).trans s2)) ?_
    rw [h2]
    unfold restsL
    simp
abbrev s_is_spot : Stmt := topS 34
abbrev n_is_spot : List Str := ["plank", "thing"]
theorem sc_is_spot : FnScope n_is_spot ["plank", "thing"] (defScope s_is_spot) := ⟨rfl, rfl, rfl, by decide +kernel, rfl, by decide +kernel, by decide +kernel⟩
theorem ok_is_spot {f : Addr} {fd : FuncData} (F : Fun K "is_spot" "is_spot" s_is_spot f fd) (T : Txt K mg aN aO tL tM tP) (G_is_measure : Fn P w K mg base 3 "is_measure" ["thing"] (spIsMeas K)) (G_is_below : Fn P w K mg base 1 "is_below" ["one", "other"] (spBelow K)) (G_whole : Fn P w K mg base 1 "whole" ["number"] spWhole) (G_Plank_length : MFn P w K mg base 1 CPlank "length" ["self"] (spLength K CPlank)) (TPlank : Cls K CPlank) (NPlank : PlankNo K CPlank) : FnOk P w K mg base CX0 4 f fd ["plank", "thing"] (spIsSpot K CPlank) := by
  have sc := sc_is_spot
  refine F.ok sc (fun vs H Q E h => ?_) (fun cdv A outer s H vs Q E hr h => ?_)
  · (repeat (rcases h with ⟨_, h⟩))
    subst_vars
    rfl
  · obtain ⟨v, u, long, ss, q, rfl, pl, G, hq, hb, h0, h1, k⟩ := h
    have g1 := G.lo
    have g2 := G.hi
    refine ⟨_, (pss_one (ps_ret (pe_and (pe_fn G_is_measure hr (pa_cons (pv 1) pa_nil)) (pe_one (pe_not (pe_fn G_is_below hr (pa_cons (pe_fn G_whole hr (pa_cons (pe_mfn0 G_Plank_length TPlank hr (pv 0)) pa_nil)) (pa_cons (pv 1) pa_nil)))))))), ?_⟩
    refine ⟨_, rfl, u, q, 110, rfl, hq, hb, by decide, h0, fun H1 s1 => ⟨_, rfl, ?_⟩⟩
    refine iteT ?_
    obtain ⟨a, dx, st, vs, rfl, ha, hst, hp⟩ := pl.mono s1
    have lk : (plF long st).lookup ("length" : Str) = none := pl_no _ _ (by decide +kernel) (by decide +kernel) (by decide +kernel)
    refine ⟨_, rfl, a, dx, _, rfl, ha, lk, _, long, ss, rfl, pl.mono s1, _, rfl, fun H2 v2 s2 f2 => ?_⟩
    refine ⟨_, rfl, _, _, (long : Rat), q, 10, 110, rfl, f2.fr, hq.mono (s1.trans s2).tu, bd10 (by omega) g2, hb, by decide, _, rfl, ?_⟩
    have e : decide ((long : Rat) < q) = false := decide_eq_false (Rat.not_lt.mpr h1)
    rw [e]
    exact k _ (s1.trans s2)
abbrev s_is_weight : Stmt := topS 35
abbrev n_is_weight : List Str := ["plank", "thing"]
theorem sc_is_weight : FnScope n_is_weight ["plank", "thing"] (defScope s_is_weight) := ⟨rfl, rfl, rfl, by decide +kernel, rfl, by decide +kernel, by decide +kernel⟩
theorem ok_is_weight {f : Addr} {fd : FuncData} (F : Fun K "is_weight" "is_weight" s_is_weight f fd) (T : Txt K mg aN aO tL tM tP) (G_is_spot : Fn P w K mg base 4 "is_spot" ["plank", "thing"] (spIsSpot K CPlank)) (G_is_fraction : Fn P w K mg base 2 "is_fraction" ["thing"] (spIsFrac K)) (G_is_below : Fn P w K mg base 1 "is_below" ["one", "other"] (spBelow K)) (TPlank : Cls K CPlank) (NPlank : PlankNo K CPlank) : FnOk P w K mg base CX0 5 f fd ["plank", "thing"] (spIsWeight K CPlank) := by
  have sc := sc_is_weight
  refine F.ok sc (fun vs H Q E h => ?_) (fun cdv A outer s H vs Q E hr h => ?_)
  · (repeat (rcases h with ⟨_, h⟩))
    subst_vars
    rfl
  · obtain ⟨v, u, long, ss, h, rfl, pl, G, ⟨t, x, y, rfl, ht, hx, hy⟩, ⟨g1, g2, g3, g4, g5⟩, k⟩ := h
    refine ⟨_, (pss_cons (ps_if (PW.pt (pw_or (pt_not (pt_val (pe_callB (cIsi K) (by rfl) T.bisinstance (by decide +kernel) (pa_cons (pv 1) (pa_cons (pe_bltn (v := .ty "tuple") (by rfl) T.btuple (by decide +kernel) rfl) pa_nil))))) (pw_or1 (pt_cmpR op_ne (pe_callB (cLen K) (by rfl) T.blen (by decide +kernel) (pa_cons (pv 1) pa_nil)) pe_int (nomark _)))))
 (pss_one (ps_ret pe_bl))
 pss_nil)
 (pss_one (ps_ret (pe_and (pe_fn G_is_spot hr (pa_cons (pv 0) (pa_cons (pe_ix (ixT K) (pv 1) pe_int (fun _ _ => rfl)) pa_nil))) (pe_and (pe_fn G_is_fraction hr (pa_cons (pe_ix (ixT K) (pv 1) pe_int (fun _ _ => rfl)) pa_nil)) (pe_one (pe_fn G_is_below hr (pa_cons (pe_glob (v := .ref aN) rfl T.mNOUGHT rfl) (pa_cons (pe_ix (ixT K) (pv 1) pe_int (fun _ _ => rfl)) pa_nil))))))))), ?_⟩
    refine ⟨_, rfl, _, _, _, _, true, rfl, .ty "tuple", tyT ht, kit_ty (by decide +kernel), _, rfl, ?_⟩
    refine ifF rfl ?_
    refine ⟨_, rfl, t, _, rfl, .inr ht, rfl, _, rfl, ?_⟩
    refine ifF rfl ?_
    refine ⟨_, rfl, _, rfl, _, _, _, _, rfl, rfl, ht, rfl, _, _, long, ss, h.1, rfl, pl, G, hx, g1, g3, g4, fun H1 s1 => ⟨_, rfl, ?_⟩⟩
    refine iteT ?_
    refine ⟨_, rfl, _, _, _, _, rfl, rfl, s1.tu.sqT ht, rfl, _, h.2, rfl, hy.mono s1.tu, fun H2 s2 => ⟨_, rfl, ?_⟩⟩
    refine iteT ?_
    refine ⟨_, rfl, _, _, _, _, rfl, rfl, (s1.trans s2).tu.sqT ht, rfl, _, _, 0, h.2, 1, 110, rfl, fr0 T _, hy.mono (s1.trans s2).tu, bd0, g2, by decide, ?_⟩
    rw [decide_eq_true g5]
    exact k _ (s1.trans s2)
abbrev s_check_weights : Stmt := topS 36
abbrev n_check_weights : List Str := ["plank", "thing", "at", "one"]
theorem sc_check_weights : FnScope n_check_weights ["plank", "thing"] (defScope s_check_weights) := ⟨rfl, rfl, rfl, by decide +kernel, rfl, by decide +kernel, by decide +kernel⟩
theorem ok_check_weights {f : Addr} {fd : FuncData} (F : Fun K "check_weights" "check_weights" s_check_weights f fd) (T : Txt K mg aN aO tL tM tP) (G_is_weight : Fn P w K mg base 5 "is_weight" ["plank", "thing"] (spIsWeight K CPlank)) (TPlank : Cls K CPlank) (NPlank : PlankNo K CPlank) : FnOk P w K mg base CX0 6 f fd ["plank", "thing"] (spCheckW K CPlank) := by
  have sc := sc_check_weights
  refine F.ok sc (fun vs H Q E h => ?_) (fun cdv A outer s H vs Q E hr h => ?_)
  · (repeat (rcases h with ⟨_, h⟩))
    subst_vars
    rfl
  · obtain ⟨v, l, xs, long, ss, hs, rfl, pl, G, hl, hx, hg, k⟩ := h
    have el := pr_len hx
    refine ⟨_, (pss_cons (ps_if (pt_not (pt_val (pe_callB (cIsi K) (by rfl) T.bisinstance (by decide +kernel) (pa_cons (pv 1) (pa_cons (pe_bltn (v := .ty "list") (by rfl) T.blist (by decide +kernel) rfl) pa_nil)))))
 pss_never
 pss_nil)
 (pss_one (ps_for PassesOwn.never rfl (pi_enum (by rfl) T.benumerate (pa_cons (pv 1) pa_nil)) (pg_tup rfl (pgs_cons (pg_name (i := 2) sc.nd rfl (Or.inl rfl)) (pgs_cons (pg_name (i := 3) sc.nd rfl (Or.inl rfl)) pgs_nil)))
 (pss_one (ps_if (pt_not (pt_val (pe_fn G_is_weight hr (pa_cons (pv 0) (pa_cons (pv 3) pa_nil)))))
 pss_never
 pss_nil))))), ?_⟩
    refine ⟨_, rfl, _, _, _, _, true, rfl, .ty "list", tyL hl, kit_ty (by decide +kernel), _, rfl, ?_⟩
    refine ifF rfl ?_
    refine ⟨_, rfl, l, _, rfl, SqL.of hl, for_it walk_enum (fun i σ H' => Same H H' ∧ ∃ c d, σ = [some v, some (.ref l), c, d]) ⟨Same.refl _, _, _, rfl⟩ (fun i σ H' _ p => p.1.seq (SqL.of hl)) ?_ ?_⟩
    · rintro i x σ H1 H2 hi ⟨s1, c, d, rfl⟩ ⟨T2, x1, x2, rfl, nT, rfl, _, h2⟩
      have s2 : Same H1 (upd H1 T2 (.tup [x1, x2])) := Same.new nT
      obtain ⟨a, ha, fa⟩ := pr_get' hx h2
      refine ⟨T2, _, rfl, SqT.of upd_same, rfl, _, _, rfl, _, _, rfl, rfl, ?_⟩
      refine ⟨_, rfl, _, rfl, v, x2, long, ss, a, rfl, pl.mono (s1.trans s2), G, fa.mono (s1.trans s2).tu, hg a (List.mem_of_getElem? ha), fun H3 s3 => ⟨_, rfl, ?_⟩⟩
      refine ifF rfl ?_
      exact ⟨(s1.trans s2).trans s3, _, _, rfl⟩
    · rintro σ H1 ⟨s1, c, d, rfl⟩
      exact k _ s1
abbrev s_slope : Stmt := topS 37
abbrev n_slope : List Str := ["low", "high", "spot"]
theorem sc_slope : FnScope n_slope ["low", "high", "spot"] (defScope s_slope) := ⟨rfl, rfl, rfl, by decide +kernel, rfl, by decide +kernel, by decide +kernel⟩
theorem ok_slope {f : Addr} {fd : FuncData} (F : Fun K "slope" "slope" s_slope f fd) (T : Txt K mg aN aO tL tM tP) (G_over : Fn P w K mg base 3 "over" ["one", "other"] (sp2 K (fun a b => a / b) (fun _ b => 0 < b))) (G_less : Fn P w K mg base 3 "less" ["one", "other"] (sp2 K (fun a b => a - b) (fun _ _ => True))) (G_whole : Fn P w K mg base 1 "whole" ["number"] spWhole) : FnOk P w K mg base CX0 4 f fd ["low", "high", "spot"] (spSlope K) := by
  have sc := sc_slope
  refine F.ok sc (fun vs H Q E h => ?_) (fun cdv A outer s H vs Q E hr h => ?_)
  · (repeat (rcases h with ⟨_, h⟩))
    subst_vars
    rfl
  · obtain ⟨lo, hi, u, q, n, rfl, h0, h1, h2, hq, hb, hn, k⟩ := h
    have b1 := bd10 h0 (by omega)
    have b2 := bd10 (i := hi - lo) (by omega) (by omega)
    refine ⟨_, (pss_one (ps_ret (pe_fn G_over hr (pa_cons (pe_fn G_less hr (pa_cons (pv 2) (pa_cons (pe_fn G_whole hr (pa_cons (pv 0) pa_nil)) pa_nil))) (pa_cons (pe_fn G_whole hr (pa_cons (pe_op op_sub (pv 1) (pv 0)) pa_nil)) pa_nil))))), ?_⟩
    refine ⟨_, rfl, _, rfl, _, rfl, fun H1 v1 s1 f1 => ?_⟩
    refine ⟨u, v1, q, (lo : Rat), n, 10, rfl, hq.mono s1.tu, f1.fr, hb, b1, by omega, trivial, fun H2 v2 s2 f2 => ?_⟩
    refine ⟨_, rfl, _, rfl, _, _, rfl, rfl, _, rfl, fun H3 v3 s3 f3 => ?_⟩
    refine ⟨v2, v3, _, ((hi - lo : Int) : Rat), _, 10, rfl, f2.fr.mono s3.tu, f3.fr, hb.sub b1, b2, by omega, ipos (by omega), fun H4 v4 s4 f4 => ?_⟩
    exact k _ _ ((s1.trans s2).trans (s3.trans s4)) f4
end
end PF
end
section
set_option maxHeartbeats 4000000
set_option exponentiation.threshold 20000
namespace PF
open PySem L2
/-! ### equal fractions -/
def frD (q : Rat) : PyData := .tuple [.int q.num, .int (q.den : Int)]
theorem fr_dp {K : PySem.W.Frag} {H : Hp} {v : V} {q : Rat} (h : Fr K H v q) : Dp K H v (frD q) := by
  obtain ⟨p, rfl, hp⟩ := h
  exact .tup hp (.cons (.int _) (.cons (.int _) .nil))
theorem frD_eq (a b : Rat) : PyData.eqv (frD a) (frD b) = decide (a = b) := by
  have e : PyData.eqv (frD a) (frD b) = ((a.num == b.num) && (((a.den : Int) == (b.den : Int)) && true)) := by
    unfold frD
    simp only [PyData.eqv, PyData.eqvAll]
  rw [e, Bool.and_true, Bool.eq_iff_iff, Bool.and_eq_true, beq_iff_eq, beq_iff_eq, decide_eq_true_eq]
  exact eq_iff a b
theorem frD_sh (a : Rat) : SeqAt.shaped (frD a) = true := rfl
/-! ### loads in the heap -/
def loF (pq : V) (wl dk dv : Addr) : List (Str × V) := putF "over" (.ref dv) (putF "known" (.ref dk) (putF "weights" (.ref wl) (putF "plank" pq [])))
theorem lo_plank (pq : V) (a b c : Addr) : (loF pq a b c).lookup ("plank" : Str) = some pq := by
  unfold loF
  rw [lookup_putF, if_neg (by decide +kernel), lookup_putF, if_neg (by decide +kernel), lookup_putF, if_neg (by decide +kernel), lookup_putF, if_pos rfl]
theorem lo_weights (pq : V) (a b c : Addr) : (loF pq a b c).lookup ("weights" : Str) = some (.ref a) := by
  unfold loF
  rw [lookup_putF, if_neg (by decide +kernel), lookup_putF, if_neg (by decide +kernel), lookup_putF, if_pos rfl]
theorem lo_known (pq : V) (a b c : Addr) : (loF pq a b c).lookup ("known" : Str) = some (.ref b) := by
  unfold loF
  rw [lookup_putF, if_neg (by decide +kernel), lookup_putF, if_pos rfl]
theorem lo_no (pq : V) (a b c : Addr) {m : Str} (h1 : ¬ m = "over") (h2 : ¬ m = "known") (h3 : ¬ m = "weights") (h4 : ¬ m = "plank") : (loF pq a b c).lookup m = none := by
  unfold loF
  rw [lookup_putF, if_neg h1, lookup_putF, if_neg h2, lookup_putF, if_neg h3, lookup_putF, if_neg h4]
  rfl
structure LoadsNo (K : PySem.W.Frag) (C : Addr) : Prop where
  plank : NoAttr K C "plank"
  weights : NoAttr K C "weights"
  known : NoAttr K C "known"
  over : NoAttr K C "over"
/-- only the dict with tuple keys at d may have changed -/
structure SX (d : Addr) (H H' : Hp) : Prop where
  keep : ∀ b o, b ≠ d → H b = some o → H' b = some o
  d0 : ∃ kvs, H d = some (.dT kvs)
  d1 : ∃ kvs, H' d = some (.dT kvs)
section
variable {K : PySem.W.Frag} {d : Addr} {H H1 H2 H' : Hp}
theorem SX.trans (a : SX d H H1) (b : SX d H1 H2) : SX d H H2 := ⟨fun c o hc h => b.keep c o hc (a.keep c o hc h), a.d0, b.d1⟩
theorem SX.at (s : SX d H H') {b : Addr} {o : HO} (h : H b = some o) (n : ∀ kvs, o ≠ .dT kvs) : H' b = some o := by
  refine s.keep b o (fun z => ?_) h
  obtain ⟨kvs, e⟩ := s.d0
  rw [z, e] at h
  cases h
  exact n kvs rfl
theorem SX.tu (s : SX d H H') : Tu H H' := ⟨fun b xs h => s.at h (fun _ q => by cases q), fun b o xs h => s.at h (fun _ q => by cases q)⟩
theorem SX.of (s : Same H H') (h : ∃ kvs, H d = some (.dT kvs)) : SX d H H' := ⟨fun b o _ e => s b o e, h, by obtain ⟨kvs, e⟩ := h; exact ⟨kvs, s _ _ e⟩⟩
theorem SX.same {H0 : Hp} (s : SX d H H') (h0 : Same H0 H) (n : H0 d = none) : Same H0 H' := fun b o e => s.keep b o (fun z => by rw [z, n] at e; cases e) (h0 b o e)
theorem SX.put {kvs kvs' : List (List Key × V)} (h : H d = some (.dT kvs)) : SX d H (upd H d (.dT kvs')) := ⟨fun b o hb e => by rw [upd_ne hb]; exact e, ⟨_, h⟩, ⟨_, upd_same⟩⟩
theorem PlankAt.monoX {C : Addr} {v : V} {long : Int} {ss : List (Int × Rat)} (s : SX d H H') (h : PlankAt K C H v long ss) : PlankAt K C H' v long ss := by
  obtain ⟨a, dx, st, vs, e, h1, h2, h3⟩ := h
  exact ⟨a, dx, st, vs, e, s.at h1 (fun _ q => by cases q), s.at h2 (fun _ q => by cases q), pr_mono h3 fun _ _ h => h.mono s.tu⟩
end
def kyK (k : Ky) : List Key := [.inl k.1, .inl k.2.1, .inl k.2.2]
theorem kyK_V (k : Ky) : (kyK k).map kV = [.int k.1, .int k.2.1, .int k.2.2] := rfl
theorem kyK_inj {a b : Ky} (h : kyK a = kyK b) : a = b := by
  obtain ⟨a1, a2, a3⟩ := a
  obtain ⟨b1, b2, b3⟩ := b
  unfold kyK at h
  simp at h
  obtain ⟨h1, h2, h3⟩ := h
  subst h1 h2 h3
  rfl
def KnownOk (K : PySem.W.Frag) (H : Hp) (W : Wd) (kvs : List (List Key × V)) : Prop := (kvs.map (·.1)).Nodup ∧ ∀ e ∈ kvs, ∃ k, GoodKey W.ss.length k ∧ e.1 = kyK k ∧ Fr K H e.2 (loadOf W k)
theorem KnownOk.mono {K : PySem.W.Frag} {H H' : Hp} {W : Wd} {kvs : List (List Key × V)} (u : Tu H H') (h : KnownOk K H W kvs) : KnownOk K H' W kvs :=
  ⟨h.1, fun e he => by obtain ⟨k, a, b, c⟩ := h.2 e he; exact ⟨k, a, b, c.mono u⟩⟩
def codeK (k : Ky) : Nat := ((k.1 + 1).toNat * 14 + k.2.1.toNat) * 14 + k.2.2.toNat
theorem codeK_lt {n : Nat} {k : Ky} (hn : n ≤ 12) (g : GoodKey n k) : codeK k < 2744 := by
  obtain ⟨g1, g2, g3, g4, g5⟩ := g
  unfold codeK
  omega
theorem codeK_inj {n : Nat} {a b : Ky} (hn : n ≤ 12) (g : GoodKey n a) (g' : GoodKey n b) (h : codeK a = codeK b) : a = b := by
  obtain ⟨g1, g2, g3, g4, g5⟩ := g
  obtain ⟨q1, q2, q3, q4, q5⟩ := g'
  obtain ⟨a1, a2, a3⟩ := a
  obtain ⟨b1, b2, b3⟩ := b
  unfold codeK at h
  dsimp only at *
  have e1 : a1 = b1 := by omega
  have e2 : a2 = b2 := by omega
  have e3 : a3 = b3 := by omega
  subst e1 e2 e3
  rfl
theorem known_len {K : PySem.W.Frag} {H : Hp} {W : Wd} {kvs : List (List Key × V)} (hn : W.ss.length ≤ 12) (h : KnownOk K H W kvs) : kvs.length ≤ 2744 := by
  have key : ∀ l : List (List Key × V), (l.map (·.1)).Nodup → (∀ e ∈ l, ∃ k, GoodKey W.ss.length k ∧ e.1 = kyK k) → ∃ cs : List Nat, cs.length = l.length ∧ cs.Nodup ∧ (∀ c ∈ cs, ∃ k, GoodKey W.ss.length k ∧ c = codeK k ∧ ∃ e ∈ l, e.1 = kyK k) := by
    intro l
    induction l with
    | nil => intro _ _; exact ⟨[], rfl, List.nodup_nil, fun c hc => by simp at hc⟩
    | cons e r ih =>
      intro nd hk
      rw [List.map_cons, List.nodup_cons] at nd
      obtain ⟨cs, h1, h2, h3⟩ := ih nd.2 fun x hx => hk x (List.mem_cons_of_mem _ hx)
      obtain ⟨k, g, ek⟩ := hk e List.mem_cons_self
      refine ⟨codeK k :: cs, by rw [List.length_cons, h1, List.length_cons], ?_, ?_⟩
      · refine List.nodup_cons.mpr ⟨fun hm => ?_, h2⟩
        obtain ⟨k', g', ec, e', he', ek'⟩ := h3 _ hm
        have := codeK_inj hn g g' ec
        subst this
        exact nd.1 (List.mem_map.mpr ⟨e', he', by rw [ek', ek]⟩)
      · intro c hc
        rcases List.mem_cons.mp hc with rfl | hc
        · exact ⟨k, g, rfl, e, List.mem_cons_self, ek⟩
        · obtain ⟨k', g', ec, e', he', ek'⟩ := h3 _ hc
          exact ⟨k', g', ec, e', List.mem_cons_of_mem _ he', ek'⟩
  obtain ⟨cs, h1, h2, h3⟩ := key kvs h.1 fun e he => by obtain ⟨k, a, b, _⟩ := h.2 e he; exact ⟨k, a, b⟩
  rw [← h1]
  have := nat_nodup_len cs (List.range 2744) h2 fun c hc => by
    obtain ⟨k, g, rfl, _⟩ := h3 c hc
    exact List.mem_range.mpr (codeK_lt hn g)
  rw [List.length_range] at this
  exact this
def LoadsAt (K : PySem.W.Frag) (CP C : Addr) (H : Hp) (v : V) (W : Wd) (dk : Addr) : Prop :=
  ∃ (a dx wl dv : Addr) (pq : V) (ws : List V) (kvs : List (List Key × V)), v = .ref a ∧ H a = some (.ins C dx (loF pq wl dk dv)) ∧ PlankAt K CP H pq W.long W.ss ∧ H wl = some (.lst ws) ∧ Paired (Hvy K H) ws W.heavy ∧ H dk = some (.dT kvs) ∧ KnownOk K H W kvs
section
variable {K : PySem.W.Frag} {CP C : Addr} {H H' : Hp} {v : V} {W : Wd} {dk : Addr}
theorem LoadsAt.mono (s : Same H H') (h : LoadsAt K CP C H v W dk) : LoadsAt K CP C H' v W dk := by
  obtain ⟨a, dx, wl, dv, pq, ws, kvs, e, h1, h2, h3, h4, h5, h6⟩ := h
  exact ⟨a, dx, wl, dv, pq, ws, kvs, e, s _ _ h1, h2.mono s, s _ _ h3, pr_mono h4 fun _ _ h => h.mono s.tu, s _ _ h5, h6.mono s.tu⟩
theorem LoadsAt.dT (h : LoadsAt K CP C H v W dk) : ∃ kvs, H dk = some (.dT kvs) := by
  obtain ⟨a, dx, wl, dv, pq, ws, kvs, e, h1, h2, h3, h4, h5, h6⟩ := h
  exact ⟨kvs, h5⟩
end
/-! ### promises -/
def spLoadsInit (K : PySem.W.Frag) (CP C : Addr) : Sp := fun vs H Q _ => ∃ (H0 : Hp) (p dx wl : Addr) (pq : V) (ws : List V) (W : Wd), vs = [.ref p, pq, .ref wl] ∧ Same H0 H ∧ H0 p = none ∧ H p = some (.ins C dx []) ∧ PlankAt K CP H0 pq W.long W.ss ∧ H0 wl = some (.lst ws) ∧
  Paired (Hvy K H0) ws W.heavy ∧ ∀ H' dk, Same H0 H' → H0 dk = none → LoadsAt K CP C H' (.ref p) W dk → Q .non H'
def spShare (K : PySem.W.Frag) (CP C : Addr) : Sp := fun vs H Q _ => ∃ (v u : V) (W : Wd) (dk : Addr) (k : Ky) (x : Rat) (n : Nat), vs = [v, .int k.1, .int k.2.1, .int k.2.2, u] ∧ LoadsAt K CP C H v W dk ∧ GoodP W.long W.ss ∧ GoodKey W.ss.length k ∧ Fr K H u x ∧ Bd n x ∧ n ≤ 8000 ∧
  ∀ H' v', Same H H' → Fr K H' v' (share W k x) → Q v' H'
def spLiesOn (K : PySem.W.Frag) (CP C : Addr) : Sp := fun vs H Q _ => ∃ (v : V) (W : Wd) (dk : Addr) (k : Ky), vs = [v, .int k.1, .int k.2.1, .int k.2.2] ∧ LoadsAt K CP C H v W dk ∧ GoodW W ∧ GoodKey W.ss.length k ∧
  ∀ H' v', SX dk H H' → LoadsAt K CP C H' v W dk → Fr K H' v' (loadOf W k) → Q v' H'
def spLoadsOf (K : PySem.W.Frag) (CP C : Addr) : Sp := fun vs H Q _ => ∃ (pq : V) (wl : Addr) (ws : List V) (W : Wd), vs = [pq, .ref wl] ∧ PlankAt K CP H pq W.long W.ss ∧ H wl = some (.lst ws) ∧ Paired (Hvy K H) ws W.heavy ∧ GoodW W ∧
  ∀ H' v dk, Same H H' → H dk = none → LoadsAt K CP C H' v W dk → Q v H'
def spSpareAt (K : PySem.W.Frag) (CP C : Addr) : Sp := fun vs H Q _ => ∃ (v : V) (W : Wd) (dk : Addr) (k : Ky), vs = [v, .int k.1, .int k.2.1, .int k.2.2] ∧ LoadsAt K CP C H v W dk ∧ GoodW W ∧ GoodKey W.ss.length k ∧
  ∀ H' v', SX dk H H' → LoadsAt K CP C H' v W dk → FrN H' v' (spare W k) → Q v' H'
def spWithout (K : PySem.W.Frag) : Sp := fun vs H Q _ => ∃ (u : V) (p : Int) (L : List Int), vs = [u, .int p] ∧ LotAt K H u L ∧ L.length ≤ 1000 ∧ ∀ H' v, Same H H' → LotN H' v (minusP L p) → Q v H'
def spCheckOne (K : PySem.W.Frag) : Sp := fun vs H Q _ => ∃ (v : V) (q : Rat) (n : Nat), vs = [v] ∧ Fr K H v q ∧ Bd n q ∧ n ≤ 8000 ∧ 0 < q ∧ ∀ H', Same H H' → Q .non H'
section
variable {P : Program} {w : World} {K : PySem.W.Frag} {mg : Str → Option Value} {base : Heap} {aN aO : Addr} {tL tM tP : Tok} {CPlank CLoads : Addr}
abbrev s_Loads___init__ : Stmt := inClass (topS 38) 0
abbrev n_Loads___init__ : List Str := ["self", "plank", "weights"]
theorem sc_Loads___init__ : FnScope n_Loads___init__ ["self", "plank", "weights"] (defScope s_Loads___init__) := ⟨rfl, rfl, rfl, by decide +kernel, rfl, by decide +kernel, by decide +kernel⟩
theorem ok_Loads___init__ {f : Addr} {fd : FuncData} (F : Fun K "__init__" "Loads.__init__" s_Loads___init__ f fd) (T : Txt K mg aN aO tL tM tP)  (TLoads : Cls K CLoads) (NLoads : LoadsNo K CLoads) : FnOk P w K mg base CX0 1 f fd ["self", "plank", "weights"] (spLoadsInit K CPlank CLoads) := by
  have sc := sc_Loads___init__
  refine F.ok sc (fun vs H Q E h => ?_) (fun cdv A outer s H vs Q E hr h => ?_)
  · (repeat (rcases h with ⟨_, h⟩))
    subst_vars
    rfl
  · obtain ⟨H0, p, dx, wl, pq, ws, W, rfl, s0, p0, hp, pl, hw, hx, k⟩ := h
    refine ⟨_, (pss_cons (ps_fld (pv 0) (pv 1) rfl)
 (pss_cons (ps_fld (pv 0) (pv 2) rfl)
 (pss_cons (ps_fld (pv 0) pe_dnewT rfl)
 (pss_one (ps_fld (pv 0) pe_dnewT rfl))))), ?_⟩
    refine ⟨_, rfl, _, rfl, p, CLoads, dx, [], rfl, hp, TLoads, NLoads.plank, (by show 0 < 1000; decide), ?_⟩
    refine ⟨_, rfl, _, rfl, p, CLoads, dx, _, rfl, upd_same, TLoads, NLoads.weights, (by show 1 < 1000; decide), ?_⟩
    refine fun dk ndk => ⟨_, rfl, ?_⟩
    have npk : p ≠ dk := ne_of_none upd_same ndk
    refine ⟨p, CLoads, dx, _, rfl, (by rw [upd_ne npk]; exact upd_same), TLoads, NLoads.known, ?_, ?_⟩
    · have h1 := length_putF "weights" (V.ref wl) [(("plank" : Str), pq)]
      have e : putF "plank" pq [] = [(("plank" : Str), pq)] := rfl
      rw [e]
      simp at h1
      omega
    refine fun dv ndv => ⟨_, rfl, ?_⟩
    have npv : p ≠ dv := ne_of_none upd_same ndv
    refine ⟨p, CLoads, dx, _, rfl, (by rw [upd_ne npv]; exact upd_same), TLoads, NLoads.over, ?_, ?_⟩
    · have h1 := length_putF "weights" (V.ref wl) [(("plank" : Str), pq)]
      have h2 := length_putF "known" (V.ref dk) (putF "weights" (V.ref wl) [(("plank" : Str), pq)])
      have e : putF "plank" pq [] = [(("plank" : Str), pq)] := rfl
      rw [e]
      simp at h1
      omega
    have n0 : ∀ q, H q = none → H0 q = none := fun q h => s0.free h
    have ndk1 : H dk = none := by
      rw [upd_ne (Ne.symm npk), upd_ne (Ne.symm npk)] at ndk
      exact ndk
    have ndv1 : H dv = none := by
      rw [upd_ne (Ne.symm npv)] at ndv
      have nvk : dv ≠ dk := fun z => by
        rw [z, upd_same] at ndv
        cases ndv
      rw [upd_ne nvk, upd_ne (Ne.symm npv), upd_ne (Ne.symm npv)] at ndv
      exact ndv
    have nvk : dv ≠ dk := fun z => by
      rw [z, upd_ne (Ne.symm npk), upd_same] at ndv
      cases ndv
    have sF : Same H0 (upd (upd (upd (upd (upd (upd H p (.ins CLoads dx (putF "plank" pq []))) p (.ins CLoads dx (putF "weights" (.ref wl) (putF "plank" pq [])))) dk (.dT [])) p (.ins CLoads dx (putF "known" (.ref dk) (putF "weights" (.ref wl) (putF "plank" pq []))))) dv (.dT [])) p (.ins CLoads dx (loF pq wl dk dv))) :=
      (((((s0.mut p0).mut p0).mut (n0 _ ndk1)).mut p0).mut (n0 _ ndv1)).mut p0
    refine k _ dk sF (n0 _ ndk1) ⟨p, dx, wl, dv, pq, ws, [], rfl, upd_same, pl.mono sF, sF _ _ hw, pr_mono hx fun _ _ h => h.mono sF.tu, ?_, List.nodup_nil, fun e he => by simp at he⟩
    rw [upd_ne (Ne.symm npk), upd_ne (Ne.symm nvk), upd_ne (Ne.symm npk)]
    exact upd_same
abbrev s_Loads_share : Stmt := inClass (topS 38) 1
abbrev n_Loads_share : List Str := ["self", "left", "rest", "right", "spot", "here", "low", "high"]
theorem sc_Loads_share : FnScope n_Loads_share ["self", "left", "rest", "right", "spot"] (defScope s_Loads_share) := ⟨rfl, rfl, rfl, by decide +kernel, rfl, by decide +kernel, by decide +kernel⟩
theorem ok_Loads_share {f : Addr} {fd : FuncData} (F : Fun K "share" "Loads.share" s_Loads_share f fd) (T : Txt K mg aN aO tL tM tP) (G_Plank_place_of : MFn P w K mg base 2 CPlank "place_of" ["self", "rest"] (spPlaceOf K CPlank)) (G_is_below : Fn P w K mg base 1 "is_below" ["one", "other"] (spBelow K)) (G_less : Fn P w K mg base 3 "less" ["one", "other"] (sp2 K (fun a b => a - b) (fun _ _ => True))) (G_whole : Fn P w K mg base 1 "whole" ["number"] spWhole) (G_slope : Fn P w K mg base 4 "slope" ["low", "high", "spot"] (spSlope K)) (G_Plank_count : MFn P w K mg base 1 CPlank "count" ["self"] (spCount K CPlank)) (TPlank : Cls K CPlank) (TLoads : Cls K CLoads) (NLoads : LoadsNo K CLoads) : FnOk P w K mg base CX0 5 f fd ["self", "left", "rest", "right", "spot"] (spShare K CPlank CLoads) := by
  have sc := sc_Loads_share
  refine F.ok sc (fun vs H Q E h => ?_) (fun cdv A outer s H vs Q E hr h => ?_)
  · (repeat (rcases h with ⟨_, h⟩))
    subst_vars
    rfl
  · obtain ⟨v, u, W, dk, ky, x, n, rfl, LO, GP, gk, hu, hb, hn, k⟩ := h
    obtain ⟨g1, g2, g3, g4, g5⟩ := id gk
    obtain ⟨a, dx, wl, dv, pq, ws, kvs, rfl, ha, PL, _, _, _, _⟩ := id LO
    obtain ⟨pa, pdx, st, vs, rfl, hpa, hst, hpp⟩ := id PL
    have l1 : (plF W.long st).lookup ("place_of" : Str) = none := pl_no _ _ (by decide +kernel) (by decide +kernel) (by decide +kernel)
    have l2 : (plF W.long st).lookup ("count" : Str) = none := pl_no _ _ (by decide +kernel) (by decide +kernel) (by decide +kernel)
    have a1 := place_bd GP g1 (by omega)
    have a2 := place_lt GP g1 g2 (by omega)
    have a3 := place_lt GP (by omega) g3 g4
    have a4 := place_bd GP (r := ky.2.2) (by omega) g4
    have gh := GP.hi
    have bh := bd10 (i := placeOf W.long W.ss ky.2.1) (by omega) (by omega)
    have bl := bd10 (i := placeOf W.long W.ss ky.1) (by omega) (by omega)
    have br := bd10 (i := placeOf W.long W.ss ky.2.2) (by omega) (by omega)
    refine ⟨_, (pss_cons (ps_set (i := 5) sc.nd rfl (Or.inl rfl) (pe_mfn G_Plank_place_of TPlank hr (pe_fldK K (pv 0)) (pa_cons (pv 2) pa_nil)))
 (pss_cons (ps_if (pt_cmpR (oEqD K (hru hr)) (pv 4) (pe_fn G_whole hr (pa_cons (pv 5) pa_nil)) (nomark _))
 (pss_one (ps_ret (pe_glob (v := .ref aO) rfl T.mONE rfl)))
 pss_nil)
 (pss_cons (ps_if (pt_val (pe_fn G_is_below hr (pa_cons (pv 4) (pa_cons (pe_fn G_whole hr (pa_cons (pv 5) pa_nil)) pa_nil))))
 (pss_cons (ps_set (i := 6) sc.nd rfl (Or.inl rfl) (pe_ifExp (pt_cmpR op_eq (pv 2) (pe_glob (v := .int (-1)) rfl T.mLEFT_WALL ⟨_, rfl⟩) (nomark _)) pe_non (pe_mfn G_Plank_place_of TPlank hr (pe_fldK K (pv 0)) (pa_cons (pv 1) pa_nil))))
 (pss_cons (ps_if (PW.pt (pw_or (pt_cmpR op_isN (pv 6) pe_non (nomark _)) (pw_or1 (pt_not (pt_val (pe_fn G_is_below hr (pa_cons (pe_fn G_whole hr (pa_cons (pv 6) pa_nil)) (pa_cons (pv 4) pa_nil))))))))
 (pss_one (ps_ret (pe_glob (v := .ref aN) rfl T.mNOUGHT rfl)))
 pss_nil)
 (pss_one (ps_ret (pe_fn G_slope hr (pa_cons (pv 6) (pa_cons (pv 5) (pa_cons (pv 4) pa_nil))))))))
 pss_nil)
 (pss_cons (ps_set (i := 7) sc.nd rfl (Or.inl rfl) (pe_ifExp (pt_cmpR op_eq (pv 2) (pe_mfn0 G_Plank_count TPlank hr (pe_fldK K (pv 0))) (nomark _)) pe_non (pe_mfn G_Plank_place_of TPlank hr (pe_fldK K (pv 0)) (pa_cons (pv 3) pa_nil))))
 (pss_cons (ps_if (PW.pt (pw_or (pt_cmpR op_isN (pv 7) pe_non (nomark _)) (pw_or1 (pt_not (pt_val (pe_fn G_is_below hr (pa_cons (pv 4) (pa_cons (pe_fn G_whole hr (pa_cons (pv 7) pa_nil)) pa_nil))))))))
 (pss_one (ps_ret (pe_glob (v := .ref aN) rfl T.mNOUGHT rfl)))
 pss_nil)
 (pss_one (ps_ret (pe_fn G_less hr (pa_cons (pe_glob (v := .ref aO) rfl T.mONE rfl) (pa_cons (pe_fn G_slope hr (pa_cons (pv 5) (pa_cons (pv 7) (pa_cons (pv 4) pa_nil)))) pa_nil)))))))))), ?_⟩
    refine ⟨_, rfl, a, _, dx, _, _, rfl, ha, TLoads, NLoads.plank, lo_plank _ _ _ _, pa, pdx, _, rfl, hpa, l1, _, rfl, _, W.long, W.ss, ky.2.1, rfl, PL, by omega, by omega, ?_⟩
    refine ⟨_, rfl, _, rfl, _, rfl, fun H1 v1 s1 f1 => ⟨_, _, fr_dp (hu.mono s1.tu), fr_dp f1.fr, frD_sh _, frD_sh _, _, rfl, ?_⟩⟩
    rw [frD_eq]
    refine ifB (fun c => ?_) (fun c => ?_)
    · have e : x = (placeOf W.long W.ss ky.2.1 : Int) := of_decide_eq_true c
      have e2 := share_at a2 a3
      rw [← e] at e2
      refine k _ _ s1 ?_
      unfold share Wd.place
      rw [e2]
      exact fr1 T _
    have ne : ¬ x = (placeOf W.long W.ss ky.2.1 : Int) := of_decide_eq_false c
    refine ⟨_, rfl, _, rfl, _, rfl, fun H2 v2 s2 f2 => ?_⟩
    have s12 := s1.trans s2
    refine ⟨_, _, x, _, n, 10, rfl, hu.mono s12.tu, f2.fr, hb, bh, by omega, _, rfl, ?_⟩
    refine ifB (fun c => ?_) (fun c => ?_)
    · have lt : x < (placeOf W.long W.ss ky.2.1 : Int) := of_decide_eq_true c
      have ha2 := s12 _ _ ha
      have PL2 := PL.mono s12
      refine ⟨_, rfl, rfl, _, rfl, ?_⟩
      refine ifF (by simp; omega) ?_
      refine ⟨_, rfl, a, _, dx, _, _, rfl, ha2, TLoads, NLoads.plank, lo_plank _ _ _ _, pa, pdx, _, rfl, s12 _ _ hpa, l1, _, rfl, _, W.long, W.ss, ky.1, rfl, PL2, by omega, by omega, ?_⟩
      refine ⟨_, rfl, rfl, _, rfl, ?_⟩
      refine ifF rfl ?_
      refine ⟨_, rfl, _, rfl, fun H3 v3 s3 f3 => ⟨_, rfl, ?_⟩⟩
      have s13 := s12.trans s3
      refine ⟨_, _, _, x, 10, n, rfl, f3.fr, hu.mono s13.tu, bl, hb, by omega, _, rfl, ?_⟩
      refine ifB (fun c => ?_) (fun c => ?_)
      · have d : ¬ ((placeOf W.long W.ss ky.1 : Int) : Rat) < x := by simpa using c
        refine k _ _ s13 ?_
        unfold share Wd.place
        rw [share_low0 a2 a3 lt d]
        exact fr0 T _
      · have d : ((placeOf W.long W.ss ky.1 : Int) : Rat) < x := by simpa using c
        refine ⟨_, rfl, _, rfl, _, rfl, _, _, _, x, n, rfl, by omega, a2, by omega, hu.mono s13.tu, hb, by omega, fun H4 v4 s4 f4 => ?_⟩
        refine k _ _ (s13.trans s4) ?_
        unfold share Wd.place
        rw [share_low a2 a3 lt d]
        exact f4.fr
    have gt : ((placeOf W.long W.ss ky.2.1 : Int) : Rat) < x := by
      have nl : ¬ x < (placeOf W.long W.ss ky.2.1 : Int) := of_decide_eq_false c
      grind
    have ha2 := s12 _ _ ha
    have PL2 := PL.mono s12
    have el := pr_len hpp
    refine ⟨_, rfl, _, rfl, a, _, dx, _, _, rfl, ha2, TLoads, NLoads.plank, lo_plank _ _ _ _, pa, pdx, _, rfl, s12 _ _ hpa, l2, _, W.long, W.ss, rfl, PL2, rfl, _, rfl, ?_⟩
    refine ifF (by simp; omega) ?_
    refine ⟨_, rfl, a, _, dx, _, _, rfl, ha2, TLoads, NLoads.plank, lo_plank _ _ _ _, pa, pdx, _, rfl, s12 _ _ hpa, l1, _, rfl, _, W.long, W.ss, ky.2.2, rfl, PL2, by omega, by omega, ?_⟩
    refine ⟨_, rfl, rfl, _, rfl, ?_⟩
    refine ifF rfl ?_
    refine ⟨_, rfl, _, rfl, _, rfl, fun H3 v3 s3 f3 => ?_⟩
    have s13 := s12.trans s3
    refine ⟨_, _, x, _, n, 10, rfl, hu.mono s13.tu, f3.fr, hb, br, by omega, _, rfl, ?_⟩
    refine ifB (fun c => ?_) (fun c => ?_)
    · have d : ¬ x < ((placeOf W.long W.ss ky.2.2 : Int) : Rat) := by simpa using c
      refine k _ _ s13 ?_
      unfold share Wd.place
      rw [share_high0 a2 a3 gt d]
      exact fr0 T _
    · have d : x < ((placeOf W.long W.ss ky.2.2 : Int) : Rat) := by simpa using c
      refine ⟨_, rfl, _, rfl, _, rfl, _, _, _, x, n, rfl, by omega, a3, by omega, hu.mono s13.tu, hb, by omega, fun H4 v4 s4 f4 => ?_⟩
      have bs := (hb.sub bh).div (bd10 (i := placeOf W.long W.ss ky.2.2 - placeOf W.long W.ss ky.2.1) (by omega) (by omega)) (ipos (by omega))
      refine ⟨_, _, 1, _, 1, _, rfl, fr1 T _, f4.fr, bd1, bs, by omega, trivial, fun H5 v5 s5 f5 => ?_⟩
      refine k _ _ ((s13.trans s4).trans s5) ?_
      unfold share Wd.place
      rw [share_high a2 a3 gt d]
      exact f5.fr
abbrev s_Loads_lies_on : Stmt := inClass (topS 38) 2
abbrev n_Loads_lies_on : List Str := ["self", "left", "rest", "right", "key", "some", "spot", "weight"]
theorem sc_Loads_lies_on : FnScope n_Loads_lies_on ["self", "left", "rest", "right"] (defScope s_Loads_lies_on) := ⟨rfl, rfl, rfl, by decide +kernel, rfl, by decide +kernel, by decide +kernel⟩
theorem ok_Loads_lies_on {f : Addr} {fd : FuncData} (F : Fun K "lies_on" "Loads.lies_on" s_Loads_lies_on f fd) (T : Txt K mg aN aO tL tM tP) (G_sum_of : Fn P w K mg base 4 "sum_of" ["some"] (spSumOf K)) (G_times : Fn P w K mg base 3 "times" ["one", "other"] (sp2 K (fun a b => a * b) (fun _ _ => True))) (G_Loads_share : MFn P w K mg base 5 CLoads "share" ["self", "left", "rest", "right", "spot"] (spShare K CPlank CLoads)) (TLoads : Cls K CLoads) (NLoads : LoadsNo K CLoads) : FnOk P w K mg base CX0 6 f fd ["self", "left", "rest", "right"] (spLiesOn K CPlank CLoads) := by
  have sc := sc_Loads_lies_on
  refine F.ok sc (fun vs H Q E h => ?_) (fun cdv A outer s H vs Q E hr h => ?_)
  · (repeat (rcases h with ⟨_, h⟩))
    subst_vars
    rfl
  · obtain ⟨v, W, dk, ky, rfl, LO, GW, gk, k⟩ := h
    obtain ⟨a, dx, wl, dv, pq, ws, kvs, rfl, ha, PL, hw, hws, hdk, hkn⟩ := id LO
    have ls : (loF pq wl dk dv).lookup ("share" : Str) = none := lo_no _ _ _ _ (by decide +kernel) (by decide +kernel) (by decide +kernel) (by decide +kernel)
    have el := pr_len hws
    refine ⟨_, (pss_cons (ps_set (i := 4) sc.nd rfl (Or.inl rfl) (pe_tup (pa_cons (pv 1) (pa_cons (pv 2) (pa_cons (pv 3) pa_nil)))))
 (pss_cons (ps_if (pt_cmp (pc_dnotin (hu_of hr) (pv 4) (pe_fldK K (pv 0))))
 (pss_cons (ps_setLc (i := 5) (own := [("spot", 6), ("weight", 7)]) (g := (gTup K 2 (gCons (gName 6) (gCons (gName 7) gNil)))) rfl sc.nd rfl rfl (sw_true rfl rfl rfl (by decide +kernel)) (piL K (pe_fldK K (pv 0))) (blkOk_by (N := n_Loads_lies_on) (sc := defScope s_Loads_lies_on) (own := [("spot", 6), ("weight", 7)]) (by decide +kernel)) (fun _ _ _ _ _ => (pg_tup rfl (pgs_cons (pg_name (i := 6) sc.nd rfl (Or.inl rfl)) (pgs_cons (pg_name (i := 7) sc.nd rfl (Or.inl rfl)) pgs_nil)))) (fun _ _ _ _ _ => pts_nil) (fun _ _ _ _ _ => (pe_fn G_times hr (pa_cons (pv 7) (pa_cons (pe_mfn G_Loads_share TLoads hr (pv 0) (pa_cons (pv 1) (pa_cons (pv 2) (pa_cons (pv 3) (pa_cons (pv 6) pa_nil))))) pa_nil)))))
 (pss_one (ps_dput (hu_of hr) (pe_fldK K (pv 0)) (pv 4) (pe_fn G_sum_of hr (pa_cons (pv 5) pa_nil)) rfl)))
 pss_nil)
 (pss_one (ps_ret (pe_dget (hu_of hr) (pe_fldK K (pv 0)) (pv 4) (fun _ _ => rfl)))))), ?_⟩
    refine ⟨_, rfl, _, rfl, _, rfl, (by show 3 ≤ sizeLine; decide), fun kp nkp => ?_⟩
    have s1 : Same H (upd H kp (.tup [.int ky.1, .int ky.2.1, .int ky.2.2])) := Same.new nkp
    generalize hH1 : upd H kp (.tup [.int ky.1, .int ky.2.1, .int ky.2.2]) = H1 at s1 ⊢
    have hkp : H1 kp = some (.tup ((kyK ky).map kV)) := by
      rw [← hH1, kyK_V]
      exact upd_same
    have hdk1 := s1 _ _ hdk
    refine ⟨_, rfl, _, rfl, a, _, dx, _, _, rfl, s1 _ _ ha, TLoads, NLoads.known, lo_known _ _ _ _, dk, _, rfl, DGet.t hdk1 hkp, _, rfl, ?_⟩
    refine ifB (fun c => ?_) (fun c => ?_)
    · have nov : valV kvs (kyK ky) = none := by
        cases e : valV kvs (kyK ky) with
        | none => rfl
        | some z =>
          rw [e] at c
          cases c
      refine ⟨_, rfl, a, _, dx, _, _, rfl, s1 _ _ ha, TLoads, NLoads.weights, lo_weights _ _ _ _, wl, rfl, ⟨_, SqL.of (s1 _ _ hw)⟩, fun D nD => lc_map walk_list (fun i => ((W.heavy.map fun h => h.2 * share W ky h.1)[i]?).getD 0) (Fr K) (fun _ _ _ _ u h => h.mono u) nD (by have := GW.few; omega) (fun H' s => s.seq (SqL.of (s1 _ _ hw))) (fun i x H2 H3 hi s2 y => ?_) (fun H2 ys s2 hD hy => ?_)⟩
      · obtain ⟨rfl, hx⟩ := y
        refine ⟨Same.refl _, fun Qk kk => ?_⟩
        obtain ⟨hv, hhv, ⟨t, x1, x2, rfl, ht, hx1, hx2⟩⟩ := pr_get' hws hx
        have s02 := s1.trans s2
        have gh := GW.each hv (List.mem_of_getElem? hhv)
        refine ⟨t, _, rfl, s02.tu.sqT ht, rfl, _, _, rfl, _, _, rfl, rfl, rfl, ?_⟩
        refine ⟨_, rfl, _, rfl, a, dx, _, rfl, s02 _ _ ha, ls, _, rfl, _, rfl, _, rfl, _, rfl, _, _, W, dk, ky, hv.1, 110, rfl, LO.mono s02, GW.p, gk, hx1.mono s02.tu, gh.1, by decide, fun H4 v4 s4 f4 => ?_⟩
        refine ⟨_, _, hv.2, _, 110, 131, rfl, hx2.mono (s02.trans s4).tu, f4, gh.2.1, (share_bd GW.p gk gh.1).mono (by decide), by decide, trivial, fun H5 v5 s5 f5 => ?_⟩
        refine kk _ _ (s4.trans s5) ?_
        rw [List.getElem?_map, hhv]
        exact f5.fr
      · have eqs : (List.range ws.length).map (fun i => ((W.heavy.map fun h => h.2 * share W ky h.1)[i]?).getD 0) = W.heavy.map fun h => h.2 * share W ky h.1 := by
          refine List.ext_getElem (by simp [el]) fun i h1 h2 => ?_
          simp at h1 h2
          simp [List.getElem?_eq_getElem (show i < W.heavy.length by omega)]
        rw [eqs] at hy
        refine ⟨_, rfl, D, _, _, 241, rfl, hD, hy, term_bd GW gk, by rw [List.length_map]; have := GW.few; omega, fun H3 v3 s3 f3 => ?_⟩
        have s03 := (s1.trans s2).trans s3
        have s13 := s2.trans s3
        have hdk3 := s03 _ _ hdk
        have f3' : Fr K H3 v3 (loadOf W ky) := f3
        refine ⟨_, rfl, a, _, dx, _, _, rfl, s03 _ _ ha, TLoads, NLoads.known, lo_known _ _ _ _, _, rfl, dk, _, rfl, DPut.t hdk3 (s13 _ _ hkp) (by have := known_len GW.p.few hkn; exact szl (by omega)), ?_⟩
        have sx : SX dk H3 (upd H3 dk (.dT (putK kvs (kyK ky) v3))) := SX.put hdk3
        have nak : a ≠ dk := ne_of ha hdk (by intro q; cases q)
        have nkk : kp ≠ dk := ne_of hkp hdk1 (by intro q; cases q)
        have h0x : SX dk H (upd H3 dk (.dT (putK kvs (kyK ky) v3))) := (SX.of s03 LO.dT).trans sx
        refine ⟨_, rfl, a, _, dx, _, _, rfl, sx.at (s03 _ _ ha) (fun _ q => by cases q), TLoads, NLoads.known, lo_known _ _ _ _, _, rfl, dk, v3, rfl, ?_, ?_⟩
        · have g := DGet.t (H := upd H3 dk (.dT (putK kvs (kyK ky) v3))) (a := dk) (b := kp) (kvs := putK kvs (kyK ky) v3) (k := kyK ky) upd_same (by rw [upd_ne nkk]; exact s13 _ _ hkp)
          rw [valV_put, if_pos rfl] at g
          exact g
        · refine k _ _ h0x ?_ (f3'.mono sx.tu)
          refine ⟨a, dx, wl, dv, pq, ws, putK kvs (kyK ky) v3, rfl, h0x.at ha (fun _ q => by cases q), PL.monoX h0x, h0x.at hw (fun _ q => by cases q), pr_mono hws fun _ _ h => h.mono h0x.tu, upd_same, nd_putK _ hkn.1 nov, fun e he => ?_⟩
          rw [putK_new _ nov] at he
          rcases List.mem_append.mp he with he | he
          · obtain ⟨k2, q1, q2, q3⟩ := hkn.2 e he
            exact ⟨k2, q1, q2, q3.mono h0x.tu⟩
          · rw [List.mem_singleton.mp he]
            exact ⟨ky, gk, rfl, f3'.mono sx.tu⟩
    · obtain ⟨z, hz⟩ : ∃ z, valV kvs (kyK ky) = some z := by
        cases e : valV kvs (kyK ky) with
        | some z => exact ⟨z, rfl⟩
        | none =>
          rw [e] at c
          cases c
      have g := DGet.t hdk1 hkp
      rw [hz] at g
      refine ⟨_, rfl, a, _, dx, _, _, rfl, s1 _ _ ha, TLoads, NLoads.known, lo_known _ _ _ _, _, rfl, dk, z, rfl, g, ?_⟩
      refine k _ _ (SX.of s1 LO.dT) (LO.mono s1) ?_
      have hm : ∃ e ∈ kvs, e.1 = kyK ky ∧ e.2 = z := by
        unfold valV at hz
        cases e : kvs.find? (fun kv => decide (kv.1 = kyK ky)) with
        | none => rw [e] at hz; cases hz
        | some e0 =>
          rw [e] at hz
          have h1 := List.find?_some e
          exact ⟨e0, List.mem_of_find?_eq_some e, of_decide_eq_true h1, Option.some.inj hz⟩
      obtain ⟨e0, he0, ek, ez⟩ := hm
      obtain ⟨k2, q1, q2, q3⟩ := hkn.2 e0 he0
      have : k2 = ky := kyK_inj (q2.symm.trans ek)
      subst this
      rw [← ez]
      exact q3.mono s1.tu
abbrev s_loads_of : Stmt := topS 39
abbrev n_loads_of : List Str := ["plank", "weights"]
theorem sc_loads_of : FnScope n_loads_of ["plank", "weights"] (defScope s_loads_of) := ⟨rfl, rfl, rfl, by decide +kernel, rfl, by decide +kernel, by decide +kernel⟩
theorem ok_loads_of {f : Addr} {fd : FuncData} (F : Fun K "loads_of" "loads_of" s_loads_of f fd) (T : Txt K mg aN aO tL tM tP) (G_check_weights : Fn P w K mg base 6 "check_weights" ["plank", "thing"] (spCheckW K CPlank)) (G_Loads___init__ : CFn P w K mg base 1 CLoads "Loads" ["self", "plank", "weights"] [] (spLoadsInit K CPlank CLoads)) : FnOk P w K mg base CX0 7 f fd ["plank", "weights"] (spLoadsOf K CPlank CLoads) := by
  have sc := sc_loads_of
  refine F.ok sc (fun vs H Q E h => ?_) (fun cdv A outer s H vs Q E hr h => ?_)
  · (repeat (rcases h with ⟨_, h⟩))
    subst_vars
    rfl
  · obtain ⟨pq, wl, ws, W, rfl, PL, hw, hws, GW, k⟩ := h
    refine ⟨_, (pss_cons (ps_expr (pe_fn G_check_weights hr (pa_cons (pv 0) (pa_cons (pv 1) pa_nil))))
 (pss_one (ps_ret (pe_mk G_Loads___init__ hr (pa_cons (pv 0) (pa_cons (pe_callTy (cList K) (by rfl) T.blist (by decide +kernel) (pa_cons (pv 1) pa_nil)) pa_nil)))))), ?_⟩
    refine ⟨_, rfl, _, rfl, pq, wl, ws, W.long, W.ss, W.heavy, rfl, PL, GW.p, hw, hws, GW.each, fun H1 s1 => ?_⟩
    refine ⟨_, rfl, _, rfl, wl, _, rfl, .inl (SqL.of (s1 _ _ hw)), fun l nl => ?_⟩
    have s2 : Same H1 (upd H1 l (.lst ws)) := Same.new nl
    intro x dx nx ndx nex
    have s3 : Same (upd H1 l (.lst ws)) (upd (upd (upd H1 l (.lst ws)) dx (.own x)) x (.ins CLoads dx [])) := (Same.new ndx).mut nx
    have s02 := s1.trans s2
    refine ⟨upd H1 l (.lst ws), x, dx, l, pq, ws, W, rfl, s3, nx, upd_same, PL.mono s02, upd_same, pr_mono hws fun _ _ h => h.mono s02.tu, fun H4 dk s4 ndk LO => ⟨rfl, ?_⟩⟩
    exact k _ _ dk (s02.trans s4) (s02.free ndk) LO
abbrev s_without : Stmt := topS 41
abbrev n_without : List Str := ["lot", "prop", "one"]
theorem sc_without : FnScope n_without ["lot", "prop"] (defScope s_without) := ⟨rfl, rfl, rfl, by decide +kernel, rfl, by decide +kernel, by decide +kernel⟩
theorem ok_without {f : Addr} {fd : FuncData} (F : Fun K "without" "without" s_without f fd) (T : Txt K mg aN aO tL tM tP)  : FnOk P w K mg base CX0 1 f fd ["lot", "prop"] (spWithout K) := by
  have sc := sc_without
  refine F.ok sc (fun vs H Q E h => ?_) (fun cdv A outer s H vs Q E hr h => ?_)
  · (repeat (rcases h with ⟨_, h⟩))
    subst_vars
    rfl
  · obtain ⟨u, p, L, rfl, ⟨q, rfl, hq⟩, hL, k⟩ := h
    refine ⟨_, (pss_one (ps_ret (pe_callTy (cTuple K) (by rfl) T.btuple (by decide +kernel) (pa_cons (pe_lc (own := [("one", 2)]) (g := (gName 2)) rfl sc.nd (piT K (pv 0)) (blkOk_by (N := n_without) (sc := defScope s_without) (own := [("one", 2)]) (by decide +kernel)) (fun _ _ _ _ _ => (pg_name (i := 2) sc.nd rfl (Or.inl rfl))) (fun _ _ _ _ _ => pts_one (pt_cmpR op_ne (pv 2) (pv 1) (nomark _))) (fun _ _ _ _ _ => (pv 2))) pa_nil)))), ?_⟩
    refine ⟨_, rfl, q, rfl, ⟨_, hq⟩, fun D nD => lc_filt walk_tup (fun i => (L[i]?).getD 0) (fun a => !decide (a = p)) (fun _ v a => v = V.int a) (fun _ _ _ _ _ h => h) nD (by rw [List.length_map]; omega) (fun H' s => s.tu.sqT hq) (fun i x H2 H3 hi s2 y => ?_) (fun H2 ys s2 hD hy => ?_)⟩
    · obtain ⟨rfl, hx⟩ := y
      refine ⟨Same.refl _, fun Qk Qn k1 k2 => ?_⟩
      rw [List.length_map] at hi
      have ex : x = V.int ((L[i]?).getD 0) := by
        rw [List.getElem?_map, List.getElem?_eq_getElem hi] at hx
        rw [List.getElem?_eq_getElem hi]
        exact (Option.some.inj hx).symm
      subst ex
      refine ⟨rfl, _, rfl, _, rfl, rfl, _, rfl, ?_⟩
      have ed : decide (V.int ((L[i]?).getD 0) = V.int p) = decide ((L[i]?).getD 0 = p) := by
        rw [decide_eq_decide]
        constructor
        · intro h
          cases h
          rfl
        · intro h
          rw [h]
      rw [ed]
      refine ifB (fun c => ?_) (fun c => ?_)
      · exact ⟨_, rfl, k1 c _ _ (Same.refl _) rfl⟩
      · exact k2 c _ (Same.refl _)
    · have e := ints_pr hy
      rw [List.length_map] at e
      have eL : (List.range L.length).map (fun i => (L[i]?).getD 0) = L := by
        refine List.ext_getElem (by simp) fun i h1 h2 => ?_
        simp [List.getElem?_eq_getElem h2]
      rw [eL] at e
      subst e
      refine ⟨_, _, rfl, .inl ⟨SqL.of hD, fun t nt => ?_⟩⟩
      exact k _ _ (s2.news nt) ⟨t, rfl, upd_same⟩
abbrev s_spare_at : Stmt := topS 44
abbrev n_spare_at : List Str := ["loads", "left", "prop", "right"]
theorem sc_spare_at : FnScope n_spare_at ["loads", "left", "prop", "right"] (defScope s_spare_at) := ⟨rfl, rfl, rfl, by decide +kernel, rfl, by decide +kernel, by decide +kernel⟩
theorem ok_spare_at {f : Addr} {fd : FuncData} (F : Fun K "spare_at" "spare_at" s_spare_at f fd) (T : Txt K mg aN aO tL tM tP) (G_less : Fn P w K mg base 3 "less" ["one", "other"] (sp2 K (fun a b => a - b) (fun _ _ => True))) (G_Loads_lies_on : MFn P w K mg base 6 CLoads "lies_on" ["self", "left", "rest", "right"] (spLiesOn K CPlank CLoads)) (G_Plank_props : MFn P w K mg base 1 CPlank "props" ["self"] (spProps K CPlank)) (TPlank : Cls K CPlank) (TLoads : Cls K CLoads) (NLoads : LoadsNo K CLoads) : FnOk P w K mg base CX0 7 f fd ["loads", "left", "prop", "right"] (spSpareAt K CPlank CLoads) := by
  have sc := sc_spare_at
  refine F.ok sc (fun vs H Q E h => ?_) (fun cdv A outer s H vs Q E hr h => ?_)
  · (repeat (rcases h with ⟨_, h⟩))
    subst_vars
    rfl
  · obtain ⟨v, W, dk, ky, rfl, LO, GW, gk, k⟩ := h
    obtain ⟨g1, g2, g3, g4, g5⟩ := id gk
    obtain ⟨a, dx, wl, dv, pq, ws, kvs, rfl, ha, PL, hw, hws, hdk, hkn⟩ := id LO
    obtain ⟨pa, pdx, st, vs, rfl, hpa, hst, hpp⟩ := id PL
    have l1 : (plF W.long st).lookup ("props" : Str) = none := pl_no _ _ (by decide +kernel) (by decide +kernel) (by decide +kernel)
    have l2 : (loF (.ref pa) wl dk dv).lookup ("lies_on" : Str) = none := lo_no _ _ _ _ (by decide +kernel) (by decide +kernel) (by decide +kernel) (by decide +kernel)
    have hi : ky.2.1.toNat < W.ss.length := by omega
    have sb := strong_bd GW gk
    refine ⟨_, (pss_one (ps_ret (pe_fn G_less hr (pa_cons (pe_ix (ixT K) (pe_ix (ixL K) (pe_mfn0 G_Plank_props TPlank hr (pe_fldK K (pv 0))) (pv 2) (fun _ _ => rfl)) pe_int (fun _ _ => rfl)) (pa_cons (pe_mfn G_Loads_lies_on TLoads hr (pv 0) (pa_cons (pv 1) (pa_cons (pv 2) (pa_cons (pv 3) pa_nil)))) pa_nil))))), ?_⟩
    refine ⟨_, rfl, a, _, dx, _, _, rfl, ha, TLoads, NLoads.plank, lo_plank _ _ _ _, pa, pdx, _, rfl, hpa, l1, _, W.long, W.ss, rfl, PL, fun lp xs nlp hxs => ?_⟩
    have s1 : Same H (upd H lp (.lst xs)) := Same.new nlp
    obtain ⟨v2, hv2, t, sv, rfl, ht, hf⟩ := pr_get hxs (List.getElem?_eq_getElem hi)
    refine ⟨_, rfl, lp, _, _, _, rfl, rfl, SqL.of upd_same, at_of (j := ky.2.1.toNat) (by omega) hv2, t, _, _, _, rfl, rfl, s1.tu.sqT ht, rfl, ?_⟩
    refine ⟨_, rfl, a, dx, _, rfl, s1 _ _ ha, l2, _, rfl, _, rfl, _, rfl, _, W, dk, ky, rfl, LO.mono s1, GW, gk, fun H2 v2 sx LO2 f2 => ?_⟩
    have es : strongOf W ky.2.1 = W.ss[ky.2.1.toNat].2 := by
      unfold strongOf
      rw [getD_lt (by rw [List.length_map]; exact hi)]
      simp
    rw [← es] at hf
    refine ⟨_, _, strongOf W ky.2.1, loadOf W ky, 320, 1460, rfl, (hf.mono s1.tu).mono sx.tu, f2, sb.1, load_bd GW gk, by decide, trivial, fun H3 v3 s3 f3 => ?_⟩
    exact k _ _ ((SX.of s1 LO.dT).trans (sx.trans (SX.of s3 LO2.dT))) (LO2.mono s3) f3
abbrev s_check_weight : Stmt := topS 45
abbrev n_check_weight : List Str := ["thing"]
theorem sc_check_weight : FnScope n_check_weight ["thing"] (defScope s_check_weight) := ⟨rfl, rfl, rfl, by decide +kernel, rfl, by decide +kernel, by decide +kernel⟩
theorem ok_check_weight {f : Addr} {fd : FuncData} (F : Fun K "check_weight" "check_weight" s_check_weight f fd) (T : Txt K mg aN aO tL tM tP) (G_is_fraction : Fn P w K mg base 2 "is_fraction" ["thing"] (spIsFrac K)) (G_is_below : Fn P w K mg base 1 "is_below" ["one", "other"] (spBelow K)) : FnOk P w K mg base CX0 3 f fd ["thing"] (spCheckOne K) := by
  have sc := sc_check_weight
  refine F.ok sc (fun vs H Q E h => ?_) (fun cdv A outer s H vs Q E hr h => ?_)
  · (repeat (rcases h with ⟨_, h⟩))
    subst_vars
    rfl
  · obtain ⟨v, q, n, rfl, hq, hb, hn, h0, k⟩ := h
    refine ⟨_, (pss_one (ps_if (PW.pt (pw_or (pt_not (pt_val (pe_fn G_is_fraction hr (pa_cons (pv 0) pa_nil)))) (pw_or1 (pt_not (pt_val (pe_fn G_is_below hr (pa_cons (pe_glob (v := .ref aN) rfl T.mNOUGHT rfl) (pa_cons (pv 0) pa_nil))))))))
 pss_never
 pss_nil)), ?_⟩
    refine ⟨_, rfl, v, q, rfl, hq, fun H1 s1 => ⟨_, rfl, ?_⟩⟩
    refine ifF rfl ?_
    refine ⟨_, rfl, _, _, 0, q, 1, n, rfl, fr0 T _, hq.mono s1.tu, bd0, hb, by omega, _, rfl, ?_⟩
    rw [decide_eq_true h0]
    exact ifF rfl (k _ s1)
end
end PF
end
section
set_option maxHeartbeats 4000000
namespace PF
open PySem PySem.Spec PyProof.Rows L2
open PySem.Sem (wp)
/-! ### list(z) of an iterator that gives out new tuples -/
structure MkT (prog : Program) (w : World) (A : Around) (z S : Addr) (wr : List Addr) (n : Nat) (P : Nat → List Value → Prop) (Stt : Nat → Heap → Prop) : Prop where
  item : ∀ (i : Nat) (s : Shared) (Q : Option Value → Shared → Prop) (E : Value → Shared → Prop), i < n → Stt i s.heap → S < s.heap.objs.size →
    (∀ (vals : List Value) (h' : Heap) (tk : Nat), P i vals → Stt (i + 1) h' → h'.get? s.heap.objs.size = some { cls := .type "tuple", data := .seq vals.toArray } → h'.objs.size = s.heap.objs.size + 1 →
      (∀ b o, b ∉ wr → s.heap.get? b = some o → h'.get? b = some o) → Q (some (.ref s.heap.objs.size)) { s with heap := h', toks := tk }) → wpAny (model prog w) A (pyNext (.ref z)) Q E s
  done : ∀ (s : Shared) (Q : Option Value → Shared → Prop) (E : Value → Shared → Prop), Stt n s.heap →
    (∀ (h' : Heap) (tk : Nat), (∀ b o, b ∉ wr → s.heap.get? b = some o → h'.get? b = some o) → Q none { s with heap := h', toks := tk }) → wpAny (model prog w) A (pyNext (.ref z)) Q E s
  keep : ∀ (i : Nat) (h h' : Heap), Stt i h → (∀ b o, b ≠ S → h.get? b = some o → h'.get? b = some o) → Stt i h'
  iter : ∀ (A' : Around) (i : Nat) (s : Shared) (Q : Value → Shared → Prop) (E : Value → Shared → Prop), Stt i s.heap → Q (.ref z) s → wpAny (model prog w) A' (pyIter (.ref z)) Q E s
  type : ∀ (i : Nat) (s : Shared), Stt i s.heap → s.TypeIs (.ref z) "zip"
structure RowsG (P : Nat → List Value → Prop) (lo : Addr) (h : Heap) (as : List Addr) : Prop where
  rise : as.Pairwise (· < ·)
  above : ∀ a ∈ as, lo ≤ a
  rows : ∀ (j : Nat) (a : Addr), as[j]? = some a → ∃ vals : List Value, P j vals ∧ h.get? a = some { cls := .type "tuple", data := .seq vals.toArray }
theorem RowsG.there {P : Nat → List Value → Prop} {lo : Addr} {h : Heap} {as : List Addr} (g : RowsG P lo h as) {a : Addr} (ha : a ∈ as) : a < h.objs.size := by
  obtain ⟨j, hj⟩ := List.mem_iff_getElem?.mp ha
  obtain ⟨_, _, e⟩ := g.rows j a hj
  exact Heap.lt_size e
section
variable {prog : Program} {w : World} {A : Around} {E : Value → Shared → Prop} {s : Shared} {R : Result → Shared → Prop} {z S lo : Addr} {wr : List Addr} {n : Nat} {P : Nat → List Value → Prop} {Stt : Nat → Heap → Prop}
theorem mkt_loop (M : MkT prog w A.in1 z S wr n P Stt) (hS : S < lo) (hw : ∀ b ∈ wr, b < lo) (hSw : S ∉ wr) (hn : n ≤ sizeLine) (res : Value) {h₁ : Heap}
    (hR : ∀ h' tk acc c as, (∀ b o, b ≠ S → b ∉ wr → h₁.get? b = some o → h'.get? b = some o) → h'.get? S = some { cls := .type "list", dict := none, data := .seq acc c, slots := #[] } → as.length = n → RowsG P lo h' as →
      acc.toList = as.map Value.ref → R (.ok (.ret res)) { s with heap := h', toks := tk }) :
    ∀ (k i : Nat) (h : Heap) (tk c : Nat) (acc : Array Value) (as : List Addr), n - i = k → i ≤ n → Stt i h → (∀ b o, b ≠ S → b ∉ wr → h₁.get? b = some o → h.get? b = some o) →
      h.get? S = some { cls := .type "list", dict := none, data := .seq acc c, slots := #[] } → acc.toList = as.map Value.ref → as.length = i → RowsG P lo h as → lo ≤ h.objs.size →
      codeAny (model prog w) A (.builtin "list.extend.loop" ⟨[.ref S, .ref z, res], []⟩) R { s with heap := h, toks := tk } := by
  intro k
  induction k with
  | zero =>
    intro i h tk c acc as hk hi hst hkeep hSl hacc hal hG hlo
    have hin : i = n := by omega
    subst hin
    refine codeAny_builtin PySem.F.entry_extend_loop ?_
    rw [Around.under_plainId PySem.F.plain_extend_loop _]
    show wpAny _ A.in1 (pyNext (.ref z) >>= _) _ _ _
    refine wpAny_bind (M.done { s with heap := h, toks := tk } _ _ hst fun h' tk' he => ?_)
    refine wpAny_pure (hR h' tk' acc c as (fun b o h1 h2 e => he b o h2 (hkeep b o h1 h2 e)) (he S _ hSw hSl) hal ⟨hG.rise, hG.above, fun j a hj => ?_⟩ hacc)
    obtain ⟨vals, e1, e2⟩ := hG.rows j a hj
    have ha := hG.above a (List.mem_of_getElem? hj)
    exact ⟨vals, e1, he a _ (fun q => Nat.lt_irrefl _ (Nat.lt_of_lt_of_le (hw a q) ha)) e2⟩
  | succ k ih =>
    intro i h tk c acc as hk hi hst hkeep hSl hacc hal hG hlo
    have hlt : i < n := by omega
    have hsz : acc.size = i := by rw [← Array.length_toList, hacc, List.length_map, hal]
    refine codeAny_builtin PySem.F.entry_extend_loop ?_
    rw [Around.under_plainId PySem.F.plain_extend_loop _]
    show wpAny _ A.in1 (pyNext (.ref z) >>= _) _ _ _
    refine wpAny_bind (M.item i { s with heap := h, toks := tk } _ _ hlt hst (Heap.lt_size hSl) fun vals h' tk' hP hst' ht hz hkp => ?_)
    dsimp only at ht hz hkp ⊢
    have hS' := hkp S _ hSw hSl
    have up : ∀ b o, b ≠ S → h'.get? b = some o → (h'.update S (Obj.mapSeq (·.push (Value.ref h.objs.size)))).get? b = some o := fun b o hb e => (Heap.get?_update_other _ _ (Ne.symm hb)).trans e
    have hSl' : S < h.objs.size := Heap.lt_size hSl
    show wpAny _ A.in1 (updateSeq S (·.push (Value.ref h.objs.size)) >>= _) _ _ _
    refine wpAny_bind ?_
    refine wpAny_updateSeq hS' rfl (wpAny_pure ⟨plainId_quiet PySem.F.plain_extend_loop _, ih (i + 1) _ tk' _ (acc.push (Value.ref h.objs.size)) (as ++ [h.objs.size]) (by omega) hlt (M.keep _ _ _ hst' up)
      (fun b o h1 h2 e => up b o h1 (hkp b o h2 (hkeep b o h1 h2 e))) (Heap.get?_update_self _ hS' rfl) (by rw [Array.toList_push, hacc, List.map_append]; rfl) (by rw [List.length_append, hal]; rfl) ⟨?_, ?_, ?_⟩ ?_⟩) (by rw [hsz]; omega) (by show (acc.push (Value.ref h.objs.size)).size ≤ sizeLine + 1; rw [Array.size_push, hsz]; omega)
    · refine List.pairwise_append.mpr ⟨hG.rise, List.pairwise_singleton _ _, fun a ha b hb => ?_⟩
      rw [List.mem_singleton.mp hb]
      exact hG.there ha
    · intro a ha
      rcases List.mem_append.mp ha with ha | ha
      · exact hG.above a ha
      · rw [List.mem_singleton.mp ha]; exact hlo
    · intro j b hj
      rcases Nat.lt_trichotomy j as.length with h1 | h1 | h1
      · rw [List.getElem?_append_left h1] at hj
        obtain ⟨vals', e1, e3⟩ := hG.rows j b hj
        have hb := hG.above b (List.mem_of_getElem? hj)
        exact ⟨vals', e1, up b _ (Nat.ne_of_gt (Nat.lt_of_lt_of_le hS hb)) (hkp b _ (fun q => Nat.lt_irrefl _ (Nat.lt_of_lt_of_le (hw b q) hb)) e3)⟩
      · subst h1
        have hb : h.objs.size = b := by simpa using hj
        subst hb
        exact ⟨vals, by rw [hal]; exact hP, up _ _ (Nat.ne_of_gt hSl') ht⟩
      · have hnone : (as ++ [h.objs.size])[j]? = none := List.getElem?_eq_none (by rw [List.length_append, List.length_singleton]; omega)
        rw [hnone] at hj; cases hj
    · have e : (h'.update S (Obj.mapSeq (·.push (Value.ref h.objs.size)))).get? h.objs.size = _ := up _ _ (Nat.ne_of_gt hSl') ht
      exact Nat.le_of_lt (Nat.lt_of_le_of_lt hlo (Heap.lt_size e))
theorem zip_len_none : typeLookup (.type "zip") "__len__" = pure none := am_miss_of_fast (by decide +kernel)
theorem zip_hint_none : typeLookup (.type "zip") "__length_hint__" = pure none := am_miss_of_fast (by decide +kernel)
theorem zip_hint (hT : s.TypeIs (.ref z) "zip") {Q : Bool → Shared → Prop} (h : Q true s) : wpAny (model prog w) A (Builtin.List.listLengthHint (.ref z)) Q E s := by
  unfold Builtin.List.listLengthHint
  refine wpAny_bind (wpAny_specialOf hT zip_len_none ?_)
  dsimp only
  refine wpAny_ite_split (fun hab => absurd hab (by decide)) (fun _ => ?_)
  refine wpAny_ite_split (fun hab => absurd hab (by decide)) (fun _ => ?_)
  refine wpAny_bind (wpAny_specialOf hT zip_hint_none ?_)
  exact wpAny_pure h
theorem mkt_extend (M : MkT prog w A.in1 z S wr n P Stt) (hh : A.handled = none) (hst : Stt 0 s.heap) (hSz : S ≠ z) (hw : ∀ b ∈ wr, b < s.heap.objs.size) (hSw : S ∉ wr) (hn : n ≤ sizeLine) (res : Value) (c₀ : Nat) (hS : s.heap.get? S = some { cls := .type "list", data := .seq #[] c₀ })
    (hR : ∀ h' tk acc c as, (∀ b o, b ≠ S → b ∉ wr → s.heap.get? b = some o → h'.get? b = some o) → h'.get? S = some { cls := .type "list", dict := none, data := .seq acc c, slots := #[] } → as.length = n → RowsG P s.heap.objs.size h' as →
      acc.toList = as.map Value.ref → R (.ok (.ret res)) { s with heap := h', toks := tk }) :
    wpAny (model prog w) A.in1 (Builtin.List.listExtendWith (.ref S) (.ref z) res)
      (fun fin s' => match fin with | .done f => R (.ok f) s' | .again c' => c'.quiet = true ∧ codeAny (model prog w) A c' R s') (fun e s' => R (.error e) s') s := by
  have key : ∀ (h : Heap) (c₁ tk : Nat), (∀ b o, b ≠ S → s.heap.get? b = some o → h.get? b = some o) → s.heap.objs.size ≤ h.objs.size →
      h.get? S = some { cls := .type "list", data := .seq #[] c₁ } → codeAny (model prog w) A (.builtin "list.extend.loop" ⟨[.ref S, .ref z, res], []⟩) R { s with heap := h, toks := tk } := by
    intro h c₁ tk hk hsz hS₁
    exact mkt_loop (s := s) (h₁ := s.heap) M (Heap.lt_size hS) hw hSw hn res hR n 0 h tk c₁ #[] [] (Nat.sub_zero _) (Nat.zero_le _) (M.keep _ _ _ hst hk) (fun b o hb _ e => hk b o hb e) hS₁ rfl rfl
      ⟨List.Pairwise.nil, (fun _ ha => nomatch ha), (fun j a hj => by simp at hj)⟩ hsz
  unfold Builtin.List.listExtendWith
  refine wpAny_bind (wpAny_typeOf (T := "zip") (M.type _ _ hst) ?_)
  have h1 : Builtin.List.listSameRef (.ref S) (.ref z) = false := by simp [Builtin.List.listSameRef, hSz]
  have h2 : (Value.type "zip" == Value.type "list") = false := by decide
  have h3 : (Value.type "zip" == Value.type "tuple") = false := by decide
  simp only [h1, h2, h3, Bool.or_false, Bool.false_eq_true, if_false]
  refine wpAny_bind (M.iter _ _ _ _ _ hst ?_)
  refine wpAny_bind (wpAny_holding (zip_hint (M.type _ _ hst) ?_))
  refine wpAny_ite_split (fun _ => ?_) (fun _ => wpAny_pure ⟨plainId_quiet PySem.F.plain_extend_loop _, key _ c₀ _ (fun b o _ e => e) (Nat.le_refl _) hS⟩)
  refine wpAny_bind (wpAny_rule ?_)
  refine wpAny_bind ?_
  show wpAny _ _ (updateSeq S (·.push .none) >>= fun _ => updateSeq S (·.pop)) _ _ _
  refine wpAny_bind (wpAny_updateSeq hS rfl ?_)
  have hS₂ := Heap.get?_update_self (Obj.mapSeq (·.push Value.none)) hS rfl
  refine wpAny_updateSeq (hz := by seq_fits) hS₂ rfl ?_
  have hS₃ := Heap.get?_update_self (Obj.mapSeq (·.pop)) hS₂ rfl
  refine wpAny_pure ⟨plainId_quiet PySem.F.plain_extend_loop _, key _ _ _ (fun b o hb e => ?_) ?_ hS₃⟩
  · exact (Heap.get?_update_other _ _ (Ne.symm hb)).trans ((Heap.get?_update_other _ _ (Ne.symm hb)).trans e)
  · first
      | (simp only [Heap.size_update]; exact Nat.le_refl _)
      | exact Nat.le_refl _
theorem mkt_call {Q : Value → Shared → Prop} (M : MkT prog w A.in1.in1 z s.heap.objs.size wr n P Stt) (hh : A.handled = none) (hst : Stt 0 (s.heap.push { cls := .type "list", data := .seq #[] })) (hz : z < s.heap.objs.size) (hw : ∀ b ∈ wr, b < s.heap.objs.size) (hn : n ≤ sizeLine)
    (hQ : ∀ h' tk acc c as, (∀ b o, b ∉ wr → s.heap.get? b = some o → h'.get? b = some o) → h'.get? s.heap.objs.size = some { cls := .type "list", dict := none, data := .seq acc c, slots := #[] } → as.length = n → RowsG P (s.heap.objs.size + 1) h' as →
      acc.toList = as.map Value.ref → Q (.ref s.heap.objs.size) { s with heap := h', toks := tk }) :
    wpAny (model prog w) A (call (.type "list") [.ref z]) Q E s := by
  refine callType_codes (Q₁ := fun obj s₁ => obj = .ref s.heap.objs.size ∧ s₁ = { s with heap := s.heap.push { cls := .type "list", data := .seq #[] } }) PySem.F.called_list (PySem.F.typeCall_list_1 _) PySem.F.entry_list_init
    (code_list_new _ ⟨rfl, rfl⟩) fun obj s₁ h₁ => ?_
  obtain ⟨rfl, rfl⟩ := h₁
  have hS : (s.heap.push { cls := .type "list", data := .seq #[] }).get? s.heap.objs.size = some { cls := .type "list", data := .seq #[] } := Heap.get?_push_size _ rfl
  have hsz : (s.heap.push { cls := .type "list", data := .seq #[] }).objs.size = s.heap.objs.size + 1 := Heap.size_push ..
  refine ⟨⟨_, hS, rfl⟩, PySem.F.args_list_init_2 _ _, ?_⟩
  show wpAny _ _ (do let old ← Builtin.List.listItems (.ref s.heap.objs.size); Builtin.List.listUpdate (.ref s.heap.objs.size) (fun _ => #[]); letGo old.toList.reverse; Builtin.List.listExtendWith (.ref s.heap.objs.size) (.ref z) .none) _ _ _
  refine wpAny_bind ?_
  unfold Builtin.List.listItems
  refine wpAny_bind (wpAny_seqItems hS rfl (wpAny_pure ?_))
  show wpAny _ _ (updateSeq s.heap.objs.size (fun _ => #[]) >>= fun _ => letGo (#[] : Array Value).toList.reverse >>= fun _ => Builtin.List.listExtendWith (.ref s.heap.objs.size) (.ref z) .none) _ _ _
  refine wpAny_bind (wpAny_updateSeq hS rfl ?_)
  have hS₂ := Heap.get?_update_self (Obj.mapSeq (fun _ => (#[] : Array Value))) hS rfl
  have oth : ∀ b o, b ≠ s.heap.objs.size → (s.heap.push { cls := .type "list", data := .seq #[] }).get? b = some o → ((s.heap.push { cls := .type "list", data := .seq #[] }).update s.heap.objs.size (Obj.mapSeq (fun _ => (#[] : Array Value)))).get? b = some o :=
    fun b o hb e => (Heap.get?_update_other _ _ (Ne.symm hb)).trans e
  refine wpAny_bind (wpAny_letGo ?_)
  have hsz2 : ((s.heap.push { cls := .type "list", data := .seq #[] }).update s.heap.objs.size (Obj.mapSeq (fun _ => (#[] : Array Value)))).objs.size = s.heap.objs.size + 1 := by
    first
      | (rw [Heap.size_update]; exact hsz)
      | exact hsz
  refine mkt_extend (A := A.in1) (n := n) (P := P) (Stt := Stt) (wr := wr) M hh (M.keep _ _ _ hst oth) (Nat.ne_of_gt hz) (fun b hb => ?_) (fun hb => Nat.lt_irrefl _ (hw _ hb)) hn .none _ hS₂ (fun h' tk acc c as hk hS' hl hG hacc => ?_)
  · show b < ((s.heap.push { cls := .type "list", data := .seq #[] }).update s.heap.objs.size (Obj.mapSeq (fun _ => (#[] : Array Value)))).objs.size
    rw [hsz2]
    exact Nat.lt_succ_of_lt (hw b hb)
  · refine ⟨rfl, hQ h' tk acc c as (fun b o hb e => hk b o (Nat.ne_of_lt (Heap.lt_size e)) hb (oth b o (Nat.ne_of_lt (Heap.lt_size e)) (Heap.get?_push_of_some _ e))) hS' hl ?_ hacc⟩
    have e : ((s.heap.push { cls := .type "list", data := .seq #[] }).update s.heap.objs.size (Obj.mapSeq (fun _ => (#[] : Array Value)))).objs.size = s.heap.objs.size + 1 := hsz2
    rw [← e]
    exact hG
end
/-! ### the rows tracked -/
def putR : Hp → List Addr → List (List V) → Hp
  | H, a :: as, r :: rs => putR (upd H a (.tup r)) as rs
  | H, _, _ => H
theorem putR_off {b : Addr} : ∀ (as : List Addr) (rs : List (List V)) (H : Hp), b ∉ as → putR H as rs b = H b
  | [], _, _, _ => rfl
  | _ :: _, [], _, _ => rfl
  | a :: as, r :: rs, H, h => by
    show putR (upd H a (.tup r)) as rs b = H b
    rw [putR_off as rs _ (fun z => h (List.mem_cons_of_mem _ z)), upd_ne (fun z => h (by rw [z]; exact List.mem_cons_self))]
theorem putR_at : ∀ (as : List Addr) (rs : List (List V)) (H : Hp), as.length = rs.length → as.Nodup → ∀ (j : Nat) (a : Addr) (r : List V), as[j]? = some a → rs[j]? = some r → putR H as rs a = some (.tup r)
  | [], _, _, _, _, j, a, r, h, _ => by simp at h
  | _ :: _, [], _, h, _, _, _, _, _, _ => by cases h
  | a :: as, r :: rs, H, hl, hn, j, b, q, h1, h2 => by
    have hn' := List.nodup_cons.mp hn
    cases j with
    | zero =>
      simp at h1 h2
      subst h1 h2
      show putR (upd H a (.tup r)) as rs a = some (.tup r)
      rw [putR_off as rs _ hn'.1, upd_same]
    | succ j => exact putR_at as rs _ (Nat.succ.inj hl) hn'.2 j b q (by simpa using h1) (by simpa using h2)
section
variable {X : Cx}
theorem rows_laid {pins : List (Addr × Obj)} {σ : L2.St} {H : Hp} {s : Shared} {h' : Heap} {tk : Nat} {rows : List (List V)} {acc : Array Value} {c : Nat} {as : List Addr} {lo S : Addr} (I : L2.Inv X pins σ H s) (hz : rows.length ≤ sizeLine)
    (hk : ∀ b o, s.heap.get? b = some o → h'.get? b = some o) (hlo : s.heap.objs.size ≤ S) (hlo2 : S < lo) (hS : h'.get? S = some { cls := .type "list", dict := none, data := .seq acc c, slots := #[] }) (hl : as.length = rows.length)
    (hG : RowsG (fun j vals => ∃ r, rows[j]? = some r ∧ Vals r vals ∧ r.length ≤ sizeLine) lo h' as) (hacc : acc.toList = as.map Value.ref) :
    ∃ H' : Hp, Same H H' ∧ H S = none ∧ H' S = some (.lst (as.map V.ref)) ∧ (∀ (j : Nat) (a : Addr) (r : List V), as[j]? = some a → rows[j]? = some r → H' a = some (.tup r)) ∧ L2.Inv X pins σ H' { s with heap := h', toks := tk } := by
  have hSn : S ∉ as := fun z => by
    exact Nat.lt_irrefl _ (Nat.lt_of_lt_of_le hlo2 (hG.above _ z))
  have nd : as.Nodup := List.Pairwise.imp (fun {a b} (h : a < b) => Nat.ne_of_lt h) hG.rise
  have new : ∀ t ∈ as, H t = none := fun t ht => I.hok.fresh (Nat.le_trans hlo (Nat.le_of_lt (Nat.lt_of_lt_of_le hlo2 (hG.above t ht))))
  have newS : H S = none := I.hok.fresh hlo
  have atP := putR_at as rows (upd H S (.lst (as.map V.ref))) hl nd
  have off : ∀ b, b ∉ as → b ≠ S → putR (upd H S (.lst (as.map V.ref))) as rows b = H b := fun b h1 h2 => by rw [putR_off as rows _ h1, upd_ne h2]
  have low : ∀ b o, s.heap.get? b = some o → b ∉ as ∧ b ≠ S := fun b o e => ⟨fun z => Nat.lt_irrefl _ (Nat.lt_of_lt_of_le (Heap.lt_size e) (Nat.le_trans hlo (Nat.le_of_lt (Nat.lt_of_lt_of_le hlo2 (hG.above b z))))), fun z => Nat.lt_irrefl _ (Nat.lt_of_lt_of_le (Heap.lt_size e) (z ▸ hlo))⟩
  have kp : ∀ b u, H b = some u → (putR (upd H S (.lst (as.map V.ref))) as rows) b = some u := fun b u e => by
    rw [off b (fun z => by rw [new b z] at e; cases e) (fun z => by rw [z, newS] at e; cases e)]
    exact e
  have eS : putR (upd H S (.lst (as.map V.ref))) as rows S = some (.lst (as.map V.ref)) := by rw [putR_off as rows _ hSn, upd_same]
  refine ⟨putR (upd H S (.lst (as.map V.ref))) as rows, kp, newS, eS, atP, ?_⟩
  refine I.call' (ch := []) rfl ⟨fun b o q _ _ _ => hk b o q, fun b o q _ _ _ => ⟨o.slots, hk b o q⟩, fun b o q n _ => ?_, fun b o q _ => ⟨o, hk b o q⟩, fun b xs q => kp b _ q, fun b o u q => kp b _ q, fun b ps q => ⟨#[], by rw [kp b _ q]; simp⟩⟩ (fun b u q => ?_) I.bare fun b z => by simp at z
  · obtain ⟨z1, z2⟩ := low b o q
    rw [off b z1 z2]
    exact n
  · by_cases hb : b ∈ as
    · obtain ⟨j, hj⟩ := List.mem_iff_getElem?.mp hb
      obtain ⟨vals, ⟨r, e1, e2, e4⟩, e3⟩ := hG.rows j b hj
      rw [atP j b r hj e1] at q
      cases q
      exact ⟨e4, vals, e2, ⟨_, e3, rfl, _, rfl⟩⟩
    · by_cases hb2 : b = S
      · rw [hb2] at q ⊢
        rw [eS] at q
        cases q
        refine ⟨by rw [List.length_map]; omega, acc.toList, c, by rw [hacc]; exact L2.vals_refs as, ?_⟩
        rw [Array.toArray_toList]
        exact hS
      · rw [off b hb hb2] at q
        exact (I.hok b u q).stay (fun d v _ y => hk d v y) (fun d y => kp d _ y) fun d xs y => kp d _ y
end
theorem zh_iter {prog : Program} {w : World} {A : Around} {E : Value → Shared → Prop} {s : Shared} {z TI TO T : Addr} {f : Bool} {Q : Value → Shared → Prop} (hz : IsZipHeld s.heap z TI TO T f) (h : Q (.ref z) s) : wpAny (model prog w) A (pyIter (.ref z)) Q E s := by
  have hT : s.TypeIs (.ref z) "zip" := ⟨_, hz, rfl⟩
  refine wpAny_pyIter_slot hT PySem.F.slot_zip_iter (wpAny_call_entry PySem.F.slot_zip_iter hT PySem.F.entry_zip_iter ?_ (PySem.F.args_zip_iter_1 _))
  show wpAny _ _ (ret (.ref z)) _ _ s
  exact wpAny_pure ⟨_, rfl, "zip", _, hT, PySem.F.slot_zip_next.lookup, h⟩
section
variable {prog : Program} {w : World} {A : Around} {E : Value → Shared → Prop} {s : Shared} {z TI TO T i1 i2 : Addr} {fp1 fp2 : List Addr} {n1 n2 i : Nat} {P1 P2 : Nat → Value → Prop} {St1 St2 : Nat → Heap → Prop} {f : Bool} {oT : Obj}
theorem zh2_item {Q : Value → Shared → Prop} (S : ZipSep2 z TI TO i1 i2 fp1 fp2) (D1 : Draws prog w A i1 fp1 n1 P1 St1) (D2 : Draws prog w A i2 fp2 n2 P2 St2)
    (hz : IsZipHeld s.heap z TI TO T f) (hT : s.heap.get? T = some oT) (hTI : IsTupOf2 s.heap TI (.ref i1) (.ref i2)) (st1 : St1 i s.heap) (st2 : St2 i s.heap) (hlt1 : i < n1) (hlt2 : i < n2)
    (hQ : ∀ x1 x2 h' tk, P1 i x1 → P2 i x2 → IsZipHeld h' z TI TO T true → St1 (i + 1) h' → St2 (i + 1) h' → IsTupOf2 h' s.heap.objs.size x1 x2 → h'.objs.size = s.heap.objs.size + 1 →
      (∀ c o, c ≠ z → c ≠ i1 → c ≠ i2 → s.heap.get? c = some o → h'.get? c = some o) → Q (.ref s.heap.objs.size) { s with heap := h', toks := tk }) :
    wpAny (model prog w) A (Builtin.«zip.__next__» ⟨[.ref z], []⟩) (fun fin s' => ∃ v, fin = .done (.ret v) ∧ Q v s') E s := by
  show wpAny _ _ (field (.ref z) 2 >>= _) _ _ _
  refine wpAny_bind (wpAny_field hz rfl (x := .bool false) rfl ?_)
  show wpAny _ _ (field (.ref z) 3 >>= _) _ _ _
  refine wpAny_bind (wpAny_field hz rfl (x := .ref TI) rfl ?_)
  refine wpAny_bind (wpAny_seqItems hTI rfl ?_)
  show wpAny _ _ (Builtin.SmallTypes.ownedTupleIsFree (.ref z) >>= _) _ _ _
  refine wpAny_bind (wpAny_tupleHeld_zip hz hT fun h₁ hz₁ hs₁ => ?_)
  simp only [Bool.false_eq_true, if_false]
  refine wpAny_bind ?_
  rw [← Array.forIn_toList]
  simp only [List.forIn_cons, List.forIn_nil]
  have q1_1 := D1.over st1 hs₁ S.zf1
  have q2_1 := D2.over st2 hs₁ S.zf2
  refine wpAny_bind (wpAny_bind (wpAny_holding ?_))
  show wpAny _ _ (Builtin.SmallTypes.nextOf (.ref i1) >>= _) _ _ _
  refine wpAny_bind (D1.item i ({ s with heap := h₁ } : Shared) _ _ hlt1 q1_1 fun x1 g1 tk1 y1 q1_2 hg1 => wpAny_pure ?_)
  replace hg1 : Heap.SameBut i1 h₁ g1 := hg1
  have q2_2 := D2.over q2_1 hg1 S.sep1_2
  refine wpAny_pure ?_
  refine wpAny_bind (wpAny_bind (wpAny_holding ?_))
  show wpAny _ _ (Builtin.SmallTypes.nextOf (.ref i2) >>= _) _ _ _
  refine wpAny_bind (D2.item i ({ s with heap := g1, toks := tk1 } : Shared) _ _ hlt2 q2_2 fun x2 g2 tk2 y2 q2_3 hg2 => wpAny_pure ?_)
  replace hg2 : Heap.SameBut i2 g1 g2 := hg2
  have q1_3 := D1.over q1_2 hg2 S.sep2_1
  refine wpAny_pure ?_
  refine wpAny_pure ?_
  show wpAny _ _ (newTuple [x1, x2] >>= _) _ _ _
  refine wpAny_bind (wpAny_newTuple ?_)
  have hsz : g2.objs.size = s.heap.objs.size := by rw [hg2.1, hg1.1, hs₁.1]
  have hz₃ : IsZipHeld g2 z TI TO T true := (hg2.extBut _ _ S.zi2 (hg1.extBut _ _ S.zi1 hz₁))
  have hk : ∀ c o, c ≠ z → c ≠ i1 → c ≠ i2 → s.heap.get? c = some o → g2.get? c = some o := fun c o c0 c1 c2 e => (hg2.extBut _ _ c2 (hg1.extBut _ _ c1 (hs₁.extBut _ _ c0 e)))
  refine wpAny_pure ⟨_, rfl, ?_⟩
  show Q (.ref g2.objs.size) _
  have hp : IsTupOf2 (g2.push { cls := .type "tuple", data := .seq #[x1, x2] }) g2.objs.size x1 x2 := Heap.get?_push_size _ rfl
  have hz4 : (g2.push { cls := .type "tuple", data := .seq #[x1, x2] }).objs.size = g2.objs.size + 1 := Heap.size_push ..
  rw [hsz] at hp hz4 ⊢
  exact hQ x1 x2 _ _ y1 y2 (Heap.get?_push_of_some _ hz₃) (D1.frame _ _ _ q1_3 fun b _ o e => Heap.get?_push_of_some _ e) (D2.frame _ _ _ q2_3 fun b _ o e => Heap.get?_push_of_some _ e) hp hz4 fun c o c0 c1 c2 e => Heap.get?_push_of_some _ (hk c o c0 c1 c2 e)
theorem zh2_end {Q : Fin → Shared → Prop} (S : ZipSep2 z TI TO i1 i2 fp1 fp2) (D1 : Draws prog w A i1 fp1 n1 P1 St1) (D2 : Draws prog w A i2 fp2 n2 P2 St2)
    (hz : IsZipHeld s.heap z TI TO T f) (hT : s.heap.get? T = some oT) (hTI : IsTupOf2 s.heap TI (.ref i1) (.ref i2)) (st1 : St1 i s.heap) (st2 : St2 i s.heap) (hle1 : i ≤ n1) (hle2 : i ≤ n2) (hend : i = n1 ∨ i = n2)
    (hE : ∀ h' tk e, (∀ c o, c ≠ z → c ≠ i1 → c ≠ i2 → s.heap.get? c = some o → h'.get? c = some o) → (∃ o, h'.get? e = some o ∧ o.cls = .type "StopIteration") → E (.ref e) { s with heap := h', toks := tk }) :
    wpAny (model prog w) A (Builtin.«zip.__next__» ⟨[.ref z], []⟩) Q E s := by
  show wpAny _ _ (field (.ref z) 2 >>= _) _ _ _
  refine wpAny_bind (wpAny_field hz rfl (x := .bool false) rfl ?_)
  show wpAny _ _ (field (.ref z) 3 >>= _) _ _ _
  refine wpAny_bind (wpAny_field hz rfl (x := .ref TI) rfl ?_)
  refine wpAny_bind (wpAny_seqItems hTI rfl ?_)
  show wpAny _ _ (Builtin.SmallTypes.ownedTupleIsFree (.ref z) >>= _) _ _ _
  refine wpAny_bind (wpAny_tupleHeld_zip hz hT fun h₁ hz₁ hs₁ => ?_)
  simp only [Bool.false_eq_true, if_false]
  refine wpAny_bind ?_
  rw [← Array.forIn_toList]
  simp only [List.forIn_cons, List.forIn_nil]
  have q1_1 := D1.over st1 hs₁ S.zf1
  have q2_1 := D2.over st2 hs₁ S.zf2
  refine wpAny_bind (wpAny_bind (wpAny_holding ?_))
  show wpAny _ _ (Builtin.SmallTypes.nextOf (.ref i1) >>= _) _ _ _
  by_cases e1 : i = n1
  · subst e1
    refine wpAny_bind (D1.done ({ s with heap := h₁ } : Shared) _ _ q1_1 fun q e hq he => ?_)
    replace hq : Heap.ExtBut i1 h₁ q := hq
    exact hE q _ e (fun c o c0 c1 c2 e => hq _ _ c1 (hs₁.extBut _ _ c0 e)) he
  have hlt1 : i < n1 := by omega
  refine wpAny_bind (D1.item i ({ s with heap := h₁ } : Shared) _ _ hlt1 q1_1 fun x1 g1 tk1 y1 q1_2 hg1 => wpAny_pure ?_)
  replace hg1 : Heap.SameBut i1 h₁ g1 := hg1
  have q2_2 := D2.over q2_1 hg1 S.sep1_2
  refine wpAny_pure ?_
  refine wpAny_bind (wpAny_bind (wpAny_holding ?_))
  show wpAny _ _ (Builtin.SmallTypes.nextOf (.ref i2) >>= _) _ _ _
  have e2 : i = n2 := by omega
  subst e2
  refine wpAny_bind (D2.done ({ s with heap := g1, toks := tk1 } : Shared) _ _ q2_2 fun q e hq he => ?_)
  replace hq : Heap.ExtBut i2 g1 q := hq
  exact hE q _ e (fun c o c0 c1 c2 e => hq _ _ c2 (hg1.extBut _ _ c1 (hs₁.extBut _ _ c0 e))) he
theorem zh2_next {Q : Option Value → Shared → Prop} (S : ZipSep2 z TI TO i1 i2 fp1 fp2) (D1 : Draws prog w A.in1 i1 fp1 n1 P1 St1) (D2 : Draws prog w A.in1 i2 fp2 n2 P2 St2)
    (hz : IsZipHeld s.heap z TI TO T f) (hT : s.heap.get? T = some oT) (hTI : IsTupOf2 s.heap TI (.ref i1) (.ref i2)) (st1 : St1 i s.heap) (st2 : St2 i s.heap) (hlt1 : i < n1) (hlt2 : i < n2)
    (hQ : ∀ x1 x2 h' tk, P1 i x1 → P2 i x2 → IsZipHeld h' z TI TO T true → St1 (i + 1) h' → St2 (i + 1) h' → IsTupOf2 h' s.heap.objs.size x1 x2 → h'.objs.size = s.heap.objs.size + 1 →
      (∀ c o, c ≠ z → c ≠ i1 → c ≠ i2 → s.heap.get? c = some o → h'.get? c = some o) → Q (some (.ref s.heap.objs.size)) { s with heap := h', toks := tk }) :
    wpAny (model prog w) A (pyNext (.ref z)) Q E s := by
  have hTy : s.TypeIs (.ref z) "zip" := ⟨_, hz, rfl⟩
  unfold pyNext
  exact wpAny_bind (wpAny_attempt (wpAny_callSpecial?_slot (name := Str.ofString "__next__") hTy PySem.F.slot_zip_next
    (wpAny_call_entry PySem.F.slot_zip_next hTy PySem.F.entry_zip_next
      (zh2_item S D1 D2 hz hT hTI st1 st2 hlt1 hlt2 fun x1 x2 h' tk y1 y2 b1 d1 d2 b5 b6 b7 => wpAny_pure (hQ x1 x2 h' tk y1 y2 b1 d1 d2 b5 b6 b7)) (PySem.F.args_zip_next_1 _))))
theorem zh2_stop {Q : Option Value → Shared → Prop} (S : ZipSep2 z TI TO i1 i2 fp1 fp2) (D1 : Draws prog w A.in1 i1 fp1 n1 P1 St1) (D2 : Draws prog w A.in1 i2 fp2 n2 P2 St2)
    (hz : IsZipHeld s.heap z TI TO T f) (hT : s.heap.get? T = some oT) (hTI : IsTupOf2 s.heap TI (.ref i1) (.ref i2)) (st1 : St1 i s.heap) (st2 : St2 i s.heap) (hle1 : i ≤ n1) (hle2 : i ≤ n2) (hend : i = n1 ∨ i = n2)
    (hQ : ∀ h' tk, (∀ c o, c ≠ z → c ≠ i1 → c ≠ i2 → s.heap.get? c = some o → h'.get? c = some o) → Q none { s with heap := h', toks := tk }) : wpAny (model prog w) A (pyNext (.ref z)) Q E s := by
  have hTy : s.TypeIs (.ref z) "zip" := ⟨_, hz, rfl⟩
  unfold pyNext
  refine wpAny_bind (wpAny_attempt (wpAny_callSpecial?_slot (name := Str.ofString "__next__") hTy PySem.F.slot_zip_next
    (wpAny_call_entry PySem.F.slot_zip_next hTy PySem.F.entry_zip_next (zh2_end S D1 D2 hz hT hTI st1 st2 hle1 hle2 hend fun h' tk e hk he => ?_) (PySem.F.args_zip_next_1 _))))
  obtain ⟨o, ho, hc⟩ := he
  refine wpAny_bind (wpAny_isInstance (T := "StopIteration") (b := true) ⟨o, ho, hc⟩ isSubtype_stop ?_)
  exact wpAny_pure (hQ _ _ hk)
end
section
variable {prog : Program} {w : World} {A : Around}
def Zs2l (z TI TO S i1 i2 t1 t2 : Addr) (xs1 xs2 : Array Value) (i : Nat) (h : Heap) : Prop :=
  ((i = 0 ∧ IsZip h z TI TO .none ∧ ∃ a1 a2, IsTupOf2 h TO a1 a2) ∨ ∃ T f oT, IsZipHeld h z TI TO T f ∧ h.get? T = some oT ∧ T ≠ z ∧ T ≠ i1 ∧ T ≠ i2 ∧ T ≠ S) ∧ IsTupOf2 h TI (.ref i1) (.ref i2) ∧ (h.IsListIter i1 t1 i ∧ h.IsList t1 xs1) ∧ (h.IsListIter i2 t2 i ∧ h.IsList t2 xs2)
theorem mk2l {z TI TO S i1 i2 t1 t2 : Addr} {xs1 xs2 : Array Value} (hh : A.handled = none) (D : ZipSep2 z TI TO i1 i2 [i1, t1] [i2, t2]) (tne : t1 ≠ i1 ∧ t2 ≠ i2)
    (hS : S ≠ z ∧ S ≠ TI ∧ S ≠ TO ∧ S ≠ i1 ∧ S ≠ t1 ∧ S ≠ i2 ∧ S ≠ t2) :
    MkT prog w A z S [z, TO, i1, i2] (min xs1.size xs2.size) (fun i vals => ∃ x1 x2, xs1[i]? = some x1 ∧ xs2[i]? = some x2 ∧ vals = [x1, x2]) (Zs2l z TI TO S i1 i2 t1 t2 xs1 xs2) where
  item := fun i s Q E hi hst hSs hQ => by
    obtain ⟨hd, hTI, st1, st2⟩ := hst
    have d1D := Draws.list (prog := prog) (w := w) (A := A.in1) hh i1 t1 tne.1 xs1
    have d2D := Draws.list (prog := prog) (w := w) (A := A.in1) hh i2 t2 tne.2 xs2
    rcases hd with ⟨rfl, hz, a1, a2, hTO⟩ | ⟨T, f, oT, hz, hT, tz, ti1, ti2, tS⟩
    · refine wpAny_pyNext_zipD2_item D d1D d2D hz hTI hTO st1 st2 (by omega) (by omega) fun x1 x2 h' tk y1 y2 b1 b2 d1 d2 b5 b6 hk => ?_
      have ltz : ∀ {c o}, s.heap.get? c = some o → s.heap.objs.size ≠ c := fun e => Nat.ne_of_gt (Heap.lt_size e)
      refine hQ [x1, x2] h' tk ⟨x1, x2, y1, y2, rfl⟩ ⟨.inr ⟨s.heap.objs.size, false, _, b1, b5, ltz hz, (by obtain ⟨_, e, _⟩ := st1.1; exact ltz e), (by obtain ⟨_, e, _⟩ := st2.1; exact ltz e), Nat.ne_of_gt hSs⟩, hk _ _ D.TIz D.TITO D.TIi1 D.TIi2 hTI, d1, d2⟩ b5 b6 fun b o hb e => hk b o (fun x => hb (by simp [x])) (fun x => hb (by simp [x])) (fun x => hb (by simp [x])) (fun x => hb (by simp [x])) e
    · refine zh2_next D d1D d2D hz hT hTI st1 st2 (by omega) (by omega) fun x1 x2 h' tk y1 y2 b1 d1 d2 b5 b6 hk => ?_
      refine hQ [x1, x2] h' tk ⟨x1, x2, y1, y2, rfl⟩ ⟨.inr ⟨T, true, oT, b1, hk _ _ tz ti1 ti2 hT, tz, ti1, ti2, tS⟩, hk _ _ D.TIz D.TIi1 D.TIi2 hTI, d1, d2⟩ b5 b6 fun b o hb e => hk b o (fun x => hb (by simp [x])) (fun x => hb (by simp [x])) (fun x => hb (by simp [x])) e
  done := fun s Q E hst hQ => by
    obtain ⟨hd, hTI, st1, st2⟩ := hst
    have d1D := Draws.list (prog := prog) (w := w) (A := A.in1) hh i1 t1 tne.1 xs1
    have d2D := Draws.list (prog := prog) (w := w) (A := A.in1) hh i2 t2 tne.2 xs2
    rcases hd with ⟨e0, hz, a1, a2, hTO⟩ | ⟨T, f, oT, hz, hT, tz, ti1, ti2, tS⟩
    · exact wpAny_pyNext_zipD2_end D d1D d2D hz hTI hTO st1 st2 (by omega) (by omega) (by omega) fun h' tk hk => hQ h' tk fun b o hb e => hk b o (fun x => hb (by simp [x])) (fun x => hb (by simp [x])) (fun x => hb (by simp [x])) (fun x => hb (by simp [x])) e
    · exact zh2_stop D d1D d2D hz hT hTI st1 st2 (by omega) (by omega) (by omega) fun h' tk hk => hQ h' tk fun b o hb e => hk b o (fun x => hb (by simp [x])) (fun x => hb (by simp [x])) (fun x => hb (by simp [x])) e
  keep := fun i h h' hst hk => by
    obtain ⟨hd, hTI, ⟨p1, r1⟩, ⟨p2, r2⟩⟩ := hst
    obtain ⟨s1, s2, s3, si1, sx1, si2, sx2⟩ := hS
    refine ⟨?_, hk _ _ (Ne.symm s2) hTI, ⟨p1.at fun o e => hk _ o (Ne.symm si1) e, r1.at fun o e => hk _ o (Ne.symm sx1) e⟩, ⟨p2.at fun o e => hk _ o (Ne.symm si2) e, r2.at fun o e => hk _ o (Ne.symm sx2) e⟩⟩
    rcases hd with ⟨e0, hz, a1, a2, hTO⟩ | ⟨T, f, oT, hz, hT, tz, ti1, ti2, tS⟩
    · exact .inl ⟨e0, hk _ _ (Ne.symm s1) hz, a1, a2, hk _ _ (Ne.symm s3) hTO⟩
    · exact .inr ⟨T, f, oT, hk _ _ (Ne.symm s1) hz, hk _ _ tS hT, tz, ti1, ti2, tS⟩
  iter := fun A' i s Q E hst hQ => by
    rcases hst.1 with ⟨_, hz, _⟩ | ⟨T, f, oT, hz, _⟩
    · exact wpAny_pyIter_zip hz hQ
    · exact zh_iter hz hQ
  type := fun i s hst => by
    rcases hst.1 with ⟨_, hz, _⟩ | ⟨T, f, oT, hz, _⟩
    · exact ⟨_, hz, rfl⟩
    · exact ⟨_, hz, rfl⟩
end
section
variable {prog : Program} {w : World} {A : Around} {E : Value → Shared → Prop} {s : Shared} {z TI TO T i1 i2 i3 : Addr} {fp1 fp2 fp3 : List Addr} {n1 n2 n3 i : Nat} {P1 P2 P3 : Nat → Value → Prop} {St1 St2 St3 : Nat → Heap → Prop} {f : Bool} {oT : Obj}
theorem zh3_item {Q : Value → Shared → Prop} (S : ZipSep3 z TI TO i1 i2 i3 fp1 fp2 fp3) (D1 : Draws prog w A i1 fp1 n1 P1 St1) (D2 : Draws prog w A i2 fp2 n2 P2 St2) (D3 : Draws prog w A i3 fp3 n3 P3 St3)
    (hz : IsZipHeld s.heap z TI TO T f) (hT : s.heap.get? T = some oT) (hTI : IsTupOf3 s.heap TI (.ref i1) (.ref i2) (.ref i3)) (st1 : St1 i s.heap) (st2 : St2 i s.heap) (st3 : St3 i s.heap) (hlt1 : i < n1) (hlt2 : i < n2) (hlt3 : i < n3)
    (hQ : ∀ x1 x2 x3 h' tk, P1 i x1 → P2 i x2 → P3 i x3 → IsZipHeld h' z TI TO T true → St1 (i + 1) h' → St2 (i + 1) h' → St3 (i + 1) h' → IsTupOf3 h' s.heap.objs.size x1 x2 x3 → h'.objs.size = s.heap.objs.size + 1 →
      (∀ c o, c ≠ z → c ≠ i1 → c ≠ i2 → c ≠ i3 → s.heap.get? c = some o → h'.get? c = some o) → Q (.ref s.heap.objs.size) { s with heap := h', toks := tk }) :
    wpAny (model prog w) A (Builtin.«zip.__next__» ⟨[.ref z], []⟩) (fun fin s' => ∃ v, fin = .done (.ret v) ∧ Q v s') E s := by
  show wpAny _ _ (field (.ref z) 2 >>= _) _ _ _
  refine wpAny_bind (wpAny_field hz rfl (x := .bool false) rfl ?_)
  show wpAny _ _ (field (.ref z) 3 >>= _) _ _ _
  refine wpAny_bind (wpAny_field hz rfl (x := .ref TI) rfl ?_)
  refine wpAny_bind (wpAny_seqItems hTI rfl ?_)
  show wpAny _ _ (Builtin.SmallTypes.ownedTupleIsFree (.ref z) >>= _) _ _ _
  refine wpAny_bind (wpAny_tupleHeld_zip hz hT fun h₁ hz₁ hs₁ => ?_)
  simp only [Bool.false_eq_true, if_false]
  refine wpAny_bind ?_
  rw [← Array.forIn_toList]
  simp only [List.forIn_cons, List.forIn_nil]
  have q1_1 := D1.over st1 hs₁ S.zf1
  have q2_1 := D2.over st2 hs₁ S.zf2
  have q3_1 := D3.over st3 hs₁ S.zf3
  refine wpAny_bind (wpAny_bind (wpAny_holding ?_))
  show wpAny _ _ (Builtin.SmallTypes.nextOf (.ref i1) >>= _) _ _ _
  refine wpAny_bind (D1.item i ({ s with heap := h₁ } : Shared) _ _ hlt1 q1_1 fun x1 g1 tk1 y1 q1_2 hg1 => wpAny_pure ?_)
  replace hg1 : Heap.SameBut i1 h₁ g1 := hg1
  have q2_2 := D2.over q2_1 hg1 S.sep1_2
  have q3_2 := D3.over q3_1 hg1 S.sep1_3
  refine wpAny_pure ?_
  refine wpAny_bind (wpAny_bind (wpAny_holding ?_))
  show wpAny _ _ (Builtin.SmallTypes.nextOf (.ref i2) >>= _) _ _ _
  refine wpAny_bind (D2.item i ({ s with heap := g1, toks := tk1 } : Shared) _ _ hlt2 q2_2 fun x2 g2 tk2 y2 q2_3 hg2 => wpAny_pure ?_)
  replace hg2 : Heap.SameBut i2 g1 g2 := hg2
  have q1_3 := D1.over q1_2 hg2 S.sep2_1
  have q3_3 := D3.over q3_2 hg2 S.sep2_3
  refine wpAny_pure ?_
  refine wpAny_bind (wpAny_bind (wpAny_holding ?_))
  show wpAny _ _ (Builtin.SmallTypes.nextOf (.ref i3) >>= _) _ _ _
  refine wpAny_bind (D3.item i ({ s with heap := g2, toks := tk2 } : Shared) _ _ hlt3 q3_3 fun x3 g3 tk3 y3 q3_4 hg3 => wpAny_pure ?_)
  replace hg3 : Heap.SameBut i3 g2 g3 := hg3
  have q1_4 := D1.over q1_3 hg3 S.sep3_1
  have q2_4 := D2.over q2_3 hg3 S.sep3_2
  refine wpAny_pure ?_
  refine wpAny_pure ?_
  show wpAny _ _ (newTuple [x1, x2, x3] >>= _) _ _ _
  refine wpAny_bind (wpAny_newTuple ?_)
  have hsz : g3.objs.size = s.heap.objs.size := by rw [hg3.1, hg2.1, hg1.1, hs₁.1]
  have hz₃ : IsZipHeld g3 z TI TO T true := (hg3.extBut _ _ S.zi3 (hg2.extBut _ _ S.zi2 (hg1.extBut _ _ S.zi1 hz₁)))
  have hk : ∀ c o, c ≠ z → c ≠ i1 → c ≠ i2 → c ≠ i3 → s.heap.get? c = some o → g3.get? c = some o := fun c o c0 c1 c2 c3 e => (hg3.extBut _ _ c3 (hg2.extBut _ _ c2 (hg1.extBut _ _ c1 (hs₁.extBut _ _ c0 e))))
  refine wpAny_pure ⟨_, rfl, ?_⟩
  show Q (.ref g3.objs.size) _
  have hp : IsTupOf3 (g3.push { cls := .type "tuple", data := .seq #[x1, x2, x3] }) g3.objs.size x1 x2 x3 := Heap.get?_push_size _ rfl
  have hz4 : (g3.push { cls := .type "tuple", data := .seq #[x1, x2, x3] }).objs.size = g3.objs.size + 1 := Heap.size_push ..
  rw [hsz] at hp hz4 ⊢
  exact hQ x1 x2 x3 _ _ y1 y2 y3 (Heap.get?_push_of_some _ hz₃) (D1.frame _ _ _ q1_4 fun b _ o e => Heap.get?_push_of_some _ e) (D2.frame _ _ _ q2_4 fun b _ o e => Heap.get?_push_of_some _ e) (D3.frame _ _ _ q3_4 fun b _ o e => Heap.get?_push_of_some _ e) hp hz4 fun c o c0 c1 c2 c3 e => Heap.get?_push_of_some _ (hk c o c0 c1 c2 c3 e)
theorem zh3_end {Q : Fin → Shared → Prop} (S : ZipSep3 z TI TO i1 i2 i3 fp1 fp2 fp3) (D1 : Draws prog w A i1 fp1 n1 P1 St1) (D2 : Draws prog w A i2 fp2 n2 P2 St2) (D3 : Draws prog w A i3 fp3 n3 P3 St3)
    (hz : IsZipHeld s.heap z TI TO T f) (hT : s.heap.get? T = some oT) (hTI : IsTupOf3 s.heap TI (.ref i1) (.ref i2) (.ref i3)) (st1 : St1 i s.heap) (st2 : St2 i s.heap) (st3 : St3 i s.heap) (hle1 : i ≤ n1) (hle2 : i ≤ n2) (hle3 : i ≤ n3) (hend : i = n1 ∨ i = n2 ∨ i = n3)
    (hE : ∀ h' tk e, (∀ c o, c ≠ z → c ≠ i1 → c ≠ i2 → c ≠ i3 → s.heap.get? c = some o → h'.get? c = some o) → (∃ o, h'.get? e = some o ∧ o.cls = .type "StopIteration") → E (.ref e) { s with heap := h', toks := tk }) :
    wpAny (model prog w) A (Builtin.«zip.__next__» ⟨[.ref z], []⟩) Q E s := by
  show wpAny _ _ (field (.ref z) 2 >>= _) _ _ _
  refine wpAny_bind (wpAny_field hz rfl (x := .bool false) rfl ?_)
  show wpAny _ _ (field (.ref z) 3 >>= _) _ _ _
  refine wpAny_bind (wpAny_field hz rfl (x := .ref TI) rfl ?_)
  refine wpAny_bind (wpAny_seqItems hTI rfl ?_)
  show wpAny _ _ (Builtin.SmallTypes.ownedTupleIsFree (.ref z) >>= _) _ _ _
  refine wpAny_bind (wpAny_tupleHeld_zip hz hT fun h₁ hz₁ hs₁ => ?_)
  simp only [Bool.false_eq_true, if_false]
  refine wpAny_bind ?_
  rw [← Array.forIn_toList]
  simp only [List.forIn_cons, List.forIn_nil]
  have q1_1 := D1.over st1 hs₁ S.zf1
  have q2_1 := D2.over st2 hs₁ S.zf2
  have q3_1 := D3.over st3 hs₁ S.zf3
  refine wpAny_bind (wpAny_bind (wpAny_holding ?_))
  show wpAny _ _ (Builtin.SmallTypes.nextOf (.ref i1) >>= _) _ _ _
  by_cases e1 : i = n1
  · subst e1
    refine wpAny_bind (D1.done ({ s with heap := h₁ } : Shared) _ _ q1_1 fun q e hq he => ?_)
    replace hq : Heap.ExtBut i1 h₁ q := hq
    exact hE q _ e (fun c o c0 c1 c2 c3 e => hq _ _ c1 (hs₁.extBut _ _ c0 e)) he
  have hlt1 : i < n1 := by omega
  refine wpAny_bind (D1.item i ({ s with heap := h₁ } : Shared) _ _ hlt1 q1_1 fun x1 g1 tk1 y1 q1_2 hg1 => wpAny_pure ?_)
  replace hg1 : Heap.SameBut i1 h₁ g1 := hg1
  have q2_2 := D2.over q2_1 hg1 S.sep1_2
  have q3_2 := D3.over q3_1 hg1 S.sep1_3
  refine wpAny_pure ?_
  refine wpAny_bind (wpAny_bind (wpAny_holding ?_))
  show wpAny _ _ (Builtin.SmallTypes.nextOf (.ref i2) >>= _) _ _ _
  by_cases e2 : i = n2
  · subst e2
    refine wpAny_bind (D2.done ({ s with heap := g1, toks := tk1 } : Shared) _ _ q2_2 fun q e hq he => ?_)
    replace hq : Heap.ExtBut i2 g1 q := hq
    exact hE q _ e (fun c o c0 c1 c2 c3 e => hq _ _ c2 (hg1.extBut _ _ c1 (hs₁.extBut _ _ c0 e))) he
  have hlt2 : i < n2 := by omega
  refine wpAny_bind (D2.item i ({ s with heap := g1, toks := tk1 } : Shared) _ _ hlt2 q2_2 fun x2 g2 tk2 y2 q2_3 hg2 => wpAny_pure ?_)
  replace hg2 : Heap.SameBut i2 g1 g2 := hg2
  have q1_3 := D1.over q1_2 hg2 S.sep2_1
  have q3_3 := D3.over q3_2 hg2 S.sep2_3
  refine wpAny_pure ?_
  refine wpAny_bind (wpAny_bind (wpAny_holding ?_))
  show wpAny _ _ (Builtin.SmallTypes.nextOf (.ref i3) >>= _) _ _ _
  have e3 : i = n3 := by omega
  subst e3
  refine wpAny_bind (D3.done ({ s with heap := g2, toks := tk2 } : Shared) _ _ q3_3 fun q e hq he => ?_)
  replace hq : Heap.ExtBut i3 g2 q := hq
  exact hE q _ e (fun c o c0 c1 c2 c3 e => hq _ _ c3 (hg2.extBut _ _ c2 (hg1.extBut _ _ c1 (hs₁.extBut _ _ c0 e)))) he
theorem zh3_next {Q : Option Value → Shared → Prop} (S : ZipSep3 z TI TO i1 i2 i3 fp1 fp2 fp3) (D1 : Draws prog w A.in1 i1 fp1 n1 P1 St1) (D2 : Draws prog w A.in1 i2 fp2 n2 P2 St2) (D3 : Draws prog w A.in1 i3 fp3 n3 P3 St3)
    (hz : IsZipHeld s.heap z TI TO T f) (hT : s.heap.get? T = some oT) (hTI : IsTupOf3 s.heap TI (.ref i1) (.ref i2) (.ref i3)) (st1 : St1 i s.heap) (st2 : St2 i s.heap) (st3 : St3 i s.heap) (hlt1 : i < n1) (hlt2 : i < n2) (hlt3 : i < n3)
    (hQ : ∀ x1 x2 x3 h' tk, P1 i x1 → P2 i x2 → P3 i x3 → IsZipHeld h' z TI TO T true → St1 (i + 1) h' → St2 (i + 1) h' → St3 (i + 1) h' → IsTupOf3 h' s.heap.objs.size x1 x2 x3 → h'.objs.size = s.heap.objs.size + 1 →
      (∀ c o, c ≠ z → c ≠ i1 → c ≠ i2 → c ≠ i3 → s.heap.get? c = some o → h'.get? c = some o) → Q (some (.ref s.heap.objs.size)) { s with heap := h', toks := tk }) :
    wpAny (model prog w) A (pyNext (.ref z)) Q E s := by
  have hTy : s.TypeIs (.ref z) "zip" := ⟨_, hz, rfl⟩
  unfold pyNext
  exact wpAny_bind (wpAny_attempt (wpAny_callSpecial?_slot (name := Str.ofString "__next__") hTy PySem.F.slot_zip_next
    (wpAny_call_entry PySem.F.slot_zip_next hTy PySem.F.entry_zip_next
      (zh3_item S D1 D2 D3 hz hT hTI st1 st2 st3 hlt1 hlt2 hlt3 fun x1 x2 x3 h' tk y1 y2 y3 b1 d1 d2 d3 b5 b6 b7 => wpAny_pure (hQ x1 x2 x3 h' tk y1 y2 y3 b1 d1 d2 d3 b5 b6 b7)) (PySem.F.args_zip_next_1 _))))
theorem zh3_stop {Q : Option Value → Shared → Prop} (S : ZipSep3 z TI TO i1 i2 i3 fp1 fp2 fp3) (D1 : Draws prog w A.in1 i1 fp1 n1 P1 St1) (D2 : Draws prog w A.in1 i2 fp2 n2 P2 St2) (D3 : Draws prog w A.in1 i3 fp3 n3 P3 St3)
    (hz : IsZipHeld s.heap z TI TO T f) (hT : s.heap.get? T = some oT) (hTI : IsTupOf3 s.heap TI (.ref i1) (.ref i2) (.ref i3)) (st1 : St1 i s.heap) (st2 : St2 i s.heap) (st3 : St3 i s.heap) (hle1 : i ≤ n1) (hle2 : i ≤ n2) (hle3 : i ≤ n3) (hend : i = n1 ∨ i = n2 ∨ i = n3)
    (hQ : ∀ h' tk, (∀ c o, c ≠ z → c ≠ i1 → c ≠ i2 → c ≠ i3 → s.heap.get? c = some o → h'.get? c = some o) → Q none { s with heap := h', toks := tk }) : wpAny (model prog w) A (pyNext (.ref z)) Q E s := by
  have hTy : s.TypeIs (.ref z) "zip" := ⟨_, hz, rfl⟩
  unfold pyNext
  refine wpAny_bind (wpAny_attempt (wpAny_callSpecial?_slot (name := Str.ofString "__next__") hTy PySem.F.slot_zip_next
    (wpAny_call_entry PySem.F.slot_zip_next hTy PySem.F.entry_zip_next (zh3_end S D1 D2 D3 hz hT hTI st1 st2 st3 hle1 hle2 hle3 hend fun h' tk e hk he => ?_) (PySem.F.args_zip_next_1 _))))
  obtain ⟨o, ho, hc⟩ := he
  refine wpAny_bind (wpAny_isInstance (T := "StopIteration") (b := true) ⟨o, ho, hc⟩ isSubtype_stop ?_)
  exact wpAny_pure (hQ _ _ hk)
end
section
variable {prog : Program} {w : World} {A : Around}
def Zs3t (z TI TO S i1 i2 i3 t1 t2 t3 : Addr) (xs1 xs2 xs3 : Array Value) (i : Nat) (h : Heap) : Prop :=
  ((i = 0 ∧ IsZip h z TI TO .none ∧ ∃ a1 a2 a3, IsTupOf3 h TO a1 a2 a3) ∨ ∃ T f oT, IsZipHeld h z TI TO T f ∧ h.get? T = some oT ∧ T ≠ z ∧ T ≠ i1 ∧ T ≠ i2 ∧ T ≠ i3 ∧ T ≠ S) ∧ IsTupOf3 h TI (.ref i1) (.ref i2) (.ref i3) ∧ (h.IsTupleIter i1 t1 i ∧ h.IsTuple t1 xs1) ∧ (h.IsTupleIter i2 t2 i ∧ h.IsTuple t2 xs2) ∧ (h.IsTupleIter i3 t3 i ∧ h.IsTuple t3 xs3)
theorem mk3t {z TI TO S i1 i2 i3 t1 t2 t3 : Addr} {xs1 xs2 xs3 : Array Value} (hh : A.handled = none) (D : ZipSep3 z TI TO i1 i2 i3 [i1, t1] [i2, t2] [i3, t3]) (tne : t1 ≠ i1 ∧ t2 ≠ i2 ∧ t3 ≠ i3)
    (hS : S ≠ z ∧ S ≠ TI ∧ S ≠ TO ∧ S ≠ i1 ∧ S ≠ t1 ∧ S ≠ i2 ∧ S ≠ t2 ∧ S ≠ i3 ∧ S ≠ t3) :
    MkT prog w A z S [z, TO, i1, i2, i3] (min (min xs1.size xs2.size) xs3.size) (fun i vals => ∃ x1 x2 x3, xs1[i]? = some x1 ∧ xs2[i]? = some x2 ∧ xs3[i]? = some x3 ∧ vals = [x1, x2, x3]) (Zs3t z TI TO S i1 i2 i3 t1 t2 t3 xs1 xs2 xs3) where
  item := fun i s Q E hi hst hSs hQ => by
    obtain ⟨hd, hTI, st1, st2, st3⟩ := hst
    have d1D := Draws.tuple (prog := prog) (w := w) (A := A.in1) hh i1 t1 tne.1 xs1
    have d2D := Draws.tuple (prog := prog) (w := w) (A := A.in1) hh i2 t2 tne.2.1 xs2
    have d3D := Draws.tuple (prog := prog) (w := w) (A := A.in1) hh i3 t3 tne.2.2 xs3
    rcases hd with ⟨rfl, hz, a1, a2, a3, hTO⟩ | ⟨T, f, oT, hz, hT, tz, ti1, ti2, ti3, tS⟩
    · refine wpAny_pyNext_zipD3_item D d1D d2D d3D hz hTI hTO st1 st2 st3 (by omega) (by omega) (by omega) fun x1 x2 x3 h' tk y1 y2 y3 b1 b2 d1 d2 d3 b5 b6 hk => ?_
      have ltz : ∀ {c o}, s.heap.get? c = some o → s.heap.objs.size ≠ c := fun e => Nat.ne_of_gt (Heap.lt_size e)
      refine hQ [x1, x2, x3] h' tk ⟨x1, x2, x3, y1, y2, y3, rfl⟩ ⟨.inr ⟨s.heap.objs.size, false, _, b1, b5, ltz hz, (by obtain ⟨_, e, _⟩ := st1.1; exact ltz e), (by obtain ⟨_, e, _⟩ := st2.1; exact ltz e), (by obtain ⟨_, e, _⟩ := st3.1; exact ltz e), Nat.ne_of_gt hSs⟩, hk _ _ D.TIz D.TITO D.TIi1 D.TIi2 D.TIi3 hTI, d1, d2, d3⟩ b5 b6 fun b o hb e => hk b o (fun x => hb (by simp [x])) (fun x => hb (by simp [x])) (fun x => hb (by simp [x])) (fun x => hb (by simp [x])) (fun x => hb (by simp [x])) e
    · refine zh3_next D d1D d2D d3D hz hT hTI st1 st2 st3 (by omega) (by omega) (by omega) fun x1 x2 x3 h' tk y1 y2 y3 b1 d1 d2 d3 b5 b6 hk => ?_
      refine hQ [x1, x2, x3] h' tk ⟨x1, x2, x3, y1, y2, y3, rfl⟩ ⟨.inr ⟨T, true, oT, b1, hk _ _ tz ti1 ti2 ti3 hT, tz, ti1, ti2, ti3, tS⟩, hk _ _ D.TIz D.TIi1 D.TIi2 D.TIi3 hTI, d1, d2, d3⟩ b5 b6 fun b o hb e => hk b o (fun x => hb (by simp [x])) (fun x => hb (by simp [x])) (fun x => hb (by simp [x])) (fun x => hb (by simp [x])) e
  done := fun s Q E hst hQ => by
    obtain ⟨hd, hTI, st1, st2, st3⟩ := hst
    have d1D := Draws.tuple (prog := prog) (w := w) (A := A.in1) hh i1 t1 tne.1 xs1
    have d2D := Draws.tuple (prog := prog) (w := w) (A := A.in1) hh i2 t2 tne.2.1 xs2
    have d3D := Draws.tuple (prog := prog) (w := w) (A := A.in1) hh i3 t3 tne.2.2 xs3
    rcases hd with ⟨e0, hz, a1, a2, a3, hTO⟩ | ⟨T, f, oT, hz, hT, tz, ti1, ti2, ti3, tS⟩
    · exact wpAny_pyNext_zipD3_end D d1D d2D d3D hz hTI hTO st1 st2 st3 (by omega) (by omega) (by omega) (by omega) fun h' tk hk => hQ h' tk fun b o hb e => hk b o (fun x => hb (by simp [x])) (fun x => hb (by simp [x])) (fun x => hb (by simp [x])) (fun x => hb (by simp [x])) (fun x => hb (by simp [x])) e
    · exact zh3_stop D d1D d2D d3D hz hT hTI st1 st2 st3 (by omega) (by omega) (by omega) (by omega) fun h' tk hk => hQ h' tk fun b o hb e => hk b o (fun x => hb (by simp [x])) (fun x => hb (by simp [x])) (fun x => hb (by simp [x])) (fun x => hb (by simp [x])) e
  keep := fun i h h' hst hk => by
    obtain ⟨hd, hTI, ⟨p1, r1⟩, ⟨p2, r2⟩, ⟨p3, r3⟩⟩ := hst
    obtain ⟨s1, s2, s3, si1, sx1, si2, sx2, si3, sx3⟩ := hS
    refine ⟨?_, hk _ _ (Ne.symm s2) hTI, ⟨p1.at fun o e => hk _ o (Ne.symm si1) e, r1.at fun o e => hk _ o (Ne.symm sx1) e⟩, ⟨p2.at fun o e => hk _ o (Ne.symm si2) e, r2.at fun o e => hk _ o (Ne.symm sx2) e⟩, ⟨p3.at fun o e => hk _ o (Ne.symm si3) e, r3.at fun o e => hk _ o (Ne.symm sx3) e⟩⟩
    rcases hd with ⟨e0, hz, a1, a2, a3, hTO⟩ | ⟨T, f, oT, hz, hT, tz, ti1, ti2, ti3, tS⟩
    · exact .inl ⟨e0, hk _ _ (Ne.symm s1) hz, a1, a2, a3, hk _ _ (Ne.symm s3) hTO⟩
    · exact .inr ⟨T, f, oT, hk _ _ (Ne.symm s1) hz, hk _ _ tS hT, tz, ti1, ti2, ti3, tS⟩
  iter := fun A' i s Q E hst hQ => by
    rcases hst.1 with ⟨_, hz, _⟩ | ⟨T, f, oT, hz, _⟩
    · exact wpAny_pyIter_zip hz hQ
    · exact zh_iter hz hQ
  type := fun i s hst => by
    rcases hst.1 with ⟨_, hz, _⟩ | ⟨T, f, oT, hz, _⟩
    · exact ⟨_, hz, rfl⟩
    · exact ⟨_, hz, rfl⟩
end
end PF
end
section
set_option maxHeartbeats 4000000
namespace PF
open PySem PySem.Spec PyProof.Rows L2
open PySem.Sem (wp)
theorem vals_back {xs : List V} {us : List Value} (r : Vals xs us) : ∀ {i : Nat} {u : Value}, us[i]? = some u → ∃ x, xs[i]? = some x ∧ RelV x u := by
  induction r with
  | nil => intro i u h; simp at h
  | cons h t ih =>
    intro i u e
    cases i with
    | zero => exact ⟨_, rfl, by simp at e; rw [← e]; exact h⟩
    | succ i => exact ih (by simpa using e)
theorem RowsG.mono {P P' : Nat → List Value → Prop} {lo : Addr} {h : Heap} {as : List Addr} (g : RowsG P lo h as) (hp : ∀ j v, P j v → P' j v) : RowsG P' lo h as :=
  ⟨g.rise, g.above, fun j a hj => let ⟨v, h1, h2⟩ := g.rows j a hj; ⟨v, hp j v h1, h2⟩⟩
/-- what list(zip(..)) leaves: a new list p of new tuples -/
def Laid (H : Hp) (rows : List (List V)) (H' : Hp) (p : Addr) (as : List Addr) : Prop :=
  Same H H' ∧ H p = none ∧ H' p = some (.lst (as.map V.ref)) ∧ as.length = rows.length ∧ ∀ (j : Nat) (a : Addr) (r : List V), as[j]? = some a → rows[j]? = some r → H' a = some (.tup r)
def tListZip2 (K : PySem.W.Frag) (ta : TA) : TE := fun σ H Q => ta σ H fun vs H1 => ∃ a b xs ys, vs = [.ref a, .ref b] ∧ SqL K H1 a xs ∧ SqL K H1 b ys ∧
  ∀ p as H', Laid H1 (List.zipWith (fun x y => [x, y]) xs ys) H' p as → Q (.ref p) H'
def row3 : List V → List V → List V → List (List V)
  | x :: xs, y :: ys, z :: zs => [x, y, z] :: row3 xs ys zs
  | _, _, _ => []
theorem row3_len : ∀ (xs ys zs : List V), (row3 xs ys zs).length = min (min xs.length ys.length) zs.length
  | [], _, _ => by simp [row3]
  | _ :: _, [], _ => by simp [row3]
  | _ :: _, _ :: _, [] => by simp [row3]
  | x :: xs, y :: ys, z :: zs => by simp [row3, row3_len xs ys zs]
theorem row3_get : ∀ (xs ys zs : List V) (j : Nat) (x y z : V), xs[j]? = some x → ys[j]? = some y → zs[j]? = some z → (row3 xs ys zs)[j]? = some [x, y, z]
  | [], _, _, _, _, _, _, h, _, _ => by simp at h
  | _ :: _, [], _, _, _, _, _, _, h, _ => by simp at h
  | _ :: _, _ :: _, [], _, _, _, _, _, _, h => by simp at h
  | x :: xs, y :: ys, z :: zs, 0, _, _, _, h1, h2, h3 => by simp at h1 h2 h3; subst h1 h2 h3; rfl
  | x :: xs, y :: ys, z :: zs, j + 1, _, _, _, h1, h2, h3 => row3_get xs ys zs j _ _ _ (by simpa using h1) (by simpa using h2) (by simpa using h3)
def tListZip3 (K : PySem.W.Frag) (ta : TA) : TE := fun σ H Q => ta σ H fun vs H1 => ∃ a b c xs ys zs, vs = [.ref a, .ref b, .ref c] ∧ SqT K H1 a xs ∧ SqT K H1 b ys ∧ SqT K H1 c zs ∧
  ∀ p as H', Laid H1 (row3 xs ys zs) H' p as → Q (.ref p) H'
section
variable {X : Cx}
theorem pe_listZip2 {e e2 : Expr} {ta : TA} {p p2 cpos pos : Pos} (hc : X.calm = true) (hg : Gl X "list") (hm : X.mg "list" = none) (hgz : Gl X "zip") (hmz : X.mg "zip" = none) (ha : PA X [e, e2] ta)
    (hb : starEach [e, e2] X.env = (false, eval e X.env) :: starEach [e2] X.env := by rfl) (hpl : (backTo cpos (starEach [e2] X.env)).any (·.1) = false := by rfl)
    (hs : starEach [.Call (.Name "zip" p2) [e, e2] [] cpos] X.env = (false, eval (.Call (.Name "zip" p2) [e, e2] [] cpos) X.env) :: starEach [] X.env := by rfl) :
    PE X (.Call (.Name "list" p) [.Call (.Name "zip" p2) [e, e2] [] cpos] [] pos) (tListZip2 X.K ta) := by
  refine ⟨fun pins s σ H Q I hq => ?_⟩
  refine wpAny_Call_Name_kw (ld_blt I hg hm PyProof.Rows.boot_list ?_)
  refine PyProof.Rows.callWith_type1 ?_ hs rfl
  rw [hs]
  show wpAny _ _ (spliced ((false, eval (.Call (.Name "zip" p2) [e, e2] [] cpos) X.env) :: backTo pos (starEach [] X.env))) _ _ s
  refine Calls.spliced_cons ?_
  refine Call_ (ld_blt I hgz hmz PyProof.Rows.boot_zip (PyProof.Rows.callWith_type1 (thn (ha.run cpos pins s σ H _ I hq) fun us s1 ⟨vs, H1, I1, r1, q1⟩ => ?_) hb hpl))
  obtain ⟨a, b, xs, ys, ex, hqx, hqy, q⟩ := q1
  subst ex
  obtain ⟨v1, v2, rfl, r', r2⟩ := Vals.two r1
  obtain rfl : v1 = Value.ref a := r'
  obtain rfl : v2 = Value.ref b := r2
  obtain ⟨its, rv, p1, z1⟩ := I1.list hqx
  obtain ⟨its2, rv2, p2', z2⟩ := I1.list hqy
  have la : a < s1.heap.objs.size := p1.lt
  have lb : b < s1.heap.objs.size := p2'.lt
  have l1 := rv.length
  have l2 := rv2.length
  refine zip_begins2 (begins_list a its.toArray) (begins_list b its2.toArray) p1.isList p2'.isList fun h' hz hTI hTO h1 h2 hsz hk => ?_
  refine Calls.spliced_nil ?_
  generalize hN : s1.heap.objs.size = N at hz hTI hTO h1 h2 hsz la lb ⊢
  have D := zip_sep2 (N := N) (fp1 := [a]) (fp2 := [b]) (by simpa using la) (by simpa using lb)
  have il1 : h'.IsListIter N a 0 := ⟨_, h1, rfl, rfl⟩
  have il2 : h'.IsListIter (N + 1) b 0 := ⟨_, h2, rfl, rfl⟩
  have sl1 : h'.IsList a its.toArray := p1.isList.at fun o e => hk a o e
  have sl2 : h'.IsList b its2.toArray := p2'.isList.at fun o e => hk b o e
  have neS : ∀ {c : Nat}, c < N + 5 → h'.objs.size ≠ c := fun {c} hc => by rw [hsz]; exact Nat.ne_of_gt hc
  have la' : (a : Nat) < N + 5 := Nat.lt_of_lt_of_le la (Nat.le_add_right _ _)
  have lb' : (b : Nat) < N + 5 := Nat.lt_of_lt_of_le lb (Nat.le_add_right _ _)
  have M := mk2l (prog := X.prog) (w := X.w) (A := X.A.in1.in1) (xs1 := its.toArray) (xs2 := its2.toArray) (S := h'.objs.size) (I1.ok.hd hc) D ⟨Nat.ne_of_lt la, Nat.ne_of_lt (Nat.lt_succ_of_lt lb)⟩
    ⟨neS (by omega), neS (by omega), neS (by omega), neS (by omega), neS la', neS (by omega), neS lb'⟩
  refine mkt_call (s := { s1 with heap := h' }) (wr := [N + 4, N + 3, N, N + 1]) M (I1.ok.hd hc) ⟨.inl ⟨rfl, Heap.get?_push_of_some _ hz, _, _, Heap.get?_push_of_some _ hTO⟩, Heap.get?_push_of_some _ hTI, ⟨il1.at fun o e => Heap.get?_push_of_some _ e, sl1.at fun o e => Heap.get?_push_of_some _ e⟩, ⟨il2.at fun o e => Heap.get?_push_of_some _ e, sl2.at fun o e => Heap.get?_push_of_some _ e⟩⟩
    (by show N + 4 < h'.objs.size; rw [hsz]; exact Nat.lt_succ_self _) (fun c hc => ?_) (by simp; omega) fun h'' tk acc c as hkk hS hl hG hacc => ?_
  · show c < h'.objs.size
    rw [hsz]
    have : c = N + 4 ∨ c = N + 3 ∨ c = N ∨ c = N + 1 := by simpa using hc
    rcases this with e | e | e | e <;> (rw [e]; show _ < N + 5; omega)
  · have low : ∀ b' o, s1.heap.get? b' = some o → b' ∉ ([N + 4, N + 3, N, N + 1] : List Addr) := fun b' o e hb' => by
      have lt : b' < N := hN ▸ Heap.lt_size e
      have this : b' = N + 4 ∨ b' = N + 3 ∨ b' = N ∨ b' = N + 1 := by simpa using hb'
      rcases this with e | e | e | e <;> (rw [e] at lt; have lt' : (_ : Nat) < N := lt; exact absurd lt' (by omega))
    have G' : RowsG (fun j vals => ∃ r, (List.zipWith (fun x y => [x, y]) xs ys)[j]? = some r ∧ Vals r vals ∧ r.length ≤ sizeLine) (h'.objs.size + 1) h'' as := hG.mono fun j v ⟨x1, x2, e1, e2, e3⟩ => by
      obtain ⟨y1, f1, g1⟩ := vals_back (i := j) rv (by simpa using e1)
      obtain ⟨y2, f2, g2⟩ := vals_back (i := j) rv2 (by simpa using e2)
      refine ⟨[y1, y2], by simp [List.getElem?_zipWith, f1, f2], ?_, by show 2 ≤ sizeLine; decide⟩
      rw [e3]
      exact .cons g1 (.cons g2 .nil)
    have hl' : as.length = (List.zipWith (fun x y => [x, y]) xs ys).length := by
      rw [hl, List.length_zipWith, l1, l2]; simp
    obtain ⟨H', k1, k2, k3, k4, J⟩ := rows_laid (X := X) (s := s1) (h' := h'') (tk := tk) (rows := List.zipWith (fun x y => [x, y]) xs ys) (S := h'.objs.size) (lo := h'.objs.size + 1) I1 (by rw [List.length_zipWith]; omega)
      (fun b' o e => hkk b' o (low b' o e) (hk b' o e)) (by rw [hsz, hN]; exact Nat.le_add_right _ _) (Nat.lt_succ_self _) hS hl' G' hacc
    exact ⟨.ref _, H', J, rfl, q _ as H' ⟨k1, k2, k3, hl', k4⟩⟩
theorem pe_listZip3 {e e2 e3 : Expr} {ta : TA} {p p2 cpos pos : Pos} (hc : X.calm = true) (hg : Gl X "list") (hm : X.mg "list" = none) (hgz : Gl X "zip") (hmz : X.mg "zip" = none) (ha : PA X [e, e2, e3] ta)
    (hb : starEach [e, e2, e3] X.env = (false, eval e X.env) :: starEach [e2, e3] X.env := by rfl) (hpl : (backTo cpos (starEach [e2, e3] X.env)).any (·.1) = false := by rfl)
    (hs : starEach [.Call (.Name "zip" p2) [e, e2, e3] [] cpos] X.env = (false, eval (.Call (.Name "zip" p2) [e, e2, e3] [] cpos) X.env) :: starEach [] X.env := by rfl) :
    PE X (.Call (.Name "list" p) [.Call (.Name "zip" p2) [e, e2, e3] [] cpos] [] pos) (tListZip3 X.K ta) := by
  refine ⟨fun pins s σ H Q I hq => ?_⟩
  refine wpAny_Call_Name_kw (ld_blt I hg hm PyProof.Rows.boot_list ?_)
  refine PyProof.Rows.callWith_type1 ?_ hs rfl
  rw [hs]
  show wpAny _ _ (spliced ((false, eval (.Call (.Name "zip" p2) [e, e2, e3] [] cpos) X.env) :: backTo pos (starEach [] X.env))) _ _ s
  refine Calls.spliced_cons ?_
  refine Call_ (ld_blt I hgz hmz PyProof.Rows.boot_zip (PyProof.Rows.callWith_type1 (thn (ha.run cpos pins s σ H _ I hq) fun us s1 ⟨vs, H1, I1, r1, q1⟩ => ?_) hb hpl))
  obtain ⟨a, b, c, xs, ys, zs, ex, hqx, hqy, hqz, q⟩ := q1
  subst ex
  cases r1 with
  | cons r' rr =>
  obtain ⟨v2, v3, rfl, r2, r3⟩ := Vals.two rr
  cases r'
  obtain rfl : v2 = Value.ref b := r2
  obtain rfl : v3 = Value.ref c := r3
  obtain ⟨its, rv, p1, z1⟩ := I1.tuple hqx
  obtain ⟨its2, rv2, p2', z2⟩ := I1.tuple hqy
  obtain ⟨its3, rv3, p3', z3⟩ := I1.tuple hqz
  have lt3 : ∀ {d : Addr} {is : Array Value}, IsTup s1.heap d is → d < s1.heap.objs.size := fun ⟨_, e, _⟩ => Heap.lt_size e
  have la := lt3 p1
  have lb := lt3 p2'
  have lc := lt3 p3'
  have l1 := rv.length
  have l2 := rv2.length
  have l3 := rv3.length
  have t1 : s1.heap.IsTuple a its.toArray := p1
  have t2 : s1.heap.IsTuple b its2.toArray := p2'
  have t3 : s1.heap.IsTuple c its3.toArray := p3'
  refine zip_begins3 (begins_tuple a its.toArray) (begins_tuple b its2.toArray) (begins_tuple c its3.toArray) t1 t2 t3 fun h' hz hTI hTO h1 h2 h3 hsz hk => ?_
  refine Calls.spliced_nil ?_
  generalize hN : s1.heap.objs.size = N at hz hTI hTO h1 h2 h3 hsz la lb lc ⊢
  have D := zip_sep3 (N := N) (fp1 := [a]) (fp2 := [b]) (fp3 := [c]) (by simpa using la) (by simpa using lb) (by simpa using lc)
  have il1 : h'.IsTupleIter N a 0 := ⟨_, h1, rfl, rfl⟩
  have il2 : h'.IsTupleIter (N + 1) b 0 := ⟨_, h2, rfl, rfl⟩
  have il3 : h'.IsTupleIter (N + 2) c 0 := ⟨_, h3, rfl, rfl⟩
  have sl1 : h'.IsTuple a its.toArray := t1.at fun o e => hk a o e
  have sl2 : h'.IsTuple b its2.toArray := t2.at fun o e => hk b o e
  have sl3 : h'.IsTuple c its3.toArray := t3.at fun o e => hk c o e
  have neS : ∀ {c : Nat}, c < N + 6 → h'.objs.size ≠ c := fun {c} hc => by rw [hsz]; exact Nat.ne_of_gt hc
  have la' : (a : Nat) < N + 6 := Nat.lt_of_lt_of_le la (Nat.le_add_right _ _)
  have lb' : (b : Nat) < N + 6 := Nat.lt_of_lt_of_le lb (Nat.le_add_right _ _)
  have lc' : (c : Nat) < N + 6 := Nat.lt_of_lt_of_le lc (Nat.le_add_right _ _)
  have M := mk3t (prog := X.prog) (w := X.w) (A := X.A.in1.in1) (xs1 := its.toArray) (xs2 := its2.toArray) (xs3 := its3.toArray) (S := h'.objs.size) (I1.ok.hd hc) D ⟨Nat.ne_of_lt la, Nat.ne_of_lt (Nat.lt_succ_of_lt lb), Nat.ne_of_lt (Nat.lt_succ_of_lt (Nat.lt_succ_of_lt lc))⟩
    ⟨neS (by omega), neS (by omega), neS (by omega), neS (by omega), neS la', neS (by omega), neS lb', neS (by omega), neS lc'⟩
  refine mkt_call (s := { s1 with heap := h' }) (wr := [N + 5, N + 4, N, N + 1, N + 2]) M (I1.ok.hd hc) ⟨.inl ⟨rfl, Heap.get?_push_of_some _ hz, _, _, _, Heap.get?_push_of_some _ hTO⟩, Heap.get?_push_of_some _ hTI, ⟨il1.at fun o e => Heap.get?_push_of_some _ e, sl1.at fun o e => Heap.get?_push_of_some _ e⟩, ⟨il2.at fun o e => Heap.get?_push_of_some _ e, sl2.at fun o e => Heap.get?_push_of_some _ e⟩, ⟨il3.at fun o e => Heap.get?_push_of_some _ e, sl3.at fun o e => Heap.get?_push_of_some _ e⟩⟩
    (by show N + 5 < h'.objs.size; rw [hsz]; exact Nat.lt_succ_self _) (fun c hc => ?_) (by simp; omega) fun h'' tk acc c as hkk hS hl hG hacc => ?_
  · show c < h'.objs.size
    rw [hsz]
    have : c = N + 5 ∨ c = N + 4 ∨ c = N ∨ c = N + 1 ∨ c = N + 2 := by simpa using hc
    rcases this with e | e | e | e | e <;> (rw [e]; show _ < N + 6; omega)
  · have low : ∀ b' o, s1.heap.get? b' = some o → b' ∉ ([N + 5, N + 4, N, N + 1, N + 2] : List Addr) := fun b' o e hb' => by
      have lt : b' < N := hN ▸ Heap.lt_size e
      have this : b' = N + 5 ∨ b' = N + 4 ∨ b' = N ∨ b' = N + 1 ∨ b' = N + 2 := by simpa using hb'
      rcases this with e | e | e | e | e <;> (rw [e] at lt; have lt' : (_ : Nat) < N := lt; exact absurd lt' (by omega))
    have G' : RowsG (fun j vals => ∃ r, (row3 xs ys zs)[j]? = some r ∧ Vals r vals ∧ r.length ≤ sizeLine) (h'.objs.size + 1) h'' as := hG.mono fun j v ⟨x1, x2, x3, e1, e2, e3, e4⟩ => by
      obtain ⟨y1, f1, g1⟩ := vals_back (i := j) rv (by simpa using e1)
      obtain ⟨y2, f2, g2⟩ := vals_back (i := j) rv2 (by simpa using e2)
      obtain ⟨y3, f3, g3⟩ := vals_back (i := j) rv3 (by simpa using e3)
      refine ⟨[y1, y2, y3], row3_get _ _ _ _ _ _ _ f1 f2 f3, ?_, by show 3 ≤ sizeLine; decide⟩
      rw [e4]
      exact .cons g1 (.cons g2 (.cons g3 .nil))
    have hl' : as.length = (row3 xs ys zs).length := by
      rw [hl, row3_len, l1, l2, l3]; simp
    obtain ⟨H', k1, k2, k3, k4, J⟩ := rows_laid (X := X) (s := s1) (h' := h'') (tk := tk) (rows := row3 xs ys zs) (S := h'.objs.size) (lo := h'.objs.size + 1) I1 (by rw [row3_len]; omega)
      (fun b' o e => hkk b' o (low b' o e) (hk b' o e)) (by rw [hsz, hN]; exact Nat.le_add_right _ _) (Nat.lt_succ_self _) hS hl' G' hacc
    exact ⟨.ref _, H', J, rfl, q _ as H' ⟨k1, k2, k3, hl', k4⟩⟩
end
end PF
end
section
set_option maxHeartbeats 4000000
set_option exponentiation.threshold 20000
namespace PF
open PySem L2
theorem pr_of {α : Type} {R : V → α → Prop} : ∀ {vs : List V} {as : List α}, vs.length = as.length → (∀ (i : Nat) (v : V) (a : α), vs[i]? = some v → as[i]? = some a → R v a) → Paired R vs as
  | [], [], _, _ => .nil
  | [], _ :: _, h, _ => by simp at h
  | _ :: _, [], h, _ => by simp at h
  | v :: vs, a :: as, h, f => .cons (f 0 v a rfl rfl) (pr_of (by simpa using h) fun i v a h1 h2 => f (i + 1) v a (by simpa using h1) (by simpa using h2))
theorem pr_laid {α : Type} {R : V → α → Prop} {H H' : Hp} {rows : List (List V)} {p : Addr} {as : List Addr} {bs : List α} (L : Laid H rows H' p as) (hb : rows.length = bs.length)
    (f : ∀ (j : Nat) (a : Addr) (r : List V) (b : α), rows[j]? = some r → bs[j]? = some b → H' a = some (.tup r) → R (.ref a) b) : Paired R (as.map V.ref) bs := by
  obtain ⟨h1, h2, h3, h4, h5⟩ := L
  refine pr_of (by rw [List.length_map, h4, hb]) fun j v b e1 e2 => ?_
  rw [List.getElem?_map] at e1
  obtain ⟨a, ea, rfl⟩ := Option.map_eq_some_iff.mp e1
  have hj : j < rows.length := by
    obtain ⟨q, _⟩ := List.getElem?_eq_some_iff.mp e2
    omega
  exact f j a _ b (List.getElem?_eq_getElem hj) e2 (h5 j a _ ea (List.getElem?_eq_getElem hj))
/-! ### data: ints in a row -/
def lotD (L : List Int) : PyData := .tuple (L.map .int)
theorem dpA_ints {K : PySem.W.Frag} {H : Hp} : ∀ L : List Int, DpAll K H (L.map V.int) (L.map .int)
  | [] => .nil
  | i :: r => .cons (.int i) (dpA_ints r)
theorem lot_dp {K : PySem.W.Frag} {H : Hp} {v : V} {L : List Int} (h : LotAt K H v L) : Dp K H v (lotD L) := by
  obtain ⟨p, rfl, hp⟩ := h
  exact .tup hp (dpA_ints L)
theorem ints_can : ∀ L : List Int, PyData.canLayAll0 (L.map .int) = true
  | [] => by simp only [List.map_nil, PyData.canLayAll0]
  | i :: r => by simp only [List.map_cons, PyData.canLayAll0, PyData.canLay0, ints_can r, Bool.and_self]
theorem ints_deep : ∀ L : List Int, PyData.depthAll (L.map .int) = 0
  | [] => by simp only [List.map_nil, PyData.depthAll]
  | i :: r => by simp only [List.map_cons, PyData.depthAll, PyData.depth, ints_deep r]; rfl
theorem ints_eqv : ∀ L M : List Int, PyData.eqvAll (L.map .int) (M.map .int) = decide (L = M)
  | [], [] => by simp [PyData.eqvAll]
  | [], _ :: _ => by simp [PyData.eqvAll]
  | _ :: _, [] => by simp [PyData.eqvAll]
  | i :: r, j :: q => by
    simp only [List.map_cons, PyData.eqvAll, PyData.eqv, ints_eqv r q]
    rw [Bool.eq_iff_iff]
    simp
theorem lotD_sh (L : List Int) : SeqAt.shaped (lotD L) = true := by
  unfold SeqAt.shaped lotD
  rw [PyData.canLay0, PyData.depth, ints_can, ints_deep]
  rfl
theorem lotD_eq (L M : List Int) : PyData.eqv (lotD L) (lotD M) = decide (L = M) := by
  unfold lotD
  rw [PyData.eqv, ints_eqv]
def ilD (L : List Int) : PyData := .list (L.map .int)
theorem ilD_sh (L : List Int) : SeqAt.shaped (ilD L) = true := by
  unfold SeqAt.shaped ilD
  rw [PyData.canLay0, PyData.depth, ints_can, ints_deep]
  rfl
theorem ilD_eq (L M : List Int) : PyData.eqv (ilD L) (ilD M) = decide (L = M) := by
  unfold ilD
  rw [PyData.eqv, ints_eqv]
/-! ### keys in the heap -/
def KyN (H : Hp) (v : V) (k : Ky) : Prop := ∃ t, v = .ref t ∧ H t = some (.tup [.int k.1, .int k.2.1, .int k.2.2])
theorem KyN.mono {H H' : Hp} {v : V} {k : Ky} (u : Tu H H') (h : KyN H v k) : KyN H' v k := by
  obtain ⟨t, e, h⟩ := h
  exact ⟨t, e, u.t _ _ h⟩
theorem sides_len (n : Nat) (L : List Int) : (sides n L).length = L.length := by
  unfold sides restsL
  simp
  omega
theorem sides_get {n : Nat} {L : List Int} {j : Nat} {k : Ky} (h : (sides n L)[j]? = some k) : (restsL n L)[j]? = some k.1 ∧ L[j]? = some k.2.1 ∧ (restsL n L)[j + 2]? = some k.2.2 := by
  unfold sides at h
  rw [List.getElem?_zip_eq_some, List.getElem?_zip_eq_some] at h
  obtain ⟨h1, h2, h3⟩ := h
  rw [List.getElem?_drop, Nat.add_comm] at h3
  exact ⟨h1, h2, h3⟩
/-- the sides of a lot are keys -/
theorem sides_good {n : Nat} {L : List Int} (G : GoodL n L) {k : Ky} (h : k ∈ sides n L) : GoodKey n k := by
  obtain ⟨j, hj⟩ := List.mem_iff_getElem?.mp h
  obtain ⟨h1, h2, h3⟩ := sides_get hj
  have rr : (restsL n L).Pairwise (· < ·) := by
    unfold restsL
    refine List.pairwise_cons.mpr ⟨fun a ha => ?_, List.pairwise_append.mpr ⟨G.rise, List.pairwise_singleton _ _, fun a ha b hb => ?_⟩⟩
    · rcases List.mem_append.mp ha with ha | ha
      · have := G.within a ha
        omega
      · rw [List.mem_singleton.mp ha]
        omega
    · rw [List.mem_singleton.mp hb]
      exact (G.within a ha).2
  have e : (restsL n L)[j + 1]? = some k.2.1 := by
    unfold restsL
    rw [List.getElem?_cons_succ, List.getElem?_append_left (by exact (List.getElem?_eq_some_iff.mp h2).1)]
    exact h2
  obtain ⟨l1, q1⟩ := List.getElem?_eq_some_iff.mp h1
  obtain ⟨l2, q2⟩ := List.getElem?_eq_some_iff.mp e
  obtain ⟨l3, q3⟩ := List.getElem?_eq_some_iff.mp h3
  have p1 := (List.pairwise_iff_getElem.mp rr) j (j + 1) l1 l2 (Nat.lt_succ_self _)
  have p2 := (List.pairwise_iff_getElem.mp rr) (j + 1) (j + 2) l2 l3 (Nat.lt_succ_self _)
  rw [q1, q2] at p1
  rw [q2, q3] at p2
  have w := G.within _ (List.mem_of_getElem? h2)
  have lo : ∀ a ∈ restsL n L, -1 ≤ a ∧ a ≤ (n : Int) := fun a ha => by
    unfold restsL at ha
    rcases List.mem_cons.mp ha with rfl | ha
    · omega
    · rcases List.mem_append.mp ha with ha | ha
      · have := G.within a ha
        omega
      · rw [List.mem_singleton.mp ha]
        omega
  exact ⟨(lo _ (List.mem_of_getElem? h1)).1, p1, p2, (lo _ (List.mem_of_getElem? h3)).2, w.1⟩
theorem SX.mut {d p : Addr} {H H' : Hp} {o : HO} (s : SX d H H') (n : H p = none) : SX d H (upd H' p o) := by
  have hd : d ≠ p := fun z => by
    obtain ⟨kvs, e⟩ := s.d0
    rw [z, n] at e
    cases e
  refine ⟨fun b o' hb e => ?_, s.d0, ?_⟩
  · rw [upd_ne (ne_of_none e n)]
    exact s.keep b o' hb e
  · obtain ⟨kvs, e⟩ := s.d1
    exact ⟨kvs, by rw [upd_ne hd]; exact e⟩
theorem LoadsAt.mut {K : PySem.W.Frag} {CP C : Addr} {H H' : Hp} {v : V} {W : Wd} {dk p : Addr} {o : HO} (LO : LoadsAt K CP C H v W dk) (LO' : LoadsAt K CP C H' v W dk) (sx : SX dk H H') (n : H p = none) (tu : Tu H' (upd H' p o)) : LoadsAt K CP C (upd H' p o) v W dk := by
  have sx2 : SX dk H (upd H' p o) := sx.mut n
  obtain ⟨a, dx, wl, dv, pq, ws, kvs, e, h1, h2, h3, h4, h5, h6⟩ := LO
  obtain ⟨a', dx', wl', dv', pq', ws', kvs', e', h1', h2', h3', h4', h5', h6'⟩ := LO'
  have hd : dk ≠ p := fun z => by
    rw [z, n] at h5
    cases h5
  exact ⟨a, dx, wl, dv, pq, ws, kvs', e, sx2.at h1 (fun _ q => by cases q), h2.monoX sx2, sx2.at h3 (fun _ q => by cases q), pr_mono h4 fun _ _ h => h.mono sx2.tu, by rw [upd_ne hd]; exact h5', h6'.mono tu⟩
def spWithSides (K : PySem.W.Frag) (C : Addr) : Sp := fun vs H Q _ => ∃ (v u : V) (long : Int) (ss : List (Int × Rat)) (L : List Int), vs = [v, u] ∧ PlankAt K C H v long ss ∧ LotAt K H u L ∧ L.length ≤ 1000 ∧
  ∀ H' p xs, Same H H' → H' p = some (.lst xs) → Paired (KyN H') xs (sides ss.length L) → Q (.ref p) H'
theorem overL_minus {F : Ky → Bool} {n : Nat} {L : List Int} {p : Int} {r : List Int} (h : overL F n L = p :: r) : p ∈ L := by
  have hm : p ∈ overL F n L := by rw [h]; exact List.mem_cons_self
  unfold overL at hm
  obtain ⟨k, hk, rfl⟩ := List.mem_map.mp hm
  obtain ⟨j, hj⟩ := List.mem_iff_getElem?.mp (List.mem_filter.mp hk).1
  exact List.mem_of_getElem? (sides_get hj).2.1
theorem minusP_len {L : List Int} {p : Int} (h : p ∈ L) : (minusP L p).length < L.length := by
  unfold minusP
  refine List.length_filter_lt_length_iff_exists.mpr ⟨p, h, by simp⟩
def spLeftWith (K : PySem.W.Frag) (CP C : Addr) : Sp := fun vs H Q _ => ∃ (v u m : V) (W : Wd) (dk : Addr) (x much : Rat) (n : Nat), vs = [v, u, m] ∧ LoadsAt K CP C H v W dk ∧ GoodW W ∧ Fr K H u x ∧ Bd n x ∧ n ≤ 4500 ∧ Fr K H m much ∧ Bd 430 much ∧
  ∀ H' v', SX dk H H' → LoadsAt K CP C H' v W dk → LotN H' v' (leftOf W much x) → Q v' H'
section
variable {P : Program} {w : World} {K : PySem.W.Frag} {mg : Str → Option Value} {base : Heap} {aN aO : Addr} {tL tM tP : Tok} {CPlank CLoads : Addr}
abbrev s_with_sides : Stmt := topS 43
abbrev n_with_sides : List Str := ["plank", "lot", "rests"]
theorem sc_with_sides : FnScope n_with_sides ["plank", "lot"] (defScope s_with_sides) := ⟨rfl, rfl, rfl, by decide +kernel, rfl, by decide +kernel, by decide +kernel⟩
theorem ok_with_sides {f : Addr} {fd : FuncData} (F : Fun K "with_sides" "with_sides" s_with_sides f fd) (T : Txt K mg aN aO tL tM tP) (G_rests_of : Fn P w K mg base 2 "rests_of" ["plank", "lot"] (spRestsOf K CPlank)) : FnOk P w K mg base CX0 3 f fd ["plank", "lot"] (spWithSides K CPlank) := by
  have sc := sc_with_sides
  refine F.ok sc (fun vs H Q E h => ?_) (fun cdv A outer s H vs Q E hr h => ?_)
  · (repeat (rcases h with ⟨_, h⟩))
    subst_vars
    rfl
  · obtain ⟨v, u, long, ss, L, rfl, PL, LA, hL, k⟩ := h
    obtain ⟨lp, rfl, hlp⟩ := id LA
    refine ⟨_, (pss_cons (ps_set (i := 2) sc.nd rfl (Or.inl rfl) (pe_fn G_rests_of hr (pa_cons (pv 0) (pa_cons (pv 1) pa_nil))))
 (pss_one (ps_ret (pe_listZip3 rfl (by rfl) T.blist (by rfl) T.bzip (pa_cons (pv 2) (pa_cons (pv 1) (pa_cons (pe_slice (slT K) (pv 2) (po_some pe_int) po_none) pa_nil))))))), ?_⟩
    refine ⟨_, rfl, _, rfl, v, _, long, ss, L, rfl, PL, LA, hL, fun H1 p s1 hp => ?_⟩
    have hz : ((restsL ss.length L).map V.int).length = L.length + 2 := by
      unfold restsL
      simp
    refine ⟨_, rfl, _, rfl, _, rfl, _, rfl, p, _, rfl, SqT.of hp, (fun z => by rw [show ((2 : Int)) = ((2 : Nat) : Int) from rfl, HT.sIx_nat, hz] at z; omega), fun q nq => ?_⟩
    have s2 : Same H1 (upd H1 q (.tup (cutV ((restsL ss.length L).map V.int) (some 2) none))) := Same.new nq
    rw [show cutV ((restsL ss.length L).map V.int) (some 2) none = ((restsL ss.length L).map V.int).drop 2 from cut_from _ 2] at s2 ⊢
    refine ⟨p, lp, q, _, _, _, rfl, SqT.of (s2 _ _ hp), (s1.trans s2).tu.sqT hlp, SqT.of upd_same, fun r as H3 LD => ?_⟩
    refine k _ r _ ((s1.trans s2).trans LD.1) LD.2.2.1 ?_
    refine pr_laid LD ?_ fun j a row b e1 e2 e3 => ?_
    · rw [row3_len, sides_len]
      simp [hz]
    · obtain ⟨g1, g2, g3⟩ := sides_get e2
      have e := row3_get ((restsL ss.length L).map V.int) (L.map V.int) (((restsL ss.length L).map V.int).drop 2) j (.int b.1) (.int b.2.1) (.int b.2.2) (by rw [List.getElem?_map, g1]; rfl) (by rw [List.getElem?_map, g2]; rfl) (by rw [List.getElem?_drop, Nat.add_comm, List.getElem?_map, g3]; rfl)
      rw [e] at e1
      cases e1
      exact ⟨a, rfl, e3⟩
abbrev s_left_with : Stmt := topS 46
abbrev n_left_with : List Str := ["loads", "spot", "weight", "lot", "some", "left", "prop", "right", "more"]
theorem sc_left_with : FnScope n_left_with ["loads", "spot", "weight"] (defScope s_left_with) := ⟨rfl, rfl, rfl, by decide +kernel, rfl, by decide +kernel, by decide +kernel⟩
theorem ok_left_with {f : Addr} {fd : FuncData} (F : Fun K "left_with" "left_with" s_left_with f fd) (T : Txt K mg aN aO tL tM tP) (G_lot_of : Fn P w K mg base 2 "lot_of" ["plank", "lot"] (spLotOf K CPlank)) (G_with_sides : Fn P w K mg base 3 "with_sides" ["plank", "lot"] (spWithSides K CPlank)) (G_without : Fn P w K mg base 1 "without" ["lot", "prop"] (spWithout K)) (G_times : Fn P w K mg base 3 "times" ["one", "other"] (sp2 K (fun a b => a * b) (fun _ _ => True))) (G_is_below : Fn P w K mg base 1 "is_below" ["one", "other"] (spBelow K)) (G_Loads_share : MFn P w K mg base 5 CLoads "share" ["self", "left", "rest", "right", "spot"] (spShare K CPlank CLoads)) (G_spare_at : Fn P w K mg base 7 "spare_at" ["loads", "left", "prop", "right"] (spSpareAt K CPlank CLoads)) (TLoads : Cls K CLoads) (NLoads : LoadsNo K CLoads) : FnOk P w K mg base CX0 8 f fd ["loads", "spot", "weight"] (spLeftWith K CPlank CLoads) := by
  have sc := sc_left_with
  refine F.ok sc (fun vs H Q E h => ?_) (fun cdv A outer s H vs Q E hr h => ?_)
  · (repeat (rcases h with ⟨_, h⟩))
    subst_vars
    rfl
  · obtain ⟨v, u, m, W, dk, x, much, n, rfl, LO, GW, hu, hb, hn, hm, hbm, k⟩ := h
    obtain ⟨a, dx, wl, dv, pq, ws, kvs, rfl, ha, PL, hw, hws, hdk, hkn⟩ := id LO
    have few := GW.p.few
    have ls : (loF pq wl dk dv).lookup ("share" : Str) = none := lo_no _ _ _ _ (by decide +kernel) (by decide +kernel) (by decide +kernel) (by decide +kernel)
    refine ⟨_, (pss_cons (ps_set (i := 3) sc.nd rfl (Or.inl rfl) (pe_fn G_lot_of hr (pa_cons (pe_fldK K (pv 0)) (pa_cons pe_non pa_nil))))
 (pss_one (ps_while PassesOwn.never (pt_val pe_bl)
 (pss_cons (ps_set (i := 4) sc.nd rfl (Or.inl rfl) (pe_lst pa_nil))
 (pss_cons (ps_for PassesOwn.never rfl (piL K (pe_fn G_with_sides hr (pa_cons (pe_fldK K (pv 0)) (pa_cons (pv 3) pa_nil)))) (pg_tup rfl (pgs_cons (pg_name (i := 5) sc.nd rfl (Or.inl rfl)) (pgs_cons (pg_name (i := 6) sc.nd rfl (Or.inl rfl)) (pgs_cons (pg_name (i := 7) sc.nd rfl (Or.inl rfl)) pgs_nil))))
 (pss_cons (ps_set (i := 8) sc.nd rfl (Or.inl rfl) (pe_fn G_times hr (pa_cons (pv 2) (pa_cons (pe_mfn G_Loads_share TLoads hr (pv 0) (pa_cons (pv 5) (pa_cons (pv 6) (pa_cons (pv 7) (pa_cons (pv 1) pa_nil))))) pa_nil))))
 (pss_one (ps_if (pt_val (pe_fn G_is_below hr (pa_cons (pe_fn G_spare_at hr (pa_cons (pv 0) (pa_cons (pv 5) (pa_cons (pv 6) (pa_cons (pv 7) pa_nil))))) (pa_cons (pv 8) pa_nil))))
 (pss_one (ps_expr (pe_bm PySem.F.plainAttrs_list PySem.F.slot_list_append PySem.F.type_list_append mt_append (pv 4) (pa_cons (pv 6) pa_nil))))
 pss_nil))))
 (pss_cons (ps_if (pt_cmpR (oEqD K (hru hr)) (pv 4) (pe_lst pa_nil) (nomark _))
 (pss_one (ps_ret (pv 3)))
 pss_nil)
 (pss_one (ps_set (i := 3) sc.nd rfl (Or.inl rfl) (pe_fn G_without hr (pa_cons (pv 3) (pa_cons (pe_ix (ixL K) (pv 4) pe_int (fun _ _ => rfl)) pa_nil))))))))))), ?_⟩
    refine ⟨_, rfl, a, _, dx, _, _, rfl, ha, TLoads, NLoads.plank, lo_plank _ _ _ _, pq, W.long, W.ss, rfl, PL, few, fun p np => ?_⟩
    have s1 : Same H (upd H p (.tup ((full W.ss.length).map V.int))) := Same.new np
    refine while_by (fun σ H' => ∃ (lv : V) (L : List Int) (f : Nat) (c1 c2 c3 c4 c5 : Option V), σ = [some (.ref a), some u, some m, some lv, c1, c2, c3, c4, c5] ∧ SX dk H H' ∧ LoadsAt K CPlank CLoads H' (.ref a) W dk ∧ LotN H' lv L ∧ GoodL W.ss.length L ∧ L.length < f ∧ settle (fails W much x) W.ss.length f L = leftOf W much x)
      (fun σ H' => match σ with | [_, _, _, some (.ref q), _, _, _, _, _] => (match H' q with | some (.tup xs) => xs.length | _ => 0) | _ => 0)
      ⟨_, full W.ss.length, W.ss.length + 1, _, _, _, _, _, rfl, SX.of s1 LO.dT, LO.mono s1, ⟨p, rfl, upd_same⟩, full_good _, by rw [full_len]; omega, rfl⟩ ?_ (fun σ H Q Q' f h => ?_)
    · rintro σ H2 ⟨lv, L, f, c1, c2, c3, c4, c5, rfl, sx, LO2, ⟨lq, rfl, hlq⟩, GL, hf, hst⟩
      have hL := good_len GL
      refine ⟨_, rfl, ?_⟩
      refine ifT rfl ?_
      refine ⟨by show 0 ≤ sizeLine; decide, fun so nso => ?_⟩
      have s3 : Same H2 (upd H2 so (.lst [])) := Same.new nso
      obtain ⟨a2, dx2, wl2, dv2, pq2, ws2, kvs2, e2, ha2, PL2, hw2, hws2, hdk2, hkn2⟩ := id (LO2.mono s3)
      cases e2
      refine ⟨_, rfl, a, _, dx2, _, _, rfl, ha2, TLoads, NLoads.plank, lo_plank _ _ _ _, _, rfl, pq2, _, W.long, W.ss, L, rfl, PL2, ⟨lq, rfl, SqT.of (s3 _ _ hlq)⟩, by omega, fun H4 sl xs s4 hsl hxs => ?_⟩
      refine ⟨sl, rfl, ⟨_, SqL.of hsl⟩, for_it walk_list (fun i σ H' => SX dk H2 H' ∧ LoadsAt K CPlank CLoads H' (.ref a) W dk ∧ (∃ c1 c2 c3 c4, σ = [some (.ref a), some u, some m, some (.ref lq), some (.ref so), c1, c2, c3, c4]) ∧ H' sl = some (.lst xs) ∧ Paired (KyN H') xs (sides W.ss.length L) ∧ H' so = some (.lst ((((sides W.ss.length L).take i).filter (fails W much x)).map fun k => V.int k.2.1))) ⟨(SX.of s3 LO2.dT).trans (SX.of s4 (LO2.mono s3).dT), (LO2.mono s3).mono s4, ⟨_, _, _, _, rfl⟩, hsl, hxs, by rw [List.take_zero]; exact s4 _ _ upd_same⟩ (fun i σ H' _ p => SqL.of p.2.2.2.1) ?_ ?_⟩
      · rintro i x1 σ H5 H6 hi ⟨sx5, LO5, ⟨d1, d2, d3, d4, rfl⟩, hsl5, hxs5, hso5⟩ ⟨rfl, hx1⟩
        obtain ⟨ky, hky, ⟨t, rfl, ht⟩⟩ := pr_get' hxs5 hx1
        have gk := sides_good GL (List.mem_of_getElem? hky)
        obtain ⟨a6, dx6, wl6, dv6, pq6, ws6, kvs6, e6, ha6, PL6, hw6, hws6, hdk6, hkn6⟩ := id LO5
        cases e6
        have ls6 : (loF pq6 wl6 dk dv6).lookup ("share" : Str) = none := lo_no _ _ _ _ (by decide +kernel) (by decide +kernel) (by decide +kernel) (by decide +kernel)
        have tu5 : Tu H H6 := (sx.trans sx5).tu
        refine ⟨t, _, rfl, SqT.of ht, rfl, _, _, rfl, _, _, rfl, _, _, rfl, rfl, ?_⟩
        refine ⟨_, rfl, _, rfl, a, dx6, _, rfl, ha6, ls6, _, rfl, _, rfl, _, rfl, _, rfl, _, _, W, dk, ky, x, n, rfl, LO5, GW.p, gk, hu.mono tu5, hb, by omega, fun H7 v7 s7 f7 => ?_⟩
        have b7 := share_bd GW.p gk hb
        refine ⟨_, _, much, _, 430, n + 21, rfl, (hm.mono tu5).mono s7.tu, f7, hbm, b7, by omega, trivial, fun H8 v8 s8 f8 => ?_⟩
        have s78 := s7.trans s8
        have sx8 : SX dk H6 H8 := SX.of s78 LO5.dT
        refine ⟨_, rfl, _, rfl, _, rfl, _, rfl, _, W, dk, ky, rfl, LO5.mono s78, GW, gk, fun H9 v9 sx9 LO9 f9 => ?_⟩
        refine ⟨_, rfl, _, _, spare W ky, much * share W ky x, 1781, 430 + (n + 21), rfl, f9.fr, f8.fr.mono sx9.tu, spare_bd GW gk, hbm.mul b7, by omega, _, rfl, ?_⟩
        have hso9 := sx9.at (s78 _ _ hso5) (fun _ q => by cases q)
        have hsl9 := sx9.at (s78 _ _ hsl5) (fun _ q => by cases q)
        have sx29 := (sx5.trans sx8).trans sx9
        have hi2 : i < (sides W.ss.length L).length := by rw [← pr_len hxs]; exact hi
        have et : (sides W.ss.length L).take (i + 1) = (sides W.ss.length L).take i ++ [ky] := by rw [List.take_add_one, hky]; rfl
        have lf := List.length_filter_le (fails W much x) ((sides W.ss.length L).take i)
        have lt := List.length_take_le i (sides W.ss.length L)
        have ln := pr_len hxs
        rw [sides_len] at ln
        have nsl : sl ≠ so := fun z => by
          have q2 := s4 _ _ (show upd H2 so (.lst []) so = some (.lst []) from upd_same)
          rw [z, q2] at hsl
          cases hsl
          exact absurd hi (Nat.not_lt_zero _)
        refine ifB (fun c => ?_) (fun c => ?_)
        · have c2 : fails W much x ky = true := c
          refine ⟨_, rfl, .inl ⟨rfl, _, SqL.of hso9⟩, _, rfl, so, _, _, rfl, rfl, hso9, szl (by rw [List.length_map]; omega), ?_⟩
          have tuA := Tu.upd (o := .lst ((((sides W.ss.length L).take i).filter (fails W much x)).map (fun k => V.int k.2.1) ++ [.int ky.2.1])) hso9 trivial
          refine ⟨sx29.mut nso, LO2.mut LO9 sx29 nso tuA, ⟨_, _, _, _, rfl⟩, by rw [upd_ne nsl]; exact hsl9, pr_mono hxs5 fun _ _ h => h.mono ((s78.tu.trans sx9.tu).trans tuA), ?_⟩
          rw [et, List.filter_append, List.filter_cons, if_pos c2, List.filter_nil, List.map_append]
          exact upd_same
        · have c2 : fails W much x ky = false := c
          refine ⟨sx29, LO9, ⟨_, _, _, _, rfl⟩, hsl9, pr_mono hxs5 fun _ _ h => h.mono (s78.tu.trans sx9.tu), ?_⟩
          rw [et, List.filter_append, List.filter_cons, if_neg (by rw [c2]; exact Bool.false_ne_true), List.filter_nil, List.append_nil]
          exact hso9
      · rintro σ H5 ⟨sx5, LO5, ⟨d1, d2, d3, d4, rfl⟩, hsl5, hxs5, hso5⟩
        rw [pr_len hxs, List.take_length] at hso5
        have eo : ((sides W.ss.length L).filter (fails W much x)).map (fun k => V.int k.2.1) = (overL (fails W much x) W.ss.length L).map V.int := by
          unfold overL
          rw [List.map_map]
          rfl
        rw [eo] at hso5
        refine ⟨_, rfl, by show 0 ≤ sizeLine; decide, fun ne nne => ?_⟩
        have s6 : Same H5 (upd H5 ne (.lst [])) := Same.new nne
        refine ⟨ilD (overL (fails W much x) W.ss.length L), ilD [], .lst (SqL.of (s6 _ _ hso5)) (dpA_ints _), .lst (SqL.of upd_same) .nil, ilD_sh _, ilD_sh _, _, rfl, ?_⟩
        rw [ilD_eq]
        have sx6 : SX dk H5 (upd H5 ne (.lst [])) := SX.of s6 LO5.dT
        obtain ⟨f', rfl⟩ : ∃ f', f = f' + 1 := ⟨f - 1, by omega⟩
        refine ifB (fun c => ?_) (fun c => ?_)
        · have c2 : overL (fails W much x) W.ss.length L = [] := of_decide_eq_true c
          unfold settle at hst
          rw [c2] at hst
          refine ⟨_, rfl, ?_⟩
          refine k _ _ ((sx.trans sx5).trans sx6) (LO5.mono s6) ⟨lq, rfl, ?_⟩
          rw [← hst]
          exact s6 _ _ (sx5.at hlq (fun _ q => by cases q))
        · have c2 : ¬ overL (fails W much x) W.ss.length L = [] := of_decide_eq_false c
          obtain ⟨q, r, hqr⟩ := List.exists_cons_of_ne_nil c2
          have hpL := overL_minus hqr
          have hlt := minusP_len hpL
          rw [hqr] at hso5
          unfold settle at hst
          rw [hqr] at hst
          refine ⟨_, rfl, _, rfl, so, _, 0, _, rfl, rfl, SqL.of (s6 _ _ hso5), at_of (j := 0) rfl rfl, _, q, L, rfl, ⟨lq, rfl, SqT.of (s6 _ _ (sx5.at hlq (fun _ q => by cases q)))⟩, by omega, fun H7 v7 s7 ln7 => ?_⟩
          obtain ⟨l7, rfl, hl7⟩ := ln7
          refine ⟨⟨.ref l7, minusP L q, f', _, _, _, _, _, rfl, ((sx.trans sx5).trans sx6).trans (SX.of s7 (LO5.mono s6).dT), (LO5.mono s6).mono s7, ⟨l7, rfl, hl7⟩, minus_good GL q, by omega, hst⟩, ?_⟩
          show (match H7 l7 with | some (.tup xs) => xs.length | _ => 0) < (match H2 lq with | some (.tup xs) => xs.length | _ => 0)
          rw [hl7, hlq]
          simpa using hlt
    · obtain ⟨b, e, q⟩ := h
      exact ⟨b, e, f _ _ q⟩
end
end PF
end
section
set_option maxHeartbeats 4000000
namespace L2
open PySem PySem.Spec PyProof.Rows
theorem d_dictSetP {X : Cx} {pins : List (Addr × Obj)} {σ : St} {H H' : Hp} {s : Shared} {E : Value → Shared → Prop} {D : Addr} {y v : V} {u r : Value} {Q : Unit → Shared → Prop} (hu : X.A.units + 1 < cLine) (I : Inv X pins σ H s) (g : DPut H D y v H') (ry : RelV y u) (rv : RelV v r)
    (h : ∀ s', Inv X pins σ H' s' → Q () s') : wpAny (model X.prog X.w) X.A (dictSet D u r) Q E s := by
  rcases g with ⟨kvs, k, e, rfl, l, rfl⟩ | ⟨kvs, k, b, e, rfl, eb, l, rfl⟩
  · exact d_dictSet I e l ry rv h
  · cases (show u = Value.ref b from ry)
    obtain ⟨z, hd, xs, rel, dd⟩ := dt_of I.hok e
    have hz : xs.length ≤ sizeLine := (Paired.length rel).symm ▸ z
    have hl : (putK kvs k v).length ≤ sizeLine := Nat.le_trans (length_putK kvs k v) l
    refine wpAny_dictSet_heap (knd := tupleKind (mixKind X.prog X.w)) (hsz := hz) (show X.A.units < cLine from Nat.lt_of_succ_lt hu) (key_of I.hok eb) dd fun h' dd' hs => h _ ?_
    obtain ⟨q, es, ep, hq, h2, h3, h4, _, h5⟩ := dd'
    refine d_write I (by rw [e]; trivial) hs ⟨q, hq⟩ ⟨hl, hd, _, (rel.put k eb rv).keeps fun c ys ec => ?_, q, es, ep, hq, h2, h3, h4, h5⟩
    exact (upd_ne (ne_of ec e (fun z => nomatch z))).trans ec
section
variable {X : Cx}
def tDcP (e0 : HO) (wi : TI) (g : TG) (tt : TT) (tk tv : TE) (vs : List Nat) : TE := fun σ H Q => wi σ H fun J H1 => ∀ D, H1 D = none → ∃ W : Nat → Nat → Hp → Prop, (∃ m, W 0 m (upd H1 D (e0))) ∧ ∀ i m H, W i m H →
  (J.stop i H ∧ Q (.ref D) H) ∨ (J.go i H ∧ ∃ Nx : Hp → Prop, (∀ H', Nx H' → ∃ m', m' < m ∧ W (i + 1) m' H') ∧ ∀ x H', J.yld i H x H' → g x (wipe σ vs) H' fun σ2 H2 => wipe σ2 vs = wipe σ vs ∧ tt σ2 H2 fun b H3 =>
    if b = true then tk σ2 H3 fun y H4 => tv σ2 H4 fun z H5 => ∃ H6, DPut H5 D y z H6 ∧ Nx H6 else Nx H3)
theorem dcP_core {e0 : HO} (h00 : e0 = .dK [] ∨ e0 = .dT []) (hu : X.A.units + 1 < cLine) {pins : List (Addr × Obj)} {s : Shared} {σ : St} {H : Hp} {Q : VK} {kx vx tg iter : Expr} {ifs : List Expr} {scope : Scope} {own : List (Str × Nat)} {pos pos' : Pos} {wi : TI} {g : TG} {tt : TT} {tk tv : TE} {use : Option (Value → Sem Unit)} {Qf : Value → Shared → Prop}
    (hc : X.calm = true) (hN : X.N.Nodup) (I : Inv X pins σ H s) (hi : PI X tg iter wi) (ok : BlkOk X.N X.env.scope scope own)
    (hg : ∀ (s : Shared) (H : Hp) (C : Addr) (cl : List (Str × Addr)) (fp : List Addr), PG (X.blk s H scope (compEnvC scope cl C X.env) fp) tg g) (ht : ∀ (s : Shared) (H : Hp) (C : Addr) (cl : List (Str × Addr)) (fp : List Addr), PTs (X.blk s H scope (compEnvC scope cl C X.env) fp) ifs tt)
    (hk : ∀ (s : Shared) (H : Hp) (C : Addr) (cl : List (Str × Addr)) (fp : List Addr), PE (X.blk s H scope (compEnvC scope cl C X.env) fp) kx tk)
    (he : ∀ (s : Shared) (H : Hp) (C : Addr) (cl : List (Str × Addr)) (fp : List Addr), PE (X.blk s H scope (compEnvC scope cl C X.env) fp) vx tv) (hs : ∀ x, foldedSetIterable iter X.env x = pure x)
    (h : tDcP e0 wi g tt tk tv (own.map (·.2)) σ H Q)
    (hRR : ∀ D C s' m H', Inv X pins σ H' s' → Q (.ref D) H' → s'.heap.Ns C m → FpOk X pins H' C → compPost (model X.prog X.w) X.A X.xe use Qf (.ref D) C (.ok .next) s') :
    wpAny (model X.prog X.w) X.A (comprehension (.DictComp kx vx [⟨tg, iter, ifs, 0⟩] scope pos) scope X.env pos' newDict false (eval iter X.env) use) Qf X.xe s := by
  have hfree : ∀ y ∈ scope.names, y.2 = .free → ∃ c, X.env.cells.lookup y.1 = some c := fun y hy e => by
    rcases ok.free y hy e with k | k
    · exact I.ok.has _ (.inl k)
    · exact I.ok.has _ (.inr k)
  refine wpAny_comprehension_free (use := use) rfl hs (closure_ok hfree) ok.kind (fun y hy e => by rw [ok.uniq y hy, e])
    (thn (hi.run pins s σ H _ I h) fun xv s1 hx => thn hx fun itv s2 h2 => ?_)
  obtain ⟨it, fp, tn, J, H2, e, I2, T, st2, f2, q⟩ := h2
  subst e
  refine wpAny_newObj_type (newEnv_comp ?_)
  generalize hD : s2.heap.objs.size = D
  have hDn : H2 D = none := I2.hok.fresh (Nat.le_of_eq hD)
  obtain ⟨W, ⟨m0, w0⟩, turn⟩ := q D hDn
  -- the new list
  generalize hs3 : ({ s2 with heap := s2.heap.push { cls := .type "dict", data := .dict #[] } } : Shared) = s3
  have I3 : Inv X pins σ (upd H2 D (e0)) s3 := by
    rw [← hs3]
    refine I2.laid (t' := s2.toks) (fun b o e => Heap.get?_push_of_some _ e) (Nat.le_of_eq hD) ?_
    rw [← hD]
    rcases h00 with rfl | rfl
    · exact dk_empty s2.heap I2.big
    · exact dt_empty s2.heap I2.big
  have h3 : s3.heap = s2.heap.push { cls := .type "dict", data := .dict #[] } := by rw [← hs3]
  have sz : ∀ b ∈ fp, b < s2.heap.objs.size := fun b hb => by
    obtain ⟨o, e, _⟩ := T.obj _ _ st2 b hb
    exact Heap.lt_size e
  have f3 : ∀ b ∈ fp, FpOk X pins (upd H2 D (e0)) b ∧ b < s3.heap.objs.size := fun b hb => by
    have hlt := sz b hb
    refine ⟨⟨?_, (f2 b hb).2⟩, by rw [h3, Heap.size_push]; exact Nat.lt_succ_of_lt hlt⟩
    rw [upd_ne (by rw [← hD]; exact Nat.ne_of_lt hlt)]
    exact (f2 b hb).1
  have st3 : tn 0 s3.heap := T.keep _ _ _ st2 fun b _ o e => by rw [h3]; exact Heap.get?_push_of_some _ e
  have I4 := block_start I3 ok hN f3
  have pg := hg s3 (upd H2 D (e0)) s3.heap.objs.size (cellsFrom (s3.heap.objs.size + 1) scope.names (cloFrom X.env.cells scope.names [])) fp
  have pt := ht s3 (upd H2 D (e0)) s3.heap.objs.size (cellsFrom (s3.heap.objs.size + 1) scope.names (cloFrom X.env.cells scope.names [])) fp
  have pk := hk s3 (upd H2 D (e0)) s3.heap.objs.size (cellsFrom (s3.heap.objs.size + 1) scope.names (cloFrom X.env.cells scope.names [])) fp
  have pe := he s3 (upd H2 D (e0)) s3.heap.objs.size (cellsFrom (s3.heap.objs.size + 1) scope.names (cloFrom X.env.cells scope.names [])) fp
  show codeAny _ _ (.compStart (.DictComp kx vx [⟨tg, iter, ifs, 0⟩] scope pos) 0 (.ref it) (.ref D) (compEnvC scope (cellsFrom (s3.heap.objs.size + 1) scope.names (cloFrom X.env.cells scope.names [])) s3.heap.objs.size X.env)) (compPost (model X.prog X.w) X.A X.xe use Qf (.ref D) s3.heap.objs.size) { s3 with heap := pushCells (s3.heap.push { cls := .type "dict", data := .dict #[] }) scope.names }
  have nfp : ∀ b ∈ fp, (upd H2 D (e0)) b = none := fun b hb => (f3 b hb).1.1
  generalize hce : compEnvC scope (cellsFrom (s3.heap.objs.size + 1) scope.names (cloFrom X.env.cells scope.names [])) s3.heap.objs.size X.env = ce at I4 pg pt pk pe ⊢
  have cL : ce.locals = s3.heap.objs.size := by subst hce; rfl
  generalize hH3 : upd H2 D (e0) = H3 at I3 I4 pg pt pk pe w0 nfp f3
  generalize hs4 : ({ s3 with heap := pushCells (s3.heap.push { cls := .type "dict", data := .dict #[] }) scope.names } : Shared) = s4 at I4 ⊢
  have st4 : tn 0 s4.heap := T.keep _ _ _ st3 fun b _ o e => by rw [← hs4]; exact pushCells_keeps _ _ _ _ (Heap.get?_push_of_some _ e)
  have stat : ∀ {σ' : St} {H' : Hp} {s' : Shared}, Inv (X.blk s3 H3 scope ce fp) [] σ' H' s' → (∀ b ∈ fp, H' b = none) → ∀ b ∈ fp, FpOk (X.blk s3 H3 scope ce fp) [] H' b := fun {σ' H' s'} I' hn b hb =>
    ⟨hn b hb, (I'.ok.exf b hb).1, I'.ok.exfs b hb, .inl hb, fun x c e => (I'.ok.exf b hb).2 x c e, fun p hp => absurd (show p ∈ ([] : List (Addr × Obj)) ++ [] from hp) (by simp)⟩
  have loop : codeAny (model X.prog X.w) X.A (.compLoop (.DictComp kx vx [⟨tg, iter, ifs, 0⟩] scope pos) 0 (.ref it) (.ref D) ce) (compPost (model X.prog X.w) X.A X.xe use Qf (.ref D) s3.heap.objs.size) s4 := by
    refine compLoop_anyD (fun n s' => ∃ i H', Inv (X.blk s3 H3 scope ce fp) [] (wipe σ (own.map (·.2))) H' s' ∧ tn i s'.heap ∧ (∀ b ∈ fp, H' b = none) ∧ W i n H') ?_ m0 ⟨0, H3, I4, st4, nfp, w0⟩
    rintro n s5 ⟨i, H5, I5, st5, n5, w5⟩
    rcases turn i n H5 w5 with ⟨stop, qq⟩ | ⟨go, Nx, hNx, step⟩
    · have td := T.done (X.blk s3 H3 scope ce fp) rfl rfl rfl hc i [] s5 _ H5 (fun _ _ => False) I5 (stat I5 n5) st5 stop
      refine thnF td fun r s6 ⟨hr, I6⟩ => ?_
      subst hr
      -- back in the def's context
      have I7 : Inv X pins σ H5 s6 := I3.call' (ch := fp) I6.os I6.base I6.hok I6.bare fun b hb => ⟨(f3 b hb).1.2.2.2.1, (f3 b hb).1.2.1, (f3 b hb).1.2.2.2.2.1, (f3 b hb).1.2.2.2.2.2⟩
      have nC : H5 s3.heap.objs.size = none := by
        have z : H5 ce.locals = none := I6.free
        rw [cL] at z
        exact z
      obtain ⟨m, hn, _⟩ := I6.loc
      have hn : s6.heap.Ns ce.locals m := hn
      rw [cL] at hn
      exact hRR D s3.heap.objs.size s6 m H5 I7 qq hn (I3.fpOk (Nat.le_refl _) nC)
    · have ti := T.item (X.blk s3 H3 scope ce fp) rfl rfl rfl hc i [] s5 _ H5 (fun _ _ => False) I5 (stat I5 n5) st5 go
      refine thnF ti fun r s6 ⟨u, hr, h6⟩ => ?_
      subst hr
      refine thnF h6 fun _ s7 ⟨x, H7, I7, r7, y7, st7, n7⟩ => ?_
      have I7' := I7.pinned (stat I7 n7) (T.obj _ _ st7)
      refine thnF (pg.run _ s7 _ H7 x u _ I7' r7 (step x H7 y7)) fun _ s8 ⟨σ8, H8, I8, hw8, q8⟩ => ?_
      refine thnF (pt.run _ s8 σ8 H8 _ I8 q8) fun b s9 ⟨H9, I9, q9⟩ => ?_
      -- the turn's end
      have fin : ∀ {s' : Shared} {H' : Hp}, Inv (X.blk s3 H3 scope ce fp) ([] ++ pinsAt fp s7.heap) σ8 H' s' → Nx H' → ∃ m, m < n ∧ ∃ i H', Inv (X.blk s3 H3 scope ce fp) [] (wipe σ (own.map (·.2))) H' s' ∧ tn i s'.heap ∧ (∀ b ∈ fp, H' b = none) ∧ W i m H' := fun {s' H'} I' nx => by
        obtain ⟨m', hm, w'⟩ := hNx H' nx
        have pin' : ∀ b ∈ fp, ∀ o, s7.heap.get? b = some o → s'.heap.get? b = some o ∧ H' b = none := fun b hb o e =>
          let z := I'.pin (b, o) (List.mem_append_right _ (List.mem_append_right _ (mem_pinsAt hb e)))
          ⟨z.1, z.2.1⟩
        have hl : (wipe σ (own.map (·.2))).length = σ8.length := by rw [← hw8, wipe_length]
        refine ⟨m', hm, i + 1, H', (I'.unpinned (pins := [])).weak hl (fun j v e => ?_), T.keep _ _ _ st7 fun b hb o e => (pin' b hb o e).1, fun b hb => ?_, w'⟩
        · rw [← hw8] at e
          exact (wipe_some e).1
        · obtain ⟨o, e, _⟩ := T.obj _ _ st7 b hb
          exact (pin' b hb o e).2
      cases b with
      | false =>
        simp only [Bool.false_eq_true, if_false] at q9 ⊢
        exact fin I9 q9
      | true =>
        simp only [if_true] at q9 ⊢
        refine thnF (pk.run _ s9 σ8 H9 _ I9 q9) fun z s10 ⟨yk, H10, I10, r10, q10⟩ => ?_
        refine thnF (pe.run _ s10 σ8 H10 _ I10 q10) fun z2 s11 ⟨yv, H11, I11, r11, H12, dp, nx⟩ => ?_
        exact d_dictSetP (X := X.blk s3 H3 scope ce fp) hu I11 dp r10 r11 fun s12 I12 => fin I12 nx
  exact codeAny_compStart_dict loop (T.self X.A 0 _ _ _ st4 loop)
/-- as a value -/
theorem pe_dcP {e0 : HO} (h00 : e0 = .dK [] ∨ e0 = .dT []) (hu : X.A.units + 1 < cLine) {kx vx tg iter : Expr} {ifs : List Expr} {scope : Scope} {own : List (Str × Nat)} {pos : Pos} {wi : TI} {g : TG} {tt : TT} {tk tv : TE} (hc : X.calm = true) (hN : X.N.Nodup) (hi : PI X tg iter wi) (ok : BlkOk X.N X.env.scope scope own)
    (hg : ∀ (s : Shared) (H : Hp) (C : Addr) (cl : List (Str × Addr)) (fp : List Addr), PG (X.blk s H scope (compEnvC scope cl C X.env) fp) tg g) (ht : ∀ (s : Shared) (H : Hp) (C : Addr) (cl : List (Str × Addr)) (fp : List Addr), PTs (X.blk s H scope (compEnvC scope cl C X.env) fp) ifs tt)
    (hk : ∀ (s : Shared) (H : Hp) (C : Addr) (cl : List (Str × Addr)) (fp : List Addr), PE (X.blk s H scope (compEnvC scope cl C X.env) fp) kx tk)
    (he : ∀ (s : Shared) (H : Hp) (C : Addr) (cl : List (Str × Addr)) (fp : List Addr), PE (X.blk s H scope (compEnvC scope cl C X.env) fp) vx tv) (hs : ∀ x, foldedSetIterable iter X.env x = pure x := by intro _; rfl) :
    PE X (.DictComp kx vx [⟨tg, iter, ifs, 0⟩] scope pos) (tDcP e0 wi g tt tk tv (own.map (·.2))) := by
  refine ⟨fun pins s σ H Q I h => ?_⟩
  rw [arm_eval_DictComp]
  refine dcP_core h00 hu hc hN I hi ok hg ht hk he hs h fun D C s' m H' I' q hn f => ⟨m, hn, fun h'' sb => ?_⟩
  obtain ⟨f0, f1, f2, f3, f4, f5⟩ := f
  exact ⟨.ref D, H', I'.turned (t' := s'.toks) (fun b o hb e => (sb.2 b hb).trans e) f0 f1 f3 f4 f5, rfl, q⟩
theorem ps_setDcP {e0 : HO} (h00 : e0 = .dK [] ∨ e0 = .dT []) (hu : X.A.units + 1 < cLine) {i : Nat} {y : Str} {py : Pos} {kx vx tg iter : Expr} {ifs : List Expr} {scope : Scope} {own : List (Str × Nat)} {pos spos : Pos} {wi : TI} {g : TG} {tt : TT} {tk tv : TE} (hc : X.calm = true) (hN : X.N.Nodup) (hy : X.N[i]? = some y) (hyl : X.env.scope.names.lookup y = some .local)
    (hsw : swapsWith (.DictComp kx vx [⟨tg, iter, ifs, 0⟩] scope pos) (some (.Name y py)) spos.line X.env = pure true) (hi : PI X tg iter wi) (ok : BlkOk X.N X.env.scope scope own)
    (hg : ∀ (s : Shared) (H : Hp) (C : Addr) (cl : List (Str × Addr)) (fp : List Addr), PG (X.blk s H scope (compEnvC scope cl C X.env) fp) tg g) (ht : ∀ (s : Shared) (H : Hp) (C : Addr) (cl : List (Str × Addr)) (fp : List Addr), PTs (X.blk s H scope (compEnvC scope cl C X.env) fp) ifs tt)
    (hk : ∀ (s : Shared) (H : Hp) (C : Addr) (cl : List (Str × Addr)) (fp : List Addr), PE (X.blk s H scope (compEnvC scope cl C X.env) fp) kx tk)
    (he : ∀ (s : Shared) (H : Hp) (C : Addr) (cl : List (Str × Addr)) (fp : List Addr), PE (X.blk s H scope (compEnvC scope cl C X.env) fp) vx tv) (hs : ∀ x, foldedSetIterable iter X.env x = pure x := by intro _; rfl) :
    PS X (.Assign [.Name y py] (.DictComp kx vx [⟨tg, iter, ifs, 0⟩] scope pos) spos) (tAsg (tDcP e0 wi g tt tk tv (own.map (·.2))) (gName i)) := by
  refine ⟨fun pins s σ H D I h => ?_⟩
  rw [exec_Assign_Name_used _ _ _ _ hsw]
  refine wpAny_bind (wpAny_standAt (wpAny_bind ?_))
  show wpAny _ X.A (do let _ ← comprehension (.DictComp kx vx [⟨tg, iter, ifs, 0⟩] scope pos) scope X.env (firstIterPos [⟨tg, iter, ifs, 0⟩] pos) (newDict) false (eval iter X.env) (some (assign (.Name y py) X.env))) _ _ s
  have h : tDcP e0 wi g tt tk tv (own.map (·.2)) σ H (fun x H1 => gName i x σ H1 D.nx) := h
  refine wpAny_bind (thn (dcP_core h00 hu (Qf := fun _ s' => SP X pins D .next s') hc hN I hi ok hg ht hk he hs h fun L C s' m H' I' q hn f => ?_) fun _ s' hq => wpAny_pure (wpAny_pure hq))
  show wpAny _ _ (assign (.Name y py) X.env (.ref L)) _ _ _
  refine wpAny_assign_Name (store_ok2 (v := V.ref L) I' hN hy (.inl hyl) rfl (fun s2 I2 ⟨a, sb, ha⟩ => ?_) (.inr hyl))
  obtain ⟨f0, f1, f2, f3, f4, f5⟩ := f
  have haC : C ≠ a := by
    rcases ha with z | z
    · rw [z]; exact f1
    · exact fun e => f4 y a z e.symm
  refine ⟨m, hn.sameBut sb haC, fun h3 sb3 => ?_⟩
  exact ⟨_, H', I2.turned (t' := s2.toks) (fun b o hb e => (sb3.2 b hb).trans e) f0 f1 f3 f4 f5, q⟩
theorem sw_trueD {kx vx : Expr} {gs : List Comprehension} {scope : Scope} {pos py : Pos} {y : Str} {l : Nat} {env : Env} (hk : env.scope.kind = .function) (hy : env.scope.names.lookup y = some .local) (hl : (py.line == pos.line) = true)
    (ha : (scope.names.any fun (n, k) => n == y && (k == .local || k == .cell)) = false) : swapsWith (.DictComp kx vx gs scope pos) (some (.Name y py)) l env = pure true := by
  have ky : env.kindOf y = some .local := hy
  have hb : env.blockKind = .function := by unfold Env.blockKind; rw [hk]; rfl
  unfold swapsWith
  simp only [hb, ky, ha, Expr.pos, hl]
  rfl
end
theorem compTurn2_outD (kx vx t0 i0 t1 i1 : Expr) (ifs0 ifs1 : List Expr) (scope : Scope) (pos : Pos) (it acc : Value) (env : Env) :
    compTurn (.DictComp kx vx [⟨t0, i0, ifs0, 0⟩, ⟨t1, i1, ifs1, 0⟩] scope pos) 0 it acc env = (do
      standAt i0.pos
      match ← pyNext it with
      | none => pure (.done .next)
      | some v =>
        letOwnedTupleGo t0 it v
        assign t0 env v
        let mut ok := true
        for c in ifs0 do
          if ok then ok ← isTrue c env (eval c env)
        if ok then
          let x ← eval i1 env
          standAt i1.pos
          let x ← foldedSetIterable i1 env x
          let _ ← runOwn (.compStart (.DictComp kx vx [⟨t0, i0, ifs0, 0⟩, ⟨t1, i1, ifs1, 0⟩] scope pos) 1 (← holding [x] (pyIter x)) acc env) env
        again (.compLoop (.DictComp kx vx [⟨t0, i0, ifs0, 0⟩, ⟨t1, i1, ifs1, 0⟩] scope pos) 0 it acc env)) := by rfl
theorem compTurn2_inD (kx vx t0 i0 t1 i1 : Expr) (ifs0 ifs1 : List Expr) (scope : Scope) (pos : Pos) (it : Value) (D : Addr) (env : Env) :
    compTurn (.DictComp kx vx [⟨t0, i0, ifs0, 0⟩, ⟨t1, i1, ifs1, 0⟩] scope pos) 1 it (.ref D) env = (do
      standAt i1.pos
      match ← pyNext it with
      | none => pure (.done .next)
      | some v =>
        letOwnedTupleGo t1 it v
        assign t1 env v
        let mut ok := true
        for c in ifs1 do
          if ok then ok ← isTrue c env (eval c env)
        if ok then
          (do
            let kv ← eval kx env
            let vv ← holding [kv] (eval vx env)
            standAt { kx.pos with endLine := vx.pos.endLine, endCol := vx.pos.endCol }
            holding [kv, vv] (dictSet D kv vv))
        again (.compLoop (.DictComp kx vx [⟨t0, i0, ifs0, 0⟩, ⟨t1, i1, ifs1, 0⟩] scope pos) 1 it (.ref D) env)) := by rfl
section
variable {prog : Program} {w : World} {A : Around} {R : Result → Shared → Prop} {s : Shared} {kx vx t0 i0 t1 i1 : Expr} {ifs0 ifs1 : List Expr} {scope : Scope} {pos : Pos} {it acc : Value} {env : Env}
/-- the loop of the first clause -/
theorem compLoop2_outD (hs : ∀ x, foldedSetIterable i1 env x = pure x) (I : Nat → Shared → Prop)
    (turn : ∀ n s, I n s → wpAny (model prog w) A (pyNext it) (fun r s₁ => match r with
      | none => R (.ok .next) s₁
      | some v => wpAny (model prog w) A (letOwnedTupleGo t0 it v) (fun _ s₁' => wpAny (model prog w) A (assign t0 env v) (fun _ s₂ =>
          wpAny (model prog w) A (forIn ifs0 true fun c r => if r = true then do let ok ← isTrue c env (eval c env); pure (ForInStep.yield ok) else pure (ForInStep.yield r)) (fun ok s₃ =>
            if ok = true then wpAny (model prog w) A (eval i1 env) (fun x s₄ => wpAny (model prog w) A (pyIter x) (fun it1 s₅ =>
              codeAny (model prog w) A (.compStart (.DictComp kx vx [⟨t0, i0, ifs0, 0⟩, ⟨t1, i1, ifs1, 0⟩] scope pos) 1 it1 acc env) (fun r s' => match r with
                | .ok _ => ∃ m, m < n ∧ I m s'
                | .error _ => False) s₅) (notedBy (model prog w) A env fun e s' => R (.error e) s') s₄) (notedBy (model prog w) A env fun e s' => R (.error e) s') s₃
            else ∃ m, m < n ∧ I m s₃) (notedBy (model prog w) A env fun e s' => R (.error e) s') s₂) (notedBy (model prog w) A env fun e s' => R (.error e) s') s₁') (notedBy (model prog w) A env fun e s' => R (.error e) s') s₁) (notedBy (model prog w) A env fun e s' => R (.error e) s') s)
    (n : Nat) (h : I n s) :
    codeAny (model prog w) A (.compLoop (.DictComp kx vx [⟨t0, i0, ifs0, 0⟩, ⟨t1, i1, ifs1, 0⟩] scope pos) 0 it acc env) R s := by
  refine codeAny_loop rfl I (fun n s hI => ?_) n h
  show wpAny _ A ((compTurn (.DictComp kx vx [⟨t0, i0, ifs0, 0⟩, ⟨t1, i1, ifs1, 0⟩] scope pos) 0 it acc env).onRaise (fun x => do noteFrame x env; theTreesLotGoes x)) _ _ s
  refine wpAny_noted ?_
  rw [compTurn2_outD]
  refine wpAny_bind (wpAny_standAt (wpAny_bind (wpAny_mono (turn n s hI) (fun r s₁ h₁ => ?_) fun _ _ h' => h')))
  cases r with
  | none => exact wpAny_pure h₁
  | some v =>
    refine wpAny_bind (wpAny_mono h₁ (fun _ s₁' h₁' => ?_) fun _ _ h' => h')
    refine wpAny_bind (wpAny_mono h₁' (fun _ s₂ h₂ => wpAny_bind (wpAny_mono h₂ (fun ok s₃ h₃ => ?_) fun _ _ h' => h')) fun _ _ h' => h')
    cases ok with
    | false => exact wpAny_pure ⟨rfl, h₃⟩
    | true =>
      refine wpAny_bind (wpAny_mono h₃ (fun x s₄ h₄ => ?_) fun _ _ h' => h')
      refine wpAny_bind (wpAny_standAt (wpAny_bind (wpAny_of_eq (hs x) (wpAny_bind (wpAny_holding (wpAny_mono h₄ (fun it1 s₅ h₅ => ?_) fun _ _ h' => h'))))))
      refine wpAny_bind (wpAny_runOwn ?_)
      rw [Around.mark_none]
      refine codeAny_mono h₅ fun r s' hr => ?_
      cases r with
      | ok f =>
        first
          | exact wpAny_pure ⟨rfl, hr⟩
          | exact wpAny_bind (wpAny_pure (wpAny_pure ⟨rfl, hr⟩))
      | error e => exact hr.elim
/-- the loop of the second -/
theorem compLoop2_inD {D : Addr} (I : Nat → Shared → Prop)
    (turn : ∀ n s, I n s → wpAny (model prog w) A (pyNext it) (fun r s₁ => match r with
      | none => R (.ok .next) s₁
      | some v => wpAny (model prog w) A (letOwnedTupleGo t1 it v) (fun _ s₁' => wpAny (model prog w) A (assign t1 env v) (fun _ s₂ =>
          wpAny (model prog w) A (forIn ifs1 true fun c r => if r = true then do let ok ← isTrue c env (eval c env); pure (ForInStep.yield ok) else pure (ForInStep.yield r)) (fun ok s₃ =>
            if ok = true then wpAny (model prog w) A (eval kx env) (fun kv s₄ => wpAny (model prog w) A (eval vx env) (fun vv s₅ =>
              wpAny (model prog w) A (dictSet D kv vv) (fun _ s₆ => ∃ m, m < n ∧ I m s₆) (notedBy (model prog w) A env fun e s' => R (.error e) s') s₅) (notedBy (model prog w) A env fun e s' => R (.error e) s') s₄) (notedBy (model prog w) A env fun e s' => R (.error e) s') s₃
            else ∃ m, m < n ∧ I m s₃) (notedBy (model prog w) A env fun e s' => R (.error e) s') s₂) (notedBy (model prog w) A env fun e s' => R (.error e) s') s₁') (notedBy (model prog w) A env fun e s' => R (.error e) s') s₁) (notedBy (model prog w) A env fun e s' => R (.error e) s') s)
    (n : Nat) (h : I n s) :
    codeAny (model prog w) A (.compLoop (.DictComp kx vx [⟨t0, i0, ifs0, 0⟩, ⟨t1, i1, ifs1, 0⟩] scope pos) 1 it (.ref D) env) R s := by
  refine codeAny_loop rfl I (fun n s hI => ?_) n h
  show wpAny _ A ((compTurn (.DictComp kx vx [⟨t0, i0, ifs0, 0⟩, ⟨t1, i1, ifs1, 0⟩] scope pos) 1 it (.ref D) env).onRaise (fun x => do noteFrame x env; theTreesLotGoes x)) _ _ s
  refine wpAny_noted ?_
  rw [compTurn2_inD]
  refine wpAny_bind (wpAny_standAt (wpAny_bind (wpAny_mono (turn n s hI) (fun r s₁ h₁ => ?_) fun _ _ h' => h')))
  cases r with
  | none => exact wpAny_pure h₁
  | some v =>
    refine wpAny_bind (wpAny_mono h₁ (fun _ s₁' h₁' => ?_) fun _ _ h' => h')
    refine wpAny_bind (wpAny_mono h₁' (fun _ s₂ h₂ => wpAny_bind (wpAny_mono h₂ (fun ok s₃ h₃ => ?_) fun _ _ h' => h')) fun _ _ h' => h')
    cases ok with
    | false => exact wpAny_pure ⟨rfl, h₃⟩
    | true =>
      exact wpAny_bind (wpAny_bind (wpAny_mono h₃ (fun kv s₄ h₄ => wpAny_bind (wpAny_holding (wpAny_mono h₄ (fun vv s₅ h₅ => wpAny_bind (wpAny_standAt (wpAny_holding (wpAny_mono h₅ (fun _ s₆ h₆ => wpAny_pure ⟨rfl, h₆⟩) fun _ _ h' => h')))) fun _ _ h' => h'))) fun _ _ h' => h'))
/-- the second clause's start -/
theorem compStart1_okD (h0 : codeAny (model prog w) A (.compLoop (.DictComp kx vx [⟨t0, i0, ifs0, 0⟩, ⟨t1, i1, ifs1, 0⟩] scope pos) 1 it acc env) R s)
    (h : wpAny (model prog w) A (pyIter it) (fun it' s' => codeAny (model prog w) A (.compLoop (.DictComp kx vx [⟨t0, i0, ifs0, 0⟩, ⟨t1, i1, ifs1, 0⟩] scope pos) 1 it' acc env) R s')
      (notedBy (model prog w) A env fun x s' => R (.error x) s') s) :
    codeAny (model prog w) A (.compStart (.DictComp kx vx [⟨t0, i0, ifs0, 0⟩, ⟨t1, i1, ifs1, 0⟩] scope pos) 1 it acc env) R s := by
  refine codeAny_of_tree ?_
  show wpAny _ _ ((compStart (.DictComp kx vx [⟨t0, i0, ifs0, 0⟩, ⟨t1, i1, ifs1, 0⟩] scope pos) 1 it acc env).onRaise (fun x => do noteFrame x env; standAt theWindowsPlace)) _ _ s
  refine wpAny_notedAt ?_
  unfold compStart
  show wpAny _ _ (ask >>= _) _ _ s
  refine wpAny_bind (wpAny_askSetting (wpAny_ite ?_))
  split
  · first
      | exact wpAny_bind (wpAny_pure (wpAny_pure (And.intro rfl h0)))
      | exact wpAny_pure (And.intro rfl h0)
  · first
      | exact wpAny_bind (wpAny_rule (wpAny_bind (wpAny_standAt (wpAny_bind (wpAny_mono h (fun it' s' h' => wpAny_pure (And.intro rfl h')) fun _ _ x => x)))))
      | (refine wpAny_bind (wpAny_rule ?_); show wpAny _ _ (standAt i1.pos >>= _) _ _ s; exact wpAny_bind (wpAny_standAt (wpAny_bind (wpAny_mono h (fun it' s' h' => wpAny_pure (And.intro rfl h')) fun _ _ x => x))))
end
section
variable {X : Cx}
/-- [elt for tg in iter if .. for tg1 in iter1 if ..]: behind the first clause's store and tests the second source's own loop, from which Nx is reached. vs: the block's names; vs1: those of the second target -/
def tDc2 (e0 : HO) (wi : TI) (g : TG) (tt : TT) (wi1 : TI) (g1 : TG) (tt1 : TT) (tk tv : TE) (vs vs1 : List Nat) : TE := fun σ H Q => wi σ H fun J H1 => ∀ D, H1 D = none → ∃ W : Nat → Nat → Hp → Prop, (∃ m, W 0 m (upd H1 D (e0))) ∧ ∀ i m H, W i m H →
  (J.stop i H ∧ Q (.ref D) H) ∨ (J.go i H ∧ ∃ Nx : Hp → Prop, (∀ H', Nx H' → ∃ m', m' < m ∧ W (i + 1) m' H') ∧ ∀ x H', J.yld i H x H' → g x (wipe σ vs) H' fun σ2 H2 => wipe σ2 vs = wipe σ vs ∧ tt σ2 H2 fun b H3 =>
    if b = true then wi1 σ2 H3 fun J1 H4 => ∃ W1 : Nat → Nat → Hp → Prop, (∃ m, W1 0 m H4) ∧ ∀ j k H, W1 j k H →
      (J1.stop j H ∧ Nx H) ∨ (J1.go j H ∧ ∃ Nx1 : Hp → Prop, (∀ H', Nx1 H' → ∃ k', k' < k ∧ W1 (j + 1) k' H') ∧ ∀ x H', J1.yld j H x H' → g1 x (wipe σ2 vs1) H' fun σ3 H5 => wipe σ3 vs1 = wipe σ2 vs1 ∧ tt1 σ3 H5 fun b H6 =>
        if b = true then tk σ3 H6 fun y H7 => tv σ3 H7 fun z H8 => ∃ H9, DPut H8 D y z H9 ∧ Nx1 H9 else Nx1 H6)
    else Nx H3)
theorem dc2_core {e0 : HO} (h00 : e0 = .dK [] ∨ e0 = .dT []) (hu : X.A.units + 1 < cLine) {pins : List (Addr × Obj)} {s : Shared} {σ : St} {H : Hp} {Q : VK} {kx vx tg iter tg1 iter1 : Expr} {ifs ifs1 : List Expr} {scope : Scope} {own : List (Str × Nat)} {vs1 : List Nat} {pos pos' : Pos} {wi wi1 : TI} {g g1 : TG} {tt tt1 : TT} {tk tv : TE} {use : Option (Value → Sem Unit)} {Qf : Value → Shared → Prop}
    (hc : X.calm = true) (hN : X.N.Nodup) (I : Inv X pins σ H s) (hi : PI X tg iter wi) (ok : BlkOk X.N X.env.scope scope own) (hv : ∀ i ∈ vs1, i ∈ own.map (·.2))
    (hg : ∀ (s : Shared) (H : Hp) (C : Addr) (cl : List (Str × Addr)) (fp : List Addr), PG (X.blk s H scope (compEnvC scope cl C X.env) fp) tg g) (ht : ∀ (s : Shared) (H : Hp) (C : Addr) (cl : List (Str × Addr)) (fp : List Addr), PTs (X.blk s H scope (compEnvC scope cl C X.env) fp) ifs tt)
    (hk : ∀ (s : Shared) (H : Hp) (C : Addr) (cl : List (Str × Addr)) (fp : List Addr), PE (X.blk s H scope (compEnvC scope cl C X.env) fp) kx tk)
    (he : ∀ (s : Shared) (H : Hp) (C : Addr) (cl : List (Str × Addr)) (fp : List Addr), PE (X.blk s H scope (compEnvC scope cl C X.env) fp) vx tv) (hs : ∀ x, foldedSetIterable iter X.env x = pure x)
    (hi1 : ∀ (s : Shared) (H : Hp) (C : Addr) (cl : List (Str × Addr)) (fp : List Addr), PI (X.blk s H scope (compEnvC scope cl C X.env) fp) tg1 iter1 wi1)
    (hg1 : ∀ (s : Shared) (H : Hp) (C : Addr) (cl : List (Str × Addr)) (fp : List Addr), PG (X.blk s H scope (compEnvC scope cl C X.env) fp) tg1 g1)
    (ht1 : ∀ (s : Shared) (H : Hp) (C : Addr) (cl : List (Str × Addr)) (fp : List Addr), PTs (X.blk s H scope (compEnvC scope cl C X.env) fp) ifs1 tt1)
    (hs1 : ∀ env x, foldedSetIterable iter1 env x = pure x)
    (h : tDc2 e0 wi g tt wi1 g1 tt1 tk tv (own.map (·.2)) vs1 σ H Q)
    (hRR : ∀ D C s' m H', Inv X pins σ H' s' → Q (.ref D) H' → s'.heap.Ns C m → FpOk X pins H' C → compPost (model X.prog X.w) X.A X.xe use Qf (.ref D) C (.ok .next) s') :
    wpAny (model X.prog X.w) X.A (comprehension (.DictComp kx vx [⟨tg, iter, ifs, 0⟩, ⟨tg1, iter1, ifs1, 0⟩] scope pos) scope X.env pos' (newDict) false (eval iter X.env) use) Qf X.xe s := by
  have hfree : ∀ y ∈ scope.names, y.2 = .free → ∃ c, X.env.cells.lookup y.1 = some c := fun y hy e => by
    rcases ok.free y hy e with k | k
    · exact I.ok.has _ (.inl k)
    · exact I.ok.has _ (.inr k)
  refine wpAny_comprehension_free (use := use) rfl hs (closure_ok hfree) ok.kind (fun y hy e => by rw [ok.uniq y hy, e])
    (thn (hi.run pins s σ H _ I h) fun xv s1 hx => thn hx fun itv s2 h2 => ?_)
  obtain ⟨it, fp, tn, J, H2, e, I2, T, st2, f2, q⟩ := h2
  subst e
  refine wpAny_newObj_type (newEnv_comp ?_)
  generalize hD : s2.heap.objs.size = D
  have hDn : H2 D = none := I2.hok.fresh (Nat.le_of_eq hD)
  obtain ⟨W, ⟨m0, w0⟩, turn⟩ := q D hDn
  -- the new list
  generalize hs3 : ({ s2 with heap := s2.heap.push { cls := .type "dict", data := .dict #[] } } : Shared) = s3
  have I3 : Inv X pins σ (upd H2 D (e0)) s3 := by
    rw [← hs3]
    refine I2.laid (t' := s2.toks) (fun b o e => Heap.get?_push_of_some _ e) (Nat.le_of_eq hD) ?_
    rw [← hD]
    rcases h00 with rfl | rfl
    · exact dk_empty s2.heap I2.big
    · exact dt_empty s2.heap I2.big
  have h3 : s3.heap = s2.heap.push { cls := .type "dict", data := .dict #[] } := by rw [← hs3]
  have sz : ∀ b ∈ fp, b < s2.heap.objs.size := fun b hb => by
    obtain ⟨o, e, _⟩ := T.obj _ _ st2 b hb
    exact Heap.lt_size e
  have f3 : ∀ b ∈ fp, FpOk X pins (upd H2 D (e0)) b ∧ b < s3.heap.objs.size := fun b hb => by
    have hlt := sz b hb
    refine ⟨⟨?_, (f2 b hb).2⟩, by rw [h3, Heap.size_push]; exact Nat.lt_succ_of_lt hlt⟩
    rw [upd_ne (by rw [← hD]; exact Nat.ne_of_lt hlt)]
    exact (f2 b hb).1
  have st3 : tn 0 s3.heap := T.keep _ _ _ st2 fun b _ o e => by rw [h3]; exact Heap.get?_push_of_some _ e
  have I4 := block_start I3 ok hN f3
  have pg := hg s3 (upd H2 D (e0)) s3.heap.objs.size (cellsFrom (s3.heap.objs.size + 1) scope.names (cloFrom X.env.cells scope.names [])) fp
  have pt := ht s3 (upd H2 D (e0)) s3.heap.objs.size (cellsFrom (s3.heap.objs.size + 1) scope.names (cloFrom X.env.cells scope.names [])) fp
  have pk := hk s3 (upd H2 D (e0)) s3.heap.objs.size (cellsFrom (s3.heap.objs.size + 1) scope.names (cloFrom X.env.cells scope.names [])) fp
  have pe := he s3 (upd H2 D (e0)) s3.heap.objs.size (cellsFrom (s3.heap.objs.size + 1) scope.names (cloFrom X.env.cells scope.names [])) fp
  have pi1 := hi1 s3 (upd H2 D (e0)) s3.heap.objs.size (cellsFrom (s3.heap.objs.size + 1) scope.names (cloFrom X.env.cells scope.names [])) fp
  have pg1 := hg1 s3 (upd H2 D (e0)) s3.heap.objs.size (cellsFrom (s3.heap.objs.size + 1) scope.names (cloFrom X.env.cells scope.names [])) fp
  have pt1 := ht1 s3 (upd H2 D (e0)) s3.heap.objs.size (cellsFrom (s3.heap.objs.size + 1) scope.names (cloFrom X.env.cells scope.names [])) fp
  show codeAny _ _ (.compStart (.DictComp kx vx [⟨tg, iter, ifs, 0⟩, ⟨tg1, iter1, ifs1, 0⟩] scope pos) 0 (.ref it) (.ref D) (compEnvC scope (cellsFrom (s3.heap.objs.size + 1) scope.names (cloFrom X.env.cells scope.names [])) s3.heap.objs.size X.env)) (compPost (model X.prog X.w) X.A X.xe use Qf (.ref D) s3.heap.objs.size) { s3 with heap := pushCells (s3.heap.push { cls := .type "dict", data := .dict #[] }) scope.names }
  have nfp : ∀ b ∈ fp, (upd H2 D (e0)) b = none := fun b hb => (f3 b hb).1.1
  generalize hce : compEnvC scope (cellsFrom (s3.heap.objs.size + 1) scope.names (cloFrom X.env.cells scope.names [])) s3.heap.objs.size X.env = ce at I4 pg pt pk pe pi1 pg1 pt1 ⊢
  have cL : ce.locals = s3.heap.objs.size := by subst hce; rfl
  generalize hH3 : upd H2 D (e0) = H3 at I3 I4 pg pt pk pe pi1 pg1 pt1 w0 nfp f3
  generalize hs4 : ({ s3 with heap := pushCells (s3.heap.push { cls := .type "dict", data := .dict #[] }) scope.names } : Shared) = s4 at I4 ⊢
  have st4 : tn 0 s4.heap := T.keep _ _ _ st3 fun b _ o e => by rw [← hs4]; exact pushCells_keeps _ _ _ _ (Heap.get?_push_of_some _ e)
  have stat : ∀ {σ' : St} {H' : Hp} {s' : Shared}, Inv (X.blk s3 H3 scope ce fp) [] σ' H' s' → (∀ b ∈ fp, H' b = none) → ∀ b ∈ fp, FpOk (X.blk s3 H3 scope ce fp) [] H' b := fun {σ' H' s'} I' hn b hb =>
    ⟨hn b hb, (I'.ok.exf b hb).1, I'.ok.exfs b hb, .inl hb, fun x c e => (I'.ok.exf b hb).2 x c e, fun p hp => absurd (show p ∈ ([] : List (Addr × Obj)) ++ [] from hp) (by simp)⟩
  have loop : codeAny (model X.prog X.w) X.A (.compLoop (.DictComp kx vx [⟨tg, iter, ifs, 0⟩, ⟨tg1, iter1, ifs1, 0⟩] scope pos) 0 (.ref it) (.ref D) ce) (compPost (model X.prog X.w) X.A X.xe use Qf (.ref D) s3.heap.objs.size) s4 := by
    refine compLoop2_outD (hs1 ce) (fun n s' => ∃ i H', Inv (X.blk s3 H3 scope ce fp) [] (wipe σ (own.map (·.2))) H' s' ∧ tn i s'.heap ∧ (∀ b ∈ fp, H' b = none) ∧ W i n H') ?_ m0 ⟨0, H3, I4, st4, nfp, w0⟩
    rintro n s5 ⟨i, H5, I5, st5, n5, w5⟩
    rcases turn i n H5 w5 with ⟨stop, qq⟩ | ⟨go, Nx, hNx, step⟩
    · have td := T.done (X.blk s3 H3 scope ce fp) rfl rfl rfl hc i [] s5 _ H5 (fun _ _ => False) I5 (stat I5 n5) st5 stop
      refine thnF td fun r s6 ⟨hr, I6⟩ => ?_
      subst hr
      -- back in the def's context
      have I7 : Inv X pins σ H5 s6 := I3.call' (ch := fp) I6.os I6.base I6.hok I6.bare fun b hb => ⟨(f3 b hb).1.2.2.2.1, (f3 b hb).1.2.1, (f3 b hb).1.2.2.2.2.1, (f3 b hb).1.2.2.2.2.2⟩
      have nC : H5 s3.heap.objs.size = none := by
        have z : H5 ce.locals = none := I6.free
        rw [cL] at z
        exact z
      obtain ⟨m, hn, _⟩ := I6.loc
      have hn : s6.heap.Ns ce.locals m := hn
      rw [cL] at hn
      exact hRR D s3.heap.objs.size s6 m H5 I7 qq hn (I3.fpOk (Nat.le_refl _) nC)
    · have ti := T.item (X.blk s3 H3 scope ce fp) rfl rfl rfl hc i [] s5 _ H5 (fun _ _ => False) I5 (stat I5 n5) st5 go
      refine thnF ti fun r s6 ⟨u, hr, h6⟩ => ?_
      subst hr
      refine thnF h6 fun _ s7 ⟨x, H7, I7, r7, y7, st7, n7⟩ => ?_
      have I7' := I7.pinned (stat I7 n7) (T.obj _ _ st7)
      refine thnF (pg.run _ s7 _ H7 x u _ I7' r7 (step x H7 y7)) fun _ s8 ⟨σ8, H8, I8, hw8, q8⟩ => ?_
      refine thnF (pt.run _ s8 σ8 H8 _ I8 q8) fun b s9 ⟨H9, I9, q9⟩ => ?_
      -- the turn's end, from any slots that know what the block knew at its start
      have fin : ∀ {σ9 : St} {s' : Shared} {H' : Hp}, Inv (X.blk s3 H3 scope ce fp) ([] ++ pinsAt fp s7.heap) σ9 H' s' → (wipe σ (own.map (·.2))).length = σ9.length → (∀ (j : Nat) v, (wipe σ (own.map (·.2)))[j]? = some (some v) → σ9[j]? = some (some v)) → Nx H' →
          ∃ m, m < n ∧ ∃ i H', Inv (X.blk s3 H3 scope ce fp) [] (wipe σ (own.map (·.2))) H' s' ∧ tn i s'.heap ∧ (∀ b ∈ fp, H' b = none) ∧ W i m H' := fun {σ9 s' H'} I' hl hk nx => by
        obtain ⟨m', hm, w'⟩ := hNx H' nx
        have pin' : ∀ b ∈ fp, ∀ o, s7.heap.get? b = some o → s'.heap.get? b = some o ∧ H' b = none := fun b hb o e =>
          let z := I'.pin (b, o) (List.mem_append_right _ (List.mem_append_right _ (mem_pinsAt hb e)))
          ⟨z.1, z.2.1⟩
        refine ⟨m', hm, i + 1, H', (I'.unpinned (pins := [])).weak hl hk, T.keep _ _ _ st7 fun b hb o e => (pin' b hb o e).1, fun b hb => ?_, w'⟩
        obtain ⟨o, e, _⟩ := T.obj _ _ st7 b hb
        exact (pin' b hb o e).2
      have hl8 : (wipe σ (own.map (·.2))).length = σ8.length := by rw [← hw8, wipe_length]
      have hk8 : ∀ (j : Nat) v, (wipe σ (own.map (·.2)))[j]? = some (some v) → σ8[j]? = some (some v) := fun j v e => by
        rw [← hw8] at e
        exact (wipe_some e).1
      have hk9 : ∀ (j : Nat) v, (wipe σ (own.map (·.2)))[j]? = some (some v) → (wipe σ8 vs1)[j]? = some (some v) := fun j v e => by
        rw [← hw8] at e
        obtain ⟨e1, e2⟩ := wipe_some e
        rw [wipe_out fun z => e2 (hv j z)]
        exact e1
      cases b with
      | false =>
        simp only [Bool.false_eq_true, if_false] at q9 ⊢
        exact fin I9 hl8 hk8 q9
      | true =>
        simp only [if_true] at q9 ⊢
        refine thnF (pi1.run _ s9 σ8 H9 _ I9 q9) fun xv s10 hx => thnF hx fun itv s11 h11 => ?_
        obtain ⟨it1, fp1, tn1, J1, H11, e1, I11, T1, st11, f11, W1, ⟨m1, w1⟩, turn1⟩ := h11
        subst e1
        -- the inner loop
        have stat1 : ∀ {H' : Hp}, (∀ b ∈ fp1, H' b = none) → ∀ b ∈ fp1, FpOk (X.blk s3 H3 scope ce fp) ([] ++ pinsAt fp s7.heap) H' b := fun hn b hb => ⟨hn b hb, (f11 b hb).2⟩
        have loop1 : codeAny (model X.prog X.w) X.A (.compLoop (.DictComp kx vx [⟨tg, iter, ifs, 0⟩, ⟨tg1, iter1, ifs1, 0⟩] scope pos) 1 (.ref it1) (.ref D) ce)
            (fun r s' => match r with
              | .ok _ => ∃ m, m < n ∧ ∃ i H', Inv (X.blk s3 H3 scope ce fp) [] (wipe σ (own.map (·.2))) H' s' ∧ tn i s'.heap ∧ (∀ b ∈ fp, H' b = none) ∧ W i m H'
              | .error _ => False) s11 := by
          refine compLoop2_inD (fun k s' => ∃ j H', Inv (X.blk s3 H3 scope ce fp) ([] ++ pinsAt fp s7.heap) (wipe σ8 vs1) H' s' ∧ tn1 j s'.heap ∧ (∀ b ∈ fp1, H' b = none) ∧ W1 j k H') ?_ m1 ⟨0, H11, I11.weak (wipe_length _ _) (fun j v e => (wipe_some e).1), st11, fun b hb => (f11 b hb).1, w1⟩
          rintro k s12 ⟨j, H12, I12, st12, n12, w12⟩
          rcases turn1 j k H12 w12 with ⟨stop1, nx1⟩ | ⟨go1, Nx1, hNx1, step1⟩
          · refine thnF (T1.done (X.blk s3 H3 scope ce fp) rfl rfl rfl hc j _ s12 (wipe σ8 vs1) H12 (fun _ _ => False) I12 (stat1 n12) st12 stop1) fun r s13 ⟨hr, I13⟩ => ?_
            subst hr
            exact fin I13 (hl8.trans (wipe_length σ8 vs1).symm) hk9 nx1
          · refine thnF (T1.item (X.blk s3 H3 scope ce fp) rfl rfl rfl hc j _ s12 (wipe σ8 vs1) H12 (fun _ _ => False) I12 (stat1 n12) st12 go1) fun r s13 ⟨u1, hr, h13⟩ => ?_
            subst hr
            refine thnF h13 fun _ s14 ⟨x1, H14, I14, r14, y14, st14, n14⟩ => ?_
            have I14' := I14.pinned (stat1 n14) (T1.obj _ _ st14)
            refine thnF (pg1.run _ s14 (wipe σ8 vs1) H14 x1 u1 _ I14' r14 (step1 x1 H14 y14)) fun _ s15 ⟨σ15, H15, I15, hw15, q15⟩ => ?_
            refine thnF (pt1.run _ s15 σ15 H15 _ I15 q15) fun b1 s16 ⟨H16, I16, q16⟩ => ?_
            have fin1 : ∀ {s' : Shared} {H' : Hp}, Inv (X.blk s3 H3 scope ce fp) (([] ++ pinsAt fp s7.heap) ++ pinsAt fp1 s14.heap) σ15 H' s' → Nx1 H' → ∃ m, m < k ∧ ∃ j H', Inv (X.blk s3 H3 scope ce fp) ([] ++ pinsAt fp s7.heap) (wipe σ8 vs1) H' s' ∧ tn1 j s'.heap ∧ (∀ b ∈ fp1, H' b = none) ∧ W1 j m H' := fun {s' H'} I' nx => by
              obtain ⟨m', hm, w'⟩ := hNx1 H' nx
              have pin' : ∀ b ∈ fp1, ∀ o, s14.heap.get? b = some o → s'.heap.get? b = some o ∧ H' b = none := fun b hb o e =>
                let z := I'.pin (b, o) (List.mem_append_right _ (List.mem_append_right _ (mem_pinsAt hb e)))
                ⟨z.1, z.2.1⟩
              refine ⟨m', hm, j + 1, H', I'.unpinned.weak (by rw [← hw15, wipe_length]) (fun j v e => by rw [← hw15] at e; exact (wipe_some e).1), T1.keep _ _ _ st14 fun b hb o e => (pin' b hb o e).1, fun b hb => ?_, w'⟩
              obtain ⟨o, e, _⟩ := T1.obj _ _ st14 b hb
              exact (pin' b hb o e).2
            cases b1 with
            | false =>
              simp only [Bool.false_eq_true, if_false] at q16 ⊢
              exact fin1 I16 q16
            | true =>
              simp only [if_true] at q16 ⊢
              refine thnF (pk.run _ s16 σ15 H16 _ I16 q16) fun z s17 ⟨yk, H17, I17, r17, q17⟩ => ?_
              refine thnF (pe.run _ s17 σ15 H17 _ I17 q17) fun z2 s18 ⟨yv, H18, I18, r18, H19, dp, nx⟩ => ?_
              exact d_dictSetP (X := X.blk s3 H3 scope ce fp) hu I18 dp r17 r18 fun s19 I19 => fin1 I19 nx
        exact compStart1_okD loop1 (T1.self X.A 0 _ _ _ st11 loop1)
  exact codeAny_compStart_dict loop (T.self X.A 0 _ _ _ st4 loop)
/-- as a value -/
theorem pe_dc2 {e0 : HO} (h00 : e0 = .dK [] ∨ e0 = .dT []) (hu : X.A.units + 1 < cLine) {kx vx tg iter tg1 iter1 : Expr} {ifs ifs1 : List Expr} {scope : Scope} {own : List (Str × Nat)} {vs1 : List Nat} {pos : Pos} {wi wi1 : TI} {g g1 : TG} {tt tt1 : TT} {tk tv : TE} (hc : X.calm = true) (hN : X.N.Nodup) (hi : PI X tg iter wi) (ok : BlkOk X.N X.env.scope scope own) (hv : ∀ i ∈ vs1, i ∈ own.map (·.2))
    (hg : ∀ (s : Shared) (H : Hp) (C : Addr) (cl : List (Str × Addr)) (fp : List Addr), PG (X.blk s H scope (compEnvC scope cl C X.env) fp) tg g) (ht : ∀ (s : Shared) (H : Hp) (C : Addr) (cl : List (Str × Addr)) (fp : List Addr), PTs (X.blk s H scope (compEnvC scope cl C X.env) fp) ifs tt)
    (hi1 : ∀ (s : Shared) (H : Hp) (C : Addr) (cl : List (Str × Addr)) (fp : List Addr), PI (X.blk s H scope (compEnvC scope cl C X.env) fp) tg1 iter1 wi1)
    (hg1 : ∀ (s : Shared) (H : Hp) (C : Addr) (cl : List (Str × Addr)) (fp : List Addr), PG (X.blk s H scope (compEnvC scope cl C X.env) fp) tg1 g1) (ht1 : ∀ (s : Shared) (H : Hp) (C : Addr) (cl : List (Str × Addr)) (fp : List Addr), PTs (X.blk s H scope (compEnvC scope cl C X.env) fp) ifs1 tt1)
    (hk : ∀ (s : Shared) (H : Hp) (C : Addr) (cl : List (Str × Addr)) (fp : List Addr), PE (X.blk s H scope (compEnvC scope cl C X.env) fp) kx tk)
    (he : ∀ (s : Shared) (H : Hp) (C : Addr) (cl : List (Str × Addr)) (fp : List Addr), PE (X.blk s H scope (compEnvC scope cl C X.env) fp) vx tv) (hs : ∀ x, foldedSetIterable iter X.env x = pure x := by intro _; rfl) (hs1 : ∀ env x, foldedSetIterable iter1 env x = pure x := by intro _ _; rfl) :
    PE X (.DictComp kx vx [⟨tg, iter, ifs, 0⟩, ⟨tg1, iter1, ifs1, 0⟩] scope pos) (tDc2 e0 wi g tt wi1 g1 tt1 tk tv (own.map (·.2)) vs1) := by
  refine ⟨fun pins s σ H Q I h => ?_⟩
  rw [arm_eval_DictComp]
  refine dc2_core h00 hu hc hN I hi ok hv hg ht hk he hs hi1 hg1 ht1 hs1 h fun D C s' m H' I' q hn f => ⟨m, hn, fun h'' sb => ?_⟩
  obtain ⟨f0, f1, f2, f3, f4, f5⟩ := f
  exact ⟨.ref D, H', I'.turned (t' := s'.toks) (fun b o hb e => (sb.2 b hb).trans e) f0 f1 f3 f4 f5, rfl, q⟩
theorem ps_setDc2 {e0 : HO} (h00 : e0 = .dK [] ∨ e0 = .dT []) (hu : X.A.units + 1 < cLine) {i : Nat} {y : Str} {py : Pos} {kx vx tg iter tg1 iter1 : Expr} {ifs ifs1 : List Expr} {scope : Scope} {own : List (Str × Nat)} {vs1 : List Nat} {pos spos : Pos} {wi wi1 : TI} {g g1 : TG} {tt tt1 : TT} {tk tv : TE} (hc : X.calm = true) (hN : X.N.Nodup) (hy : X.N[i]? = some y) (hyl : X.env.scope.names.lookup y = some .local)
    (hsw : swapsWith (.DictComp kx vx [⟨tg, iter, ifs, 0⟩, ⟨tg1, iter1, ifs1, 0⟩] scope pos) (some (.Name y py)) spos.line X.env = pure true) (hi : PI X tg iter wi) (ok : BlkOk X.N X.env.scope scope own) (hv : ∀ i ∈ vs1, i ∈ own.map (·.2))
    (hg : ∀ (s : Shared) (H : Hp) (C : Addr) (cl : List (Str × Addr)) (fp : List Addr), PG (X.blk s H scope (compEnvC scope cl C X.env) fp) tg g) (ht : ∀ (s : Shared) (H : Hp) (C : Addr) (cl : List (Str × Addr)) (fp : List Addr), PTs (X.blk s H scope (compEnvC scope cl C X.env) fp) ifs tt)
    (hi1 : ∀ (s : Shared) (H : Hp) (C : Addr) (cl : List (Str × Addr)) (fp : List Addr), PI (X.blk s H scope (compEnvC scope cl C X.env) fp) tg1 iter1 wi1)
    (hg1 : ∀ (s : Shared) (H : Hp) (C : Addr) (cl : List (Str × Addr)) (fp : List Addr), PG (X.blk s H scope (compEnvC scope cl C X.env) fp) tg1 g1) (ht1 : ∀ (s : Shared) (H : Hp) (C : Addr) (cl : List (Str × Addr)) (fp : List Addr), PTs (X.blk s H scope (compEnvC scope cl C X.env) fp) ifs1 tt1)
    (hk : ∀ (s : Shared) (H : Hp) (C : Addr) (cl : List (Str × Addr)) (fp : List Addr), PE (X.blk s H scope (compEnvC scope cl C X.env) fp) kx tk)
    (he : ∀ (s : Shared) (H : Hp) (C : Addr) (cl : List (Str × Addr)) (fp : List Addr), PE (X.blk s H scope (compEnvC scope cl C X.env) fp) vx tv) (hs : ∀ x, foldedSetIterable iter X.env x = pure x := by intro _; rfl) (hs1 : ∀ env x, foldedSetIterable iter1 env x = pure x := by intro _ _; rfl) :
    PS X (.Assign [.Name y py] (.DictComp kx vx [⟨tg, iter, ifs, 0⟩, ⟨tg1, iter1, ifs1, 0⟩] scope pos) spos) (tAsg (tDc2 e0 wi g tt wi1 g1 tt1 tk tv (own.map (·.2)) vs1) (gName i)) := by
  refine ⟨fun pins s σ H D I h => ?_⟩
  rw [exec_Assign_Name_used _ _ _ _ hsw]
  refine wpAny_bind (wpAny_standAt (wpAny_bind ?_))
  show wpAny _ X.A (do let _ ← comprehension (.DictComp kx vx [⟨tg, iter, ifs, 0⟩, ⟨tg1, iter1, ifs1, 0⟩] scope pos) scope X.env (firstIterPos [⟨tg, iter, ifs, 0⟩, ⟨tg1, iter1, ifs1, 0⟩] pos) (newDict) false (eval iter X.env) (some (assign (.Name y py) X.env))) _ _ s
  have h : tDc2 e0 wi g tt wi1 g1 tt1 tk tv (own.map (·.2)) vs1 σ H (fun x H1 => gName i x σ H1 D.nx) := h
  refine wpAny_bind (thn (dc2_core h00 hu (Qf := fun _ s' => SP X pins D .next s') hc hN I hi ok hv hg ht hk he hs hi1 hg1 ht1 hs1 h fun L C s' m H' I' q hn f => ?_) fun _ s' hq => wpAny_pure (wpAny_pure hq))
  show wpAny _ _ (assign (.Name y py) X.env (.ref L)) _ _ _
  refine wpAny_assign_Name (store_ok2 (v := V.ref L) I' hN hy (.inl hyl) rfl (fun s2 I2 ⟨a, sb, ha⟩ => ?_) (.inr hyl))
  obtain ⟨f0, f1, f2, f3, f4, f5⟩ := f
  have haC : C ≠ a := by
    rcases ha with z | z
    · rw [z]; exact f1
    · exact fun e => f4 y a z e.symm
  refine ⟨m, hn.sameBut sb haC, fun h3 sb3 => ?_⟩
  exact ⟨_, H', I2.turned (t' := s2.toks) (fun b o hb e => (sb3.2 b hb).trans e) f0 f1 f3 f4 f5, q⟩
end
end L2
end
section
set_option maxHeartbeats 4000000
/-! Turn spots, rows, lots: plain Lean. -/
namespace PF
/-! ### a rising list -/
def below (L : List Rat) (x : Rat) : Nat := (L.filter fun a => decide (a < x)).length
def insQ (L : List Rat) (x : Rat) : List Rat := L.take (below L x) ++ [x] ++ L.drop (below L x)
theorem below_le (L : List Rat) (x : Rat) : below L x ≤ L.length := List.length_filter_le _ _
theorem below_cut {L : List Rat} (hs : L.Pairwise (· < ·)) (x : Rat) : (∀ a ∈ L.take (below L x), a < x) ∧ (∀ a ∈ L.drop (below L x), ¬ a < x) := by
  induction L with
  | nil => simp
  | cons h t ih =>
    obtain ⟨h1, h2⟩ := List.pairwise_cons.mp hs
    obtain ⟨i1, i2⟩ := ih h2
    by_cases c : h < x
    · have e : below (h :: t) x = below t x + 1 := by
        unfold below
        rw [List.filter_cons, if_pos (decide_eq_true c), List.length_cons]
      rw [e, List.take_succ_cons, List.drop_succ_cons]
      refine ⟨fun a ha => ?_, i2⟩
      rcases List.mem_cons.mp ha with rfl | ha
      · exact c
      · exact i1 a ha
    · have all : ∀ a ∈ h :: t, ¬ a < x := fun a ha => by
        rcases List.mem_cons.mp ha with rfl | ha
        · exact c
        · have := h1 a ha
          grind
      have e : below (h :: t) x = 0 := by
        unfold below
        rw [List.length_eq_zero_iff, List.filter_eq_nil_iff]
        exact fun a ha => by simpa using all a ha
      rw [e, List.take_zero, List.drop_zero]
      exact ⟨fun a ha => by simp at ha, all⟩
theorem insQ_mem {L : List Rat} {x y : Rat} : y ∈ insQ L x ↔ y = x ∨ y ∈ L := by
  unfold insQ
  have e : y ∈ L ↔ y ∈ L.take (below L x) ∨ y ∈ L.drop (below L x) := by
    rw [← List.mem_append, List.take_append_drop]
  rw [List.mem_append, List.mem_append, List.mem_singleton, e]
  constructor
  · rintro ((h | h) | h)
    · exact .inr (.inl h)
    · exact .inl h
    · exact .inr (.inr h)
  · rintro (h | h | h)
    · exact .inl (.inr h)
    · exact .inl (.inl h)
    · exact .inr h
theorem insQ_rise {L : List Rat} {x : Rat} (hs : L.Pairwise (· < ·)) (hx : x ∉ L) : (insQ L x).Pairwise (· < ·) := by
  obtain ⟨h1, h2⟩ := below_cut hs x
  have hd : ∀ a ∈ L.drop (below L x), x < a := fun a ha => by
    have q := h2 a ha
    have ne : a ≠ x := fun z => hx (z ▸ List.mem_of_mem_drop ha)
    grind
  unfold insQ
  rw [List.append_assoc]
  refine List.pairwise_append.mpr ⟨hs.sublist (List.take_sublist _ _), List.pairwise_cons.mpr ⟨hd, hs.sublist (List.drop_sublist _ _)⟩, fun a ha b hb => ?_⟩
  have l1 := h1 a ha
  rcases List.mem_cons.mp hb with rfl | hb
  · exact l1
  · have := hd b hb
    grind
theorem insQ_len (L : List Rat) (x : Rat) : (insQ L x).length = L.length + 1 := by
  unfold insQ
  have := below_le L x
  simp
  omega
/-- one rising list by its members -/
theorem rise_ext : ∀ {L M : List Rat}, L.Pairwise (· < ·) → M.Pairwise (· < ·) → (∀ x, x ∈ L ↔ x ∈ M) → L = M
  | [], [], _, _, _ => rfl
  | [], b :: _, _, _, h => absurd ((h b).mpr List.mem_cons_self) (by simp)
  | a :: _, [], _, _, h => absurd ((h a).mp List.mem_cons_self) (by simp)
  | a :: l, b :: m, h1, h2, h => by
    obtain ⟨p1, p2⟩ := List.pairwise_cons.mp h1
    obtain ⟨q1, q2⟩ := List.pairwise_cons.mp h2
    have e : a = b := by
      have ha := (h a).mp List.mem_cons_self
      have hb := (h b).mpr List.mem_cons_self
      rcases List.mem_cons.mp ha with e | ha
      · exact e
      · rcases List.mem_cons.mp hb with e | hb
        · exact e.symm
        · have := q1 a ha
          have := p1 b hb
          grind
    subst e
    congr 1
    refine rise_ext p2 q2 fun x => ⟨fun hx => ?_, fun hx => ?_⟩
    · rcases List.mem_cons.mp ((h x).mp (List.mem_cons_of_mem _ hx)) with e | hx'
      · have := p1 x hx
        rw [e] at this
        exact absurd this Rat.lt_irrefl
      · exact hx'
    · rcases List.mem_cons.mp ((h x).mpr (List.mem_cons_of_mem _ hx)) with e | hx'
      · have := q1 x hx
        rw [e] at this
        exact absurd this Rat.lt_irrefl
      · exact hx'
/-! ### the turn spots -/
def keysP (n p : Nat) : List Ky := (List.range (p + 1)).flatMap fun (l : Nat) => (List.range (n - p)).map fun (r : Nat) => ((l : Int) - 1, (p : Int), (p : Int) + 1 + (r : Int))
def keys (n : Nat) : List Ky := (List.range n).flatMap (keysP n)
theorem keys_good {n : Nat} {k : Ky} : k ∈ keys n ↔ GoodKey n k := by
  unfold keys keysP GoodKey
  constructor
  · intro h
    obtain ⟨p, hp, h⟩ := List.mem_flatMap.mp h
    obtain ⟨l, hl, h⟩ := List.mem_flatMap.mp h
    obtain ⟨r, hr, rfl⟩ := List.mem_map.mp h
    rw [List.mem_range] at hp hl hr
    dsimp only
    omega
  · intro h
    obtain ⟨k1, k2, k3⟩ := k
    dsimp only at h
    refine List.mem_flatMap.mpr ⟨k2.toNat, List.mem_range.mpr (by omega), List.mem_flatMap.mpr ⟨(k1 + 1).toNat, List.mem_range.mpr (by omega), List.mem_map.mpr ⟨(k3 - k2 - 1).toNat, List.mem_range.mpr (by omega), ?_⟩⟩⟩
    have e1 : (((k1 + 1).toNat : Nat) : Int) - 1 = k1 := by omega
    have e2 : ((k2.toNat : Nat) : Int) = k2 := by omega
    have e3 : k2 + 1 + (((k3 - k2 - 1).toNat : Nat) : Int) = k3 := by omega
    rw [e2, e1, e3]
def tallOf (W : Wd) (much : Rat) (k : Ky) : Rat := spare W k / much
def turn2 (W : Wd) (much : Rat) (k : Ky) : List Rat :=
  if ¬ tallOf W much k < 0 ∧ ¬ 1 < tallOf W much k then
    [(W.place k.1 : Rat) + tallOf W much k * ((W.place k.2.1 : Rat) - (W.place k.1 : Rat)), (W.place k.2.2 : Rat) - tallOf W much k * ((W.place k.2.2 : Rat) - (W.place k.2.1 : Rat))]
  else []
def placesL (W : Wd) : List Rat := (restsL W.ss.length (full W.ss.length)).map fun r => (W.place r : Rat)
def turnsL (W : Wd) (much : Rat) : List Rat := placesL W ++ (keys W.ss.length).flatMap (turn2 W much)
def TurnsAre (W : Wd) (much : Rat) (R : List Rat) : Prop := R.Pairwise (· < ·) ∧ ∀ x, x ∈ R ↔ x ∈ turnsL W much
theorem tall_bd {W : Wd} (G : GoodW W) {much : Rat} (hb : Bd 430 much) (h0 : 0 < much) {k : Ky} (g : GoodKey W.ss.length k) : Bd 2211 (tallOf W much k) := ((spare_bd G g).div hb h0).mono (by omega)
theorem place10 {W : Wd} (G : GoodW W) {r : Int} (h1 : -1 ≤ r) (h2 : r ≤ (W.ss.length : Int)) : Bd 10 (W.place r : Rat) := by
  have a := place_bd G.p h1 h2
  have := G.p.hi
  exact bd10 a.1 (by unfold Wd.place; omega)
theorem turn_bd {W : Wd} (G : GoodW W) {much : Rat} (hb : Bd 430 much) (h0 : 0 < much) : ∀ x ∈ turnsL W much, Bd 2243 x := fun x hx => by
  rcases List.mem_append.mp hx with hx | hx
  · obtain ⟨r, hr, rfl⟩ := List.mem_map.mp hx
    unfold restsL at hr
    have w : -1 ≤ r ∧ r ≤ (W.ss.length : Int) := by
      rcases List.mem_cons.mp hr with rfl | hr
      · omega
      · rcases List.mem_append.mp hr with hr | hr
        · have := (full_good W.ss.length).within r hr
          omega
        · rw [List.mem_singleton.mp hr]
          omega
    exact (place10 G w.1 w.2).mono (by omega)
  · obtain ⟨k, hk, hx⟩ := List.mem_flatMap.mp hx
    have g := keys_good.mp hk
    have ht := tall_bd G hb h0 g
    obtain ⟨g1, g2, g3, g4, g5⟩ := g
    have b1 := place10 G (r := k.1) g1 (by omega)
    have b2 := place10 G (r := k.2.1) (by omega) (by omega)
    have b3 := place10 G (r := k.2.2) (by omega) g4
    unfold turn2 at hx
    split at hx
    · rcases List.mem_cons.mp hx with rfl | hx
      · exact (b1.add (ht.mul (b2.sub b1))).mono (by omega)
      · rw [List.mem_singleton.mp hx]
        exact (b3.sub (ht.mul (b3.sub b2))).mono (by omega)
    · simp at hx
/-! ### the keys as the loops pass them -/
def kp3 (p l r : Nat) : List Ky := (List.range r).map fun (r : Nat) => ((l : Int) - 1, (p : Int), (p : Int) + 1 + (r : Int))
def kp2 (n p l : Nat) : List Ky := (List.range l).flatMap fun (l : Nat) => kp3 p l (n - p)
def kp1 (n p : Nat) : List Ky := (List.range p).flatMap fun (p : Nat) => kp2 n p (p + 1)
theorem kp1_all (n : Nat) : kp1 n n = keys n := rfl
theorem kp1_succ (n p : Nat) : kp1 n (p + 1) = kp1 n p ++ kp2 n p (p + 1) := by
  unfold kp1
  rw [List.range_succ, List.flatMap_append]
  simp
theorem kp2_succ (n p l : Nat) : kp2 n p (l + 1) = kp2 n p l ++ kp3 p l (n - p) := by
  unfold kp2
  rw [List.range_succ, List.flatMap_append]
  simp
theorem kp3_succ (p l r : Nat) : kp3 p l (r + 1) = kp3 p l r ++ [((l : Int) - 1, (p : Int), (p : Int) + 1 + (r : Int))] := by
  unfold kp3
  rw [List.range_succ, List.map_append]
  rfl
theorem fm_len {α β : Type} {f : α → List β} {b : Nat} : ∀ {xs : List α}, (∀ x ∈ xs, (f x).length ≤ b) → (xs.flatMap f).length ≤ xs.length * b
  | [], _ => by simp
  | x :: xs, h => by
    rw [List.flatMap_cons, List.length_append, List.length_cons, Nat.succ_mul]
    have h1 := h x List.mem_cons_self
    have h2 := fm_len (f := f) (xs := xs) fun y hy => h y (List.mem_cons_of_mem _ hy)
    omega
theorem kp_len {n p l r : Nat} (hn : n ≤ 12) (hp : p ≤ n) (hl : l ≤ 13) (hr : r ≤ 12) : (kp1 n p ++ (kp2 n p l ++ kp3 p l r)).length ≤ 2500 := by
  have a3 : ∀ p l r, (kp3 p l r).length = r := fun p l r => by
    unfold kp3
    rw [List.length_map, List.length_range]
  have a2 : ∀ p l, l ≤ 13 → (kp2 n p l).length ≤ 156 := fun p l hl => by
    unfold kp2
    have := fm_len (f := fun (l : Nat) => kp3 p l (n - p)) (b := 12) (xs := List.range l) fun x _ => by rw [a3]; omega
    rw [List.length_range] at this
    omega
  have a1 : (kp1 n p).length ≤ p * 156 := by
    unfold kp1
    have := fm_len (f := fun (p : Nat) => kp2 n p (p + 1)) (b := 156) (xs := List.range p) fun x hx => by
      rw [List.mem_range] at hx
      exact a2 x (x + 1) (by omega)
    rw [List.length_range] at this
    exact this
  have := a2 p l hl
  have := a3 p l r
  rw [List.length_append, List.length_append]
  omega
theorem turn2_len (W : Wd) (much : Rat) (k : Ky) : (turn2 W much k).length ≤ 2 := by
  unfold turn2
  split
  · simp
  · simp
/-! ### the rows of the table -/
abbrev Row := Rat × List Int × List Int
def amid (a b : Rat) : Rat := (a + b) / 2
def lastB (acc : List Row) : List Int := (acc.getLast?.map fun r => r.2.2).getD []
def rowAdd (acc : List Row) (r : Row) : List Row := if acc = [] ∨ ¬ (r.2.1 = lastB acc ∧ r.2.2 = lastB acc) then acc ++ [r] else acc
def rowAt (LO : Rat → List Int) (p : Rat × Rat) : Row := (p.1, LO p.1, LO (amid p.1 p.2))
def rowsOf (LO : Rat → List Int) (sp : List Rat) : List Row := ((sp.zip (sp.drop 1)).map (rowAt LO)).foldl rowAdd []
def endOf (sp : List Rat) : Rat := sp.getLast?.getD 0
theorem rowAdd_len (acc : List Row) (r : Row) : (rowAdd acc r).length ≤ acc.length + 1 := by
  unfold rowAdd
  split
  · simp
  · omega
theorem amid_eq (a b : Rat) : Rat.divInt (a.num * b.den + b.num * a.den) (2 * a.den * b.den) = amid a b := by
  unfold amid
  rw [← plus_eq, Int.mul_assoc, Rat.div_def]
  have e : (2 : Rat)⁻¹ = Rat.divInt 1 2 := by decide +kernel
  rw [e, Rat.divInt_mul_divInt, Int.mul_one, Int.mul_comm 2]
theorem amid_bd {a b : Rat} {n : Nat} (ha : Bd n a) (hb : Bd n b) : Bd (n + n + 1 + 2) (amid a b) := (ha.add hb).div (m := 2) ⟨by decide, by decide⟩ (by decide)
theorem turns_ne {W : Wd} {much : Rat} {R : List Rat} (h : TurnsAre W much R) : R ≠ [] := by
  intro e
  have hm : (W.place (-1) : Rat) ∈ R := (h.2 _).mpr (List.mem_append_left _ (List.mem_map.mpr ⟨-1, by unfold restsL; exact List.mem_cons_self, rfl⟩))
  rw [e] at hm
  simp at hm
end PF
end
section
set_option maxHeartbeats 4000000
namespace PF
open PySem L2
theorem hru65 {A : Around} {k : Nat} (hr : Room k A) : A.units + 65 < cLine := by
  have := hr.un
  omega
section
variable {X : Cx} (K : PySem.W.Frag)
theorem oInD (hu : X.A.units + 65 < cLine) (h : X.K = K := by rfl) : OpR X (compareOp .In) (rInD K) := h ▸ op_inD hu
theorem oNotInD (hu : X.A.units + 65 < cLine) (h : X.K = K := by rfl) : OpR X (compareOp .NotIn) (rNotInD K) := h ▸ op_notInD hu
end
/-! ### dicts whose keys are tuples, as functions on a list of things -/
def DMap {α β : Type} (kf : α → List Key) (R : Hp → V → β → Prop) (H : Hp) (d : Addr) (as : List α) (f : α → β) : Prop :=
  ∃ kvs : List (List Key × V), H d = some (.dT kvs) ∧ (kvs.map (·.1)).Nodup ∧ (∀ e ∈ kvs, ∃ a ∈ as, e.1 = kf a ∧ R H e.2 (f a)) ∧ (∀ a ∈ as, ∃ v, valV kvs (kf a) = some v ∧ R H v (f a)) ∧ kvs.length ≤ as.length
section
variable {α β : Type} {kf : α → List Key} {R : Hp → V → β → Prop} {H H' : Hp} {d b : Addr} {as : List α} {f : α → β} {a : α} {v : V}
theorem DMap.nil (h : H d = some (.dT [])) : DMap kf R H d [] f := ⟨[], h, List.nodup_nil, fun e he => by simp at he, fun a ha => by simp at ha, Nat.le_refl _⟩
theorem DMap.dT (h : DMap kf R H d as f) : ∃ kvs, H d = some (.dT kvs) := by
  obtain ⟨kvs, h1, _⟩ := h
  exact ⟨kvs, h1⟩
theorem DMap.mono (mono : ∀ H H' v a, Tu H H' → R H v a → R H' v a) (u : Tu H H') (e : H' d = H d) (h : DMap kf R H d as f) : DMap kf R H' d as f := by
  obtain ⟨kvs, h1, h2, h3, h4, h5⟩ := h
  exact ⟨kvs, e.trans h1, h2, fun e he => let ⟨a, x, y, z⟩ := h3 e he; ⟨a, x, y, mono _ _ _ _ u z⟩, fun a ha => let ⟨v, x, y⟩ := h4 a ha; ⟨v, x, mono _ _ _ _ u y⟩, h5⟩
theorem DMap.same (mono : ∀ H H' v a, Tu H H' → R H v a → R H' v a) (s : Same H H') (h : DMap kf R H d as f) : DMap kf R H' d as f := by
  obtain ⟨kvs, h1⟩ := h.dT
  exact h.mono mono s.tu ((s _ _ h1).trans h1.symm)
theorem putK_keys {κ : Type} [DecidableEq κ] (kvs : List (κ × V)) (k : κ) (v : V) : (∀ e ∈ putK kvs k v, e = (k, v) ∨ e ∈ kvs) ∧ ((kvs.map (·.1)).Nodup → ((putK kvs k v).map (·.1)).Nodup) := by
  cases hv : valV kvs k with
  | none =>
    refine ⟨fun e he => ?_, fun nd => nd_putK v nd hv⟩
    rw [putK_new v hv] at he
    rcases List.mem_append.mp he with he | he
    · exact .inr he
    · exact .inl (List.mem_singleton.mp he)
  | some x =>
    have a : (kvs.any fun kv => decide (kv.1 = k)) = true := by
      rw [valV_any, hv]
      rfl
    refine ⟨fun e he => ?_, fun nd => ?_⟩
    · unfold putK at he
      rw [if_pos a] at he
      obtain ⟨kv, hkv, rfl⟩ := List.mem_map.mp he
      split
      · rename_i c
        exact .inl (by rw [c])
      · exact .inr hkv
    · unfold putK
      rw [if_pos a, List.map_map]
      have : ((fun x : κ × V => x.1) ∘ fun kv => if kv.1 = k then (kv.1, v) else kv) = fun kv => kv.1 := by
        funext kv
        simp only [Function.comp_apply]
        split <;> rfl
      rw [this]
      exact nd
theorem putK_len2 {κ : Type} [DecidableEq κ] (kvs : List (κ × V)) (k : κ) (v : V) : (putK kvs k v).length ≤ kvs.length + 1 := length_putK kvs k v
theorem DMap.put (inj : ∀ x y, kf x = kf y → x = y) (mono : ∀ H H' v a, Tu H H' → R H v a → R H' v a) (h : DMap kf R H d as f) (eb : H b = some (.tup ((kf a).map kV))) (rv : R H v (f a)) (hl : as.length < 90000) :
    ∃ kvs', DPut H d (.ref b) v (upd H d (.dT kvs')) ∧ DMap kf R (upd H d (.dT kvs')) d (as ++ [a]) f := by
  obtain ⟨kvs, h1, h2, h3, h4, h5⟩ := h
  have tu : Tu H (upd H d (.dT (putK kvs (kf a) v))) := Tu.upd h1 trivial
  obtain ⟨k1, k2⟩ := putK_keys kvs (kf a) v
  refine ⟨putK kvs (kf a) v, DPut.t h1 eb (szl (by omega)), putK kvs (kf a) v, upd_same, k2 h2, fun e he => ?_, fun x hx => ?_, ?_⟩
  · rcases k1 e he with rfl | he
    · exact ⟨a, List.mem_append_right _ List.mem_cons_self, rfl, mono _ _ _ _ tu rv⟩
    · obtain ⟨x, x1, x2, x3⟩ := h3 e he
      exact ⟨x, List.mem_append_left _ x1, x2, mono _ _ _ _ tu x3⟩
  · rw [valV_put]
    by_cases c : kf x = kf a
    · rw [if_pos c]
      have := inj _ _ c
      subst this
      exact ⟨v, rfl, mono _ _ _ _ tu rv⟩
    · rw [if_neg c]
      rcases List.mem_append.mp hx with hx | hx
      · obtain ⟨v', x1, x2⟩ := h4 x hx
        exact ⟨v', x1, mono _ _ _ _ tu x2⟩
      · rw [List.mem_singleton.mp hx] at c
        exact absurd rfl c
  · have := length_putK kvs (kf a) v
    rw [List.length_append, List.length_singleton]
    omega
theorem DMap.get (h : DMap kf R H d as f) (ha : a ∈ as) (eb : H b = some (.tup ((kf a).map kV))) : ∃ v, DGet H d (.ref b) (some v) ∧ R H v (f a) := by
  obtain ⟨kvs, h1, h2, h3, h4, h5⟩ := h
  obtain ⟨v, x1, x2⟩ := h4 a ha
  have g := DGet.t h1 eb
  rw [x1] at g
  exact ⟨v, g, x2⟩
end
theorem paired_get2 {α β : Type} {F : α → β → Prop} {xs : List α} {ys : List β} (h : Paired F xs ys) : ∀ {i : Nat} {y : β}, ys[i]? = some y → ∃ x, xs[i]? = some x ∧ F x y := by
  induction h with
  | nil => intro i y e; simp at e
  | cons r t ih =>
    intro i y e
    cases i with
    | zero => exact ⟨_, rfl, by simp at e; rw [← e]; exact r⟩
    | succ i => exact ih (by simpa using e)
/-- the keys of such a dict, in their order -/
theorem DMap.keys {α β : Type} {kf : α → List Key} {R : Hp → V → β → Prop} {H : Hp} {d : Addr} {as : List α} {f : α → β} (inj : ∀ x y, kf x = kf y → x = y) (h : DMap kf R H d as f) :
    ∃ (kvs : List (List Key × V)) (qs : List α), H d = some (.dT kvs) ∧ kvs.map (·.1) = qs.map kf ∧ qs.Nodup ∧ (∀ x, x ∈ qs ↔ x ∈ as) ∧ qs.length ≤ as.length ∧ Paired (fun (e : List Key × V) a => e.1 = kf a ∧ R H e.2 (f a)) kvs qs := by
  obtain ⟨kvs, h1, h2, h3, h4, h5⟩ := h
  have key : ∀ l : List (List Key × V), (∀ e ∈ l, ∃ a ∈ as, e.1 = kf a ∧ R H e.2 (f a)) → ∃ qs : List α, l.map (·.1) = qs.map kf ∧ (∀ q ∈ qs, q ∈ as) ∧ Paired (fun (e : List Key × V) a => e.1 = kf a ∧ R H e.2 (f a)) l qs := by
    intro l
    induction l with
    | nil => intro _; exact ⟨[], rfl, fun q hq => by simp at hq, .nil⟩
    | cons e r ih =>
      intro hl
      obtain ⟨a, ha, ea, er⟩ := hl e List.mem_cons_self
      obtain ⟨qs, q1, q2, q3⟩ := ih fun x hx => hl x (List.mem_cons_of_mem _ hx)
      refine ⟨a :: qs, by rw [List.map_cons, List.map_cons, ea, q1], fun q hq => ?_, .cons ⟨ea, er⟩ q3⟩
      rcases List.mem_cons.mp hq with rfl | hq
      · exact ha
      · exact q2 q hq
  obtain ⟨qs, q1, q2, q3⟩ := key kvs h3
  have nd : qs.Nodup := by
    rw [q1] at h2
    unfold List.Nodup at h2 ⊢
    rw [List.pairwise_map] at h2
    exact h2.imp fun hne e => hne (by rw [e])
  refine ⟨kvs, qs, h1, q1, nd, fun x => ⟨q2 x, fun hx => ?_⟩, ?_, q3⟩
  · obtain ⟨v, hv, _⟩ := h4 x hx
    have hm : kf x ∈ kvs.map (·.1) := by
      unfold valV at hv
      obtain ⟨e, he, _⟩ := Option.map_eq_some_iff.mp hv
      exact List.mem_map.mpr ⟨e, List.mem_of_find?_eq_some he, of_decide_eq_true (List.find?_some (p := fun kv : List Key × V => decide (kv.1 = kf x)) he)⟩
    rw [q1] at hm
    obtain ⟨y, hy, ey⟩ := List.mem_map.mp hm
    rw [← inj _ _ ey]
    exact hy
  · have := Paired.length q3
    omega
/-! ### keys -/
def frK (q : Rat) : List Key := [.inl q.num, .inl (q.den : Int)]
theorem frK_V (q : Rat) : (frK q).map kV = [.int q.num, .int (q.den : Int)] := rfl
theorem frK_inj (a b : Rat) (h : frK a = frK b) : a = b := by
  unfold frK at h
  simp at h
  exact (eq_iff a b).mp ⟨h.1, by omega⟩
def lotK (L : List Int) : List Key := L.map Sum.inl
theorem lotK_V (L : List Int) : (lotK L).map kV = L.map V.int := by
  unfold lotK
  rw [List.map_map]
  rfl
theorem lotK_inj (a b : List Int) (h : lotK a = lotK b) : a = b := List.map_inj_right (fun x y h => by cases h; rfl) |>.mp h
def RTrue : Hp → V → Unit → Prop := fun _ v _ => v = .bl true
theorem RTrue_mono : ∀ H H' v a, Tu H H' → RTrue H v a → RTrue H' v a := fun _ _ _ _ _ h => h
theorem walk_rg0 {n : Nat} : L2.Walk (Itr 0 n) n (fun _ => True) (YFn fun i => .int (i : Nat)) :=
  walk_range.mono (fun _ h => h) fun i H x H' _ _ y => ⟨y.1, by rw [y.2]; show V.int (0 + (i : Int)) = V.int (i : Int); rw [Int.zero_add]⟩
/-! ### a dict comprehension over a walk -/
section
variable {J : It} {n : Nat} {G : Hp → Prop} {Y : Nat → Hp → V → Hp → Prop} {g : TG} {tt : TT} {tk tv : TE} {vs : List Nat} {σ : St} {H1 : Hp} {D : Addr} {Qd : Hp → Prop} {e0 : HO}
theorem dc_it (w : L2.Walk J n G Y) (Pv : Nat → Hp → Prop) (h0 : Pv 0 (upd H1 D e0)) (hG : ∀ i H, i ≤ n → Pv i H → G H)
    (hs : ∀ i x H H', i < n → Pv i H → Y i H x H' → g x (wipe σ vs) H' fun σ2 H2 => wipe σ2 vs = wipe σ vs ∧ tt σ2 H2 fun b H3 =>
      if b = true then tk σ2 H3 fun y H4 => tv σ2 H4 fun z H5 => ∃ H6, DPut H5 D y z H6 ∧ Pv (i + 1) H6 else Pv (i + 1) H3) (hd : ∀ H, Pv n H → Qd H) :
    ∃ W : Nat → Nat → Hp → Prop, (∃ m, W 0 m (upd H1 D e0)) ∧ ∀ i m H, W i m H →
      (J.stop i H ∧ Qd H) ∨ (J.go i H ∧ ∃ Nx : Hp → Prop, (∀ H', Nx H' → ∃ m', m' < m ∧ W (i + 1) m' H') ∧ ∀ x H', J.yld i H x H' → g x (wipe σ vs) H' fun σ2 H2 => wipe σ2 vs = wipe σ vs ∧ tt σ2 H2 fun b H3 =>
        if b = true then tk σ2 H3 fun y H4 => tv σ2 H4 fun z H5 => ∃ H6, DPut H5 D y z H6 ∧ Nx H6 else Nx H3) := by
  refine ⟨fun i m H => m = n - i ∧ i ≤ n ∧ Pv i H, ⟨n, by simp, Nat.zero_le _, h0⟩, ?_⟩
  rintro i m H ⟨rfl, hi, p⟩
  have q := hG i H hi p
  by_cases hlt : i < n
  · exact .inr ⟨w.goes i H hlt q, Pv (i + 1), fun H' p' => ⟨n - (i + 1), by omega, rfl, hlt, p'⟩, fun x H' y => hs i x H H' hlt p (w.yields i H x H' hlt q y)⟩
  · have e : i = n := by omega
    subst e
    exact .inl ⟨w.stops H q, hd H p⟩
/-- the second clause's own loop -/
theorem in_it {Nx : Hp → Prop} {H4 : Hp} {vs1 : List Nat} (w : L2.Walk J n G Y) (Pv : Nat → Hp → Prop) (h0 : Pv 0 H4) (hG : ∀ i H, i ≤ n → Pv i H → G H)
    (hs : ∀ i x H H', i < n → Pv i H → Y i H x H' → g x (wipe σ vs1) H' fun σ2 H2 => wipe σ2 vs1 = wipe σ vs1 ∧ tt σ2 H2 fun b H3 =>
      if b = true then tk σ2 H3 fun y H4 => tv σ2 H4 fun z H5 => ∃ H6, DPut H5 D y z H6 ∧ Pv (i + 1) H6 else Pv (i + 1) H3) (hd : ∀ H, Pv n H → Nx H) :
    ∃ W : Nat → Nat → Hp → Prop, (∃ m, W 0 m H4) ∧ ∀ i m H, W i m H →
      (J.stop i H ∧ Nx H) ∨ (J.go i H ∧ ∃ Nx1 : Hp → Prop, (∀ H', Nx1 H' → ∃ m', m' < m ∧ W (i + 1) m' H') ∧ ∀ x H', J.yld i H x H' → g x (wipe σ vs1) H' fun σ2 H2 => wipe σ2 vs1 = wipe σ vs1 ∧ tt σ2 H2 fun b H3 =>
        if b = true then tk σ2 H3 fun y H4 => tv σ2 H4 fun z H5 => ∃ H6, DPut H5 D y z H6 ∧ Nx1 H6 else Nx1 H3) := by
  refine ⟨fun i m H => m = n - i ∧ i ≤ n ∧ Pv i H, ⟨n, by simp, Nat.zero_le _, h0⟩, ?_⟩
  rintro i m H ⟨rfl, hi, p⟩
  have q := hG i H hi p
  by_cases hlt : i < n
  · exact .inr ⟨w.goes i H hlt q, Pv (i + 1), fun H' p' => ⟨n - (i + 1), by omega, rfl, hlt, p'⟩, fun x H' y => hs i x H H' hlt p (w.yields i H x H' hlt q y)⟩
  · have e : i = n := by omega
    subst e
    exact .inl ⟨w.stops H q, hd H p⟩
end
/-- any block over a walk -/
theorem gen_it {J : It} {n : Nat} {G : Hp → Prop} {Y : Nat → Hp → V → Hp → Prop} {H0 : Hp} {Qd : Hp → Prop} {B : V → Hp → (Hp → Prop) → Prop} (w : L2.Walk J n G Y) (Pv : Nat → Hp → Prop) (h0 : Pv 0 H0) (hG : ∀ i H, i ≤ n → Pv i H → G H)
    (hs : ∀ i x H H', i < n → Pv i H → Y i H x H' → B x H' (Pv (i + 1))) (hd : ∀ H, Pv n H → Qd H) :
    ∃ W : Nat → Nat → Hp → Prop, (∃ m, W 0 m H0) ∧ ∀ i m H, W i m H →
      (J.stop i H ∧ Qd H) ∨ (J.go i H ∧ ∃ Nx : Hp → Prop, (∀ H', Nx H' → ∃ m', m' < m ∧ W (i + 1) m' H') ∧ ∀ x H', J.yld i H x H' → B x H' Nx) := by
  refine ⟨fun i m H => m = n - i ∧ i ≤ n ∧ Pv i H, ⟨n, by simp, Nat.zero_le _, h0⟩, ?_⟩
  rintro i m H ⟨rfl, hi, p⟩
  have q := hG i H hi p
  by_cases hlt : i < n
  · exact .inr ⟨w.goes i H hlt q, Pv (i + 1), fun H' p' => ⟨n - (i + 1), by omega, rfl, hlt, p'⟩, fun x H' y => hs i x H H' hlt p (w.yields i H x H' hlt q y)⟩
  · have e : i = n := by omega
    subst e
    exact .inl ⟨w.stops H q, hd H p⟩
end PF
end
section
set_option maxHeartbeats 4000000
set_option exponentiation.threshold 20000
namespace PF
open PySem L2
def spRising (K : PySem.W.Frag) : Sp := fun vs H Q _ => ∃ (l : Addr) (xs : List V) (qs : List Rat) (b : Nat), vs = [.ref l] ∧ H l = some (.lst xs) ∧ Paired (Fr K H) xs qs ∧ (∀ q ∈ qs, Bd b q) ∧ b ≤ 4400 ∧ qs.Nodup ∧ qs.length ≤ 20000 ∧
  ∀ (H' : Hp) (p : Addr) (ys : List V) (R : List Rat), Same H H' → H' p = some (.lst ys) → Paired (Fr K H') ys R → R.Pairwise (· < ·) → (∀ x, x ∈ R ↔ x ∈ qs) → R.length = qs.length → Q (.ref p) H'
theorem rests_in {n : Nat} {r : Int} (h : r ∈ restsL n (full n)) : -1 ≤ r ∧ r ≤ (n : Int) := by
  unfold restsL at h
  rcases List.mem_cons.mp h with rfl | h
  · omega
  · rcases List.mem_append.mp h with h | h
    · have := (full_good n).within r h
      omega
    · rw [List.mem_singleton.mp h]
      omega
theorem DMap.sx {α β : Type} {kf : α → List Key} {R : Hp → V → β → Prop} {H H' : Hp} {d dk : Addr} {as : List α} {f : α → β} (mono : ∀ H H' v a, Tu H H' → R H v a → R H' v a) (s : SX dk H H') (n : d ≠ dk) (h : DMap kf R H d as f) : DMap kf R H' d as f := by
  obtain ⟨kvs, h1⟩ := h.dT
  exact h.mono mono s.tu ((s.keep _ _ n h1).trans h1.symm)
/-- what stands while the turn spots are found -/
structure TIn (K : PySem.W.Frag) (CP C : Addr) (H : Hp) (v : V) (W : Wd) (dk D : Addr) (ls : List (Addr × List V)) (as : List Rat) (H' : Hp) : Prop where
  sx : SX dk H H'
  lo : LoadsAt K CP C H' v W dk
  dm : DMap frK RTrue H' D as (fun _ => ())
  ls : ∀ e ∈ ls, H' e.1 = some (.lst e.2)
section
variable {K : PySem.W.Frag} {CP C : Addr} {H H1 H2 : Hp} {v : V} {W : Wd} {dk D : Addr} {ls : List (Addr × List V)} {as : List Rat}
theorem TIn.same (t : TIn K CP C H v W dk D ls as H1) (s : Same H1 H2) : TIn K CP C H v W dk D ls as H2 :=
  ⟨t.sx.trans (SX.of s t.lo.dT), t.lo.mono s, t.dm.same RTrue_mono s, fun e he => s _ _ (t.ls e he)⟩
theorem TIn.add (t : TIn K CP C H v W dk D ls as H1) (s : Same H1 H2) {p : Addr} {xs : List V} (hp : H2 p = some (.lst xs)) : TIn K CP C H v W dk D ((p, xs) :: ls) as H2 :=
  ⟨(t.same s).sx, (t.same s).lo, (t.same s).dm, fun e he => by
    rcases List.mem_cons.mp he with rfl | he
    · exact hp
    · exact (t.same s).ls e he⟩
theorem TIn.drop {e : Addr × List V} (t : TIn K CP C H v W dk D (e :: ls) as H1) : TIn K CP C H v W dk D ls as H1 := ⟨t.sx, t.lo, t.dm, fun e he => t.ls e (List.mem_cons_of_mem _ he)⟩
theorem TIn.step (t : TIn K CP C H v W dk D ls as H1) (nD : H D = none) (s : SX dk H1 H2) (lo : LoadsAt K CP C H2 v W dk) : TIn K CP C H v W dk D ls as H2 := by
  have n : D ≠ dk := fun z => by
    obtain ⟨kvs, e⟩ := t.sx.d0
    rw [← z, nD] at e
    cases e
  exact ⟨t.sx.trans s, lo, t.dm.sx RTrue_mono s n, fun e he => s.at (t.ls e he) (fun _ q => by cases q)⟩
theorem TIn.put (t : TIn K CP C H v W dk D ls as H1) (LO : LoadsAt K CP C H v W dk) (nD : H D = none) {b : Addr} {q : Rat} (eb : H1 b = some (.tup [.int q.num, .int (q.den : Int)])) (hl : as.length < 90000) :
    ∃ H2, DPut H1 D (.ref b) (.bl true) H2 ∧ TIn K CP C H v W dk D ls (as ++ [q]) H2 ∧ Tu H1 H2 := by
  obtain ⟨kvs', p, dm⟩ := t.dm.put (a := q) frK_inj RTrue_mono eb rfl hl
  obtain ⟨kvs, hd⟩ := t.dm.dT
  have tu : Tu H1 (upd H1 D (.dT kvs')) := Tu.upd hd trivial
  exact ⟨_, p, ⟨t.sx.mut nD, LO.mut t.lo t.sx nD tu, dm, fun e he => by rw [upd_ne (ne_of (t.ls e he) hd (by intro q; cases q))]; exact t.ls e he⟩, tu⟩
end
theorem rg_get {lo hi : Int} {j : Nat} {x : V} (h : (rgV lo hi)[j]? = some x) : x = .int (lo + (j : Int)) ∧ j < (hi - lo).toNat := by
  unfold rgV at h
  rw [List.getElem?_map] at h
  obtain ⟨i, e1, e2⟩ := Option.map_eq_some_iff.mp h
  obtain ⟨l, q⟩ := List.getElem?_eq_some_iff.mp e1
  rw [List.length_range] at l
  rw [List.getElem_range] at q
  subst q
  exact ⟨e2.symm, l⟩
def spTurns (K : PySem.W.Frag) (CP C : Addr) : Sp := fun vs H Q _ => ∃ (v m : V) (W : Wd) (dk : Addr) (much : Rat), vs = [v, m] ∧ LoadsAt K CP C H v W dk ∧ GoodW W ∧ Fr K H m much ∧ Bd 430 much ∧ 0 < much ∧
  ∀ H' p xs R, SX dk H H' → LoadsAt K CP C H' v W dk → H' p = some (.lst xs) → Paired (Fr K H') xs R → TurnsAre W much R → R.length ≤ 20000 → Q (.ref p) H'
section
variable {P : Program} {w : World} {K : PySem.W.Frag} {mg : Str → Option Value} {base : Heap} {aN aO : Addr} {tL tM tP : Tok} {CPlank CLoads : Addr}
abbrev s_rising : Stmt := topS 47
abbrev n_rising : List Str := ["spots", "found", "spot", "at", "one"]
theorem sc_rising : FnScope n_rising ["spots"] (defScope s_rising) := ⟨rfl, rfl, rfl, by decide +kernel, rfl, by decide +kernel, by decide +kernel⟩
theorem ok_rising {f : Addr} {fd : FuncData} (F : Fun K "rising" "rising" s_rising f fd) (T : Txt K mg aN aO tL tM tP) (G_is_below : Fn P w K mg base 1 "is_below" ["one", "other"] (spBelow K)) : FnOk P w K mg base CX0 2 f fd ["spots"] (spRising K) := by
  have sc := sc_rising
  refine F.ok sc (fun vs H Q E h => ?_) (fun cdv A outer s H vs Q E hr h => ?_)
  · (repeat (rcases h with ⟨_, h⟩))
    subst_vars
    rfl
  · obtain ⟨l, xs, qs, b, rfl, hl, hs, hb, hb4, nd, hz, k⟩ := h
    have el := pr_len hs
    refine ⟨_, (pss_cons (ps_set (i := 1) sc.nd rfl (Or.inl rfl) (pe_lst pa_nil))
 (pss_cons (ps_for PassesOwn.never rfl (piL K (pv 0)) (pg_name (i := 2) sc.nd rfl (Or.inr rfl))
 (pss_cons (ps_set (i := 3) sc.nd rfl (Or.inl rfl) (pe_callB (cLen K) (by rfl) T.blen (by decide +kernel) (pa_cons (pe_lc (own := [("one", 4)]) (g := (gName 4)) rfl sc.nd (piL K (pv 1)) (blkOk_by (N := n_rising) (sc := defScope s_rising) (own := [("one", 4)]) (by decide +kernel)) (fun _ _ _ _ _ => (pg_name (i := 4) sc.nd rfl (Or.inl rfl))) (fun _ _ _ _ _ => pts_one (pt_val (pe_fn G_is_below hr (pa_cons (pv 4) (pa_cons (pv 2) pa_nil))))) (fun _ _ _ _ _ => (pv 4))) pa_nil)))
 (pss_one (ps_expr (pe_bm PySem.F.plainAttrs_list PySem.F.slot_list_insert PySem.F.type_list_insert mt_insert (pv 1) (pa_cons (pv 3) (pa_cons (pv 2) pa_nil)))))))
 (pss_one (ps_ret (pv 1))))), ?_⟩
    refine ⟨by show 0 ≤ sizeLine; decide, fun fo nfo => ?_⟩
    have s1 : Same H (upd H fo (.lst [])) := Same.new nfo
    refine ⟨_, rfl, l, rfl, ⟨_, SqL.of (s1 _ _ hl)⟩, for_it walk_list (fun i σ H' => Same H H' ∧ (∃ c1 c2 c3, σ = [some (.ref l), some (.ref fo), c1, c2, c3]) ∧ ∃ ys R, H' fo = some (.lst ys) ∧ Paired (Fr K H') ys R ∧ R.Pairwise (· < ·) ∧ (∀ x, x ∈ R ↔ x ∈ qs.take i) ∧ R.length = i) ⟨s1, ⟨_, _, _, rfl⟩, [], [], upd_same, .nil, .nil, by simp, rfl⟩ (fun i σ H' _ p => p.1.seq (SqL.of hl)) ?_ ?_⟩
    · rintro i x σ H1 H2 hi ⟨s2, ⟨c1, c2, c3, rfl⟩, ys, R, hfo, hys, hR, hmem, hRl⟩ ⟨rfl, hx⟩
      obtain ⟨q, hq, fq⟩ := pr_get' hs hx
      have fq2 := fq.mono s2.tu
      have hyl := pr_len hys
      refine ⟨_, rfl, fo, rfl, ⟨_, SqL.of hfo⟩, fun D nD => lc_filt walk_list (fun i => (R[i]?).getD 0) (fun a => decide (a < q)) (Fr K) (fun _ _ _ _ u h => h.mono u) nD (by omega) (fun H' s => s.seq (SqL.of hfo)) (fun j y H3 H4 hj s3 yy => ?_) (fun H3 zs s3 hD hz2 => ?_)⟩
      · obtain ⟨rfl, hy⟩ := yy
        refine ⟨Same.refl _, fun Qk Qn k1 k2 => ?_⟩
        obtain ⟨r, hr1, fr1⟩ := pr_get' hys hy
        have er : (R[j]?).getD 0 = r := by rw [hr1]; rfl
        have memr := (hmem r).mp (List.mem_of_getElem? hr1)
        refine ⟨rfl, _, rfl, _, rfl, _, _, r, q, b, b, rfl, fr1.mono s3.tu, fq2.mono s3.tu, hb r (List.mem_of_mem_take memr), hb q (List.mem_of_getElem? hq), by omega, _, rfl, ?_⟩
        refine ifB (fun c => ?_) (fun c => ?_)
        · exact ⟨_, rfl, k1 (by rw [er]; exact c) _ _ (Same.refl _) (by rw [er]; exact fr1.mono s3.tu)⟩
        · exact k2 (by rw [er]; exact c) _ (Same.refl _)
      · have eR : (List.range ys.length).map (fun i => (R[i]?).getD 0) = R := by
          rw [hyl]
          refine List.ext_getElem (by simp) fun i h1 h2 => ?_
          simp [List.getElem?_eq_getElem h2]
        rw [eR] at hz2
        have hbl : zs.length = below R q := pr_len hz2
        have hble := below_le R q
        have hfo3 := s3 _ _ hfo
        refine ⟨D, _, rfl, .inl (SqL.of hD), ?_⟩
        refine ⟨_, rfl, .inl ⟨rfl, _, SqL.of hfo3⟩, _, rfl, _, rfl, fo, ys, _, x, rfl, rfl, hfo3, szl (by omega), Int.natCast_nonneg _, by rw [hbl]; omega, ?_⟩
        have tu : Tu H3 (upd H3 fo (.lst (ys.take (below R q) ++ [x] ++ ys.drop (below R q)))) := Tu.upd hfo3 trivial
        rw [hbl]
        refine ⟨(s2.trans s3).mut nfo, ⟨_, _, _, rfl⟩, _, insQ R q, upd_same, ?_, ?_, fun y => ?_, by rw [insQ_len, hRl]⟩
        · have hys3 := pr_mono hys fun _ _ h => h.mono (s3.tu.trans tu)
          have hx3 : Fr K _ x q := (fq2.mono s3.tu).mono tu
          exact pr_app (pr_drop _ hys3) (pr_app (.cons hx3 .nil) (pr_take _ hys3))
        · refine insQ_rise hR fun hq2 => ?_
          have m := (hmem q).mp hq2
          obtain ⟨j, hj⟩ := List.mem_iff_getElem?.mp m
          rw [List.getElem?_take] at hj
          split at hj
          · rename_i hji
            obtain ⟨l1, q1⟩ := List.getElem?_eq_some_iff.mp hj
            obtain ⟨l2, q2⟩ := List.getElem?_eq_some_iff.mp hq
            exact (List.pairwise_iff_getElem.mp nd) j i l1 l2 hji (q1.trans q2.symm)
          · cases hj
        · rw [insQ_mem, hmem, List.take_add_one, hq]
          simp
          exact Or.comm
    · rintro σ H1 ⟨s2, ⟨c1, c2, c3, rfl⟩, ys, R, hfo, hys, hR, hmem, hRl⟩
      refine ⟨_, rfl, k _ fo _ R s2 hfo hys hR (fun x => ?_) (by omega)⟩
      rw [hmem, List.take_of_length_le (by omega)]
abbrev s_turns_of : Stmt := topS 48
abbrev n_turns_of : List Str := ["loads", "weight", "plank", "found", "rest", "rests", "prop", "left", "right", "much", "low", "here", "high"]
theorem sc_turns_of : FnScope n_turns_of ["loads", "weight"] (defScope s_turns_of) := ⟨rfl, rfl, rfl, by decide +kernel, rfl, by decide +kernel, by decide +kernel⟩
theorem ok_turns_of {f : Addr} {fd : FuncData} (F : Fun K "turns_of" "turns_of" s_turns_of f fd) (T : Txt K mg aN aO tL tM tP) (G_rising : Fn P w K mg base 2 "rising" ["spots"] (spRising K)) (G_whole : Fn P w K mg base 1 "whole" ["number"] spWhole) (G_Plank_count : MFn P w K mg base 1 CPlank "count" ["self"] (spCount K CPlank)) (G_Plank_place_of : MFn P w K mg base 2 CPlank "place_of" ["self", "rest"] (spPlaceOf K CPlank)) (G_rests_of : Fn P w K mg base 2 "rests_of" ["plank", "lot"] (spRestsOf K CPlank)) (G_lot_of : Fn P w K mg base 2 "lot_of" ["plank", "lot"] (spLotOf K CPlank)) (G_over : Fn P w K mg base 3 "over" ["one", "other"] (sp2 K (fun a b => a / b) (fun _ b => 0 < b))) (G_spare_at : Fn P w K mg base 7 "spare_at" ["loads", "left", "prop", "right"] (spSpareAt K CPlank CLoads)) (G_is_below : Fn P w K mg base 1 "is_below" ["one", "other"] (spBelow K)) (G_plus : Fn P w K mg base 3 "plus" ["one", "other"] (sp2 K (fun a b => a + b) (fun _ _ => True))) (G_less : Fn P w K mg base 3 "less" ["one", "other"] (sp2 K (fun a b => a - b) (fun _ _ => True))) (G_times : Fn P w K mg base 3 "times" ["one", "other"] (sp2 K (fun a b => a * b) (fun _ _ => True))) (TPlank : Cls K CPlank) (TLoads : Cls K CLoads) (NLoads : LoadsNo K CLoads) : FnOk P w K mg base CX0 8 f fd ["loads", "weight"] (spTurns K CPlank CLoads) := by
  have sc := sc_turns_of
  refine F.ok sc (fun vs H Q E h => ?_) (fun cdv A outer s H vs Q E hr h => ?_)
  · (repeat (rcases h with ⟨_, h⟩))
    subst_vars
    rfl
  · obtain ⟨v, m, W, dk, much, rfl, LO, GW, hm, hbm, h0, k⟩ := h
    obtain ⟨a, dx, wl, dv, pq, ws, kvs, rfl, ha, PL, hw, hws, hdk, hkn⟩ := id LO
    obtain ⟨pa, pdx, st, pvs, rfl, hpa, hst, hpp⟩ := id PL
    have few := GW.p.few
    have l1 : (plF W.long st).lookup ("place_of" : Str) = none := pl_no _ _ (by decide +kernel) (by decide +kernel) (by decide +kernel)
    have l2 : (plF W.long st).lookup ("count" : Str) = none := pl_no _ _ (by decide +kernel) (by decide +kernel) (by decide +kernel)
    refine ⟨_, (pss_cons (ps_set (i := 2) sc.nd rfl (Or.inr rfl) (pe_fldK K (pv 0)))
 (pss_cons (ps_setDcP (i := 3) (e0 := .dT []) (own := [("rest", 4)]) (g := (gName 4)) (.inr rfl) (hu_of hr) rfl sc.nd rfl rfl (sw_trueD rfl rfl rfl (by decide +kernel)) (piT K (pe_fn G_rests_of hr (pa_cons (pv 2) (pa_cons (pe_fn G_lot_of hr (pa_cons (pv 2) (pa_cons pe_non pa_nil))) pa_nil)))) (blkOk_by (N := n_turns_of) (sc := defScope s_turns_of) (own := [("rest", 4)]) (by decide +kernel)) (fun _ _ _ _ _ => (pg_name (i := 4) sc.nd rfl (Or.inl rfl))) (fun _ _ _ _ _ => pts_nil) (fun _ _ _ _ _ => (pe_fn G_whole hr (pa_cons (pe_mfn G_Plank_place_of TPlank hr (pv 2) (pa_cons (pv 4) pa_nil)) pa_nil))) (fun _ _ _ _ _ => pe_bl))
 (pss_cons (ps_set (i := 5) sc.nd rfl (Or.inl rfl) (pe_listRg rfl (by rfl) T.blist (prg_2 (by rfl) T.brange (pe_un un_neg pe_int) (pe_op op_add (pe_mfn0 G_Plank_count TPlank hr (pv 2)) pe_int) rfl) rfl))
 (pss_cons (ps_for PassesOwn.never rfl (pi_range1 rfl T.brange (pa_cons (pe_mfn0 G_Plank_count TPlank hr (pv 2)) pa_nil)) (pg_name (i := 6) sc.nd rfl (Or.inl rfl))
 (pss_one (ps_for PassesOwn.never rfl (piL K (pe_slice (slL K) (pv 5) po_none (po_some (pe_op op_add (pv 6) pe_int)))) (pg_name (i := 7) sc.nd rfl (Or.inl rfl))
 (pss_one (ps_for PassesOwn.never rfl (piL K (pe_slice (slL K) (pv 5) (po_some (pe_op op_add (pv 6) pe_int)) po_none)) (pg_name (i := 8) sc.nd rfl (Or.inl rfl))
 (pss_cons (ps_set (i := 9) sc.nd rfl (Or.inl rfl) (pe_fn G_over hr (pa_cons (pe_fn G_spare_at hr (pa_cons (pv 0) (pa_cons (pv 7) (pa_cons (pv 6) (pa_cons (pv 8) pa_nil))))) (pa_cons (pv 1) pa_nil))))
 (pss_one (ps_if (PW.pt (pw_and (pt_not (pt_val (pe_fn G_is_below hr (pa_cons (pv 9) (pa_cons (pe_glob (v := .ref aN) rfl T.mNOUGHT rfl) pa_nil))))) (pw_and1 (pt_not (pt_val (pe_fn G_is_below hr (pa_cons (pe_glob (v := .ref aO) rfl T.mONE rfl) (pa_cons (pv 9) pa_nil))))))))
 (pss_cons (ps_asg (pe_lc (own := [("rest", 4)]) (g := (gName 4)) rfl sc.nd (piT K (pe_tup (pa_cons (pv 7) (pa_cons (pv 6) (pa_cons (pv 8) pa_nil))))) (blkOk_by (N := n_turns_of) (sc := defScope s_turns_of) (own := [("rest", 4)]) (by decide +kernel)) (fun _ _ _ _ _ => (pg_name (i := 4) sc.nd rfl (Or.inl rfl))) (fun _ _ _ _ _ => pts_nil) (fun _ _ _ _ _ => (pe_fn G_whole hr (pa_cons (pe_mfn G_Plank_place_of TPlank hr (pv 2) (pa_cons (pv 4) pa_nil)) pa_nil)))) (pg_unl rfl (pgs_cons (pg_name (i := 10) sc.nd rfl (Or.inl rfl)) (pgs_cons (pg_name (i := 11) sc.nd rfl (Or.inl rfl)) (pgs_cons (pg_name (i := 12) sc.nd rfl (Or.inl rfl)) pgs_nil)))))
 (pss_cons (ps_dput (hu_of hr) (pv 3) (pe_fn G_plus hr (pa_cons (pv 10) (pa_cons (pe_fn G_times hr (pa_cons (pv 9) (pa_cons (pe_fn G_less hr (pa_cons (pv 11) (pa_cons (pv 10) pa_nil))) pa_nil))) pa_nil))) pe_bl rfl)
 (pss_one (ps_dput (hu_of hr) (pv 3) (pe_fn G_less hr (pa_cons (pv 12) (pa_cons (pe_fn G_times hr (pa_cons (pv 9) (pa_cons (pe_fn G_less hr (pa_cons (pv 12) (pa_cons (pv 11) pa_nil))) pa_nil))) pa_nil))) pe_bl rfl))))
 pss_nil))))))))
 (pss_one (ps_ret (pe_fn G_rising hr (pa_cons (pe_callTy (call_list_dT rfl) (by rfl) T.blist (by decide +kernel) (pa_cons (pv 3) pa_nil)) pa_nil)))))))), ?_⟩
    refine ⟨_, rfl, a, _, dx, _, _, rfl, ha, TLoads, NLoads.plank, lo_plank _ _ _ _, ?_⟩
    refine ⟨_, rfl, _, rfl, _, W.long, W.ss, rfl, PL, few, fun lp nlp => ?_⟩
    have s1 : Same H (upd H lp (.tup ((full W.ss.length).map V.int))) := Same.new nlp
    refine ⟨_, _, W.long, W.ss, full W.ss.length, rfl, PL.mono s1, ⟨lp, rfl, SqT.of upd_same⟩, by rw [full_len]; omega, fun H2 rp s2 hrp => ?_⟩
    have s02 := s1.trans s2
    refine ⟨rp, rfl, ⟨_, SqT.of hrp⟩, fun D nD => ?_⟩
    have nD0 : H D = none := s02.free nD
    have rlen : (restsL W.ss.length (full W.ss.length)).length = W.ss.length + 2 := by
      unfold restsL
      simp [full_len]
    refine dc_it walk_tup (fun i H' => Same H2 H' ∧ DMap frK RTrue H' D ((placesL W).take i) (fun _ => ())) ⟨Same.new nD, DMap.nil upd_same⟩ (fun i H' _ p => p.1.tu.sqT (SqT.of hrp)) (fun i x H3 H4 hi p y => ?_) (fun H3 p => ?_)
    · obtain ⟨rfl, hx⟩ := y
      obtain ⟨s3, dm⟩ := p
      rw [List.length_map, rlen] at hi
      have hr : ∃ r, (restsL W.ss.length (full W.ss.length))[i]? = some r ∧ x = .int r := by
        rw [List.getElem?_map] at hx
        obtain ⟨r, e1, e2⟩ := Option.map_eq_some_iff.mp hx
        exact ⟨r, e1, e2.symm⟩
      obtain ⟨r, hr, rfl⟩ := hr
      have wr := rests_in (List.mem_of_getElem? hr)
      have s03 := s02.trans s3
      refine ⟨rfl, ?_⟩
      refine ⟨_, rfl, pa, pdx, _, rfl, s03 _ _ hpa, l1, _, rfl, _, W.long, W.ss, r, rfl, PL.mono s03, wr.1, wr.2, ?_⟩
      refine ⟨_, rfl, fun H5 v5 s5 f5 => ?_⟩
      obtain ⟨b5, rfl, hb5⟩ := f5
      have hpl : (placesL W)[i]? = some ((placeOf W.long W.ss r : Int) : Rat) := by
        unfold placesL
        rw [List.getElem?_map, hr]
        rfl
      obtain ⟨kvs', dp, dm2⟩ := (dm.same RTrue_mono s5).put (a := ((placeOf W.long W.ss r : Int) : Rat)) (v := .bl true) frK_inj RTrue_mono hb5 rfl (by rw [List.length_take]; omega)
      refine ⟨_, dp, (s3.trans s5).mut nD, ?_⟩
      rw [List.take_add_one, hpl]
      exact dm2
    obtain ⟨s3, dm⟩ := p
    have s03 := s02.trans s3
    have plen : (placesL W).length = W.ss.length + 2 := by
      unfold placesL
      rw [List.length_map, rlen]
    rw [List.length_map, rlen, ← plen, List.take_length] at dm
    have nDdk : D ≠ dk := fun z => by
      rw [z, hdk] at nD0
      cases nD0
    refine ⟨_, rfl, _, rfl, pa, pdx, _, rfl, s03 _ _ hpa, l2, _, W.long, W.ss, rfl, PL.mono s03, ?_⟩
    refine ⟨_, _, rfl, rfl, _, _, rfl, rfl, ⟨by omega, by omega, by omega, by omega, by omega⟩, fun rl nrl => ?_⟩
    have s4 : Same H3 (upd H3 rl (.lst (rgV (-1) ((W.ss.length : Int) + 1)))) := Same.new nrl
    have s04 := s03.trans s4
    have t0 : TIn K CPlank CLoads H (.ref a) W dk D [(rl, rgV (-1) ((W.ss.length : Int) + 1))] (placesL W ++ (kp1 W.ss.length 0).flatMap (turn2 W much)) (upd H3 rl (.lst (rgV (-1) ((W.ss.length : Int) + 1)))) :=
      ⟨SX.of s04 LO.dT, LO.mono s04, by simpa [kp1] using dm.same RTrue_mono s4, fun e he => by rw [List.mem_singleton.mp he]; exact upd_same⟩
    refine ⟨_, rfl, pa, pdx, _, rfl, s04 _ _ hpa, l2, _, W.long, W.ss, rfl, PL.mono s04, ?_⟩
    refine ⟨_, rfl, by omega, by omega, ?_⟩
    refine for_it walk_rg0 (fun i σ H' => (∃ c1 c2 c3 c4 c5 c6 c7 c8, σ = [some (.ref a), some m, some (.ref pa), some (.ref D), c1, some (.ref rl), c2, c3, c4, c5, c6, c7, c8]) ∧ TIn K CPlank CLoads H (.ref a) W dk D [(rl, rgV (-1) ((W.ss.length : Int) + 1))] (placesL W ++ (kp1 W.ss.length i).flatMap (turn2 W much)) H') ⟨⟨_, _, _, _, _, _, _, _, rfl⟩, t0⟩ (fun _ _ _ _ _ => trivial) ?_ ?_
    · rintro i x σ H4 H5 hi ⟨⟨c1, c2, c3, c4, c5, c6, c7, c8, rfl⟩, t1⟩ ⟨rfl, rfl⟩
      have hi2 : i < W.ss.length := hi
      refine ⟨_, rfl, _, rfl, _, _, rfl, rfl, _, rfl, rl, _, rfl, SqL.of (t1.ls _ List.mem_cons_self), fun p1 np1 => ?_⟩
      rw [show cutV (rgV (-1) ((W.ss.length : Int) + 1)) none (some ((i : Int) + 1)) = (rgV (-1) ((W.ss.length : Int) + 1)).take (i + 1) from cut_to _ (i + 1)]
      have s5 := Same.new (o := .lst ((rgV (-1) ((W.ss.length : Int) + 1)).take (i + 1))) np1
      have t2 := t1.add s5 upd_same
      have le1 : ((rgV (-1) ((W.ss.length : Int) + 1)).take (i + 1)).length = i + 1 := by
        rw [List.length_take, rgV_length]
        omega
      refine ⟨p1, rfl, ⟨_, SqL.of upd_same⟩, for_it walk_list (fun l σ H' => (∃ c1 c3 c4 c5 c6 c7 c8, σ = [some (.ref a), some m, some (.ref pa), some (.ref D), c1, some (.ref rl), some (.int (i : Int)), c3, c4, c5, c6, c7, c8]) ∧ TIn K CPlank CLoads H (.ref a) W dk D [(p1, (rgV (-1) ((W.ss.length : Int) + 1)).take (i + 1)), (rl, rgV (-1) ((W.ss.length : Int) + 1))] (placesL W ++ (kp1 W.ss.length i ++ kp2 W.ss.length i l).flatMap (turn2 W much)) H')
        ⟨⟨_, _, _, _, _, _, _, rfl⟩, by simpa [kp2] using t2⟩ (fun _ _ _ _ p => SqL.of (p.2.ls _ List.mem_cons_self)) ?_ ?_⟩
      · rintro l x σ H6 H7 hl ⟨⟨c1, c3, c4, c5, c6, c7, c8, rfl⟩, t3⟩ ⟨rfl, hx⟩
        rw [le1] at hl
        rw [List.getElem?_take] at hx
        rw [if_pos hl] at hx
        obtain ⟨rfl, _⟩ := rg_get hx
        refine ⟨_, rfl, _, rfl, _, _, rfl, rfl, _, rfl, rl, _, rfl, SqL.of (t3.ls _ (List.mem_cons_of_mem _ List.mem_cons_self)), fun p2 np2 => ?_⟩
        rw [show cutV (rgV (-1) ((W.ss.length : Int) + 1)) (some ((i : Int) + 2)) none = (rgV (-1) ((W.ss.length : Int) + 1)).drop (i + 2) from cut_from _ (i + 2)]
        have s6 := Same.new (o := .lst ((rgV (-1) ((W.ss.length : Int) + 1)).drop (i + 2))) np2
        have t4 := t3.add s6 upd_same
        have le2 : ((rgV (-1) ((W.ss.length : Int) + 1)).drop (i + 2)).length = W.ss.length - i := by
          rw [List.length_drop, rgV_length]
          omega
        refine ⟨p2, rfl, ⟨_, SqL.of upd_same⟩, for_it walk_list (fun r σ H' => (∃ c1 c4 c5 c6 c7 c8, σ = [some (.ref a), some m, some (.ref pa), some (.ref D), c1, some (.ref rl), some (.int (i : Int)), some (.int (-1 + (l : Int))), c4, c5, c6, c7, c8]) ∧ TIn K CPlank CLoads H (.ref a) W dk D [(p2, (rgV (-1) ((W.ss.length : Int) + 1)).drop (i + 2)), (p1, (rgV (-1) ((W.ss.length : Int) + 1)).take (i + 1)), (rl, rgV (-1) ((W.ss.length : Int) + 1))] (placesL W ++ (kp1 W.ss.length i ++ (kp2 W.ss.length i l ++ kp3 i l r)).flatMap (turn2 W much)) H')
          ⟨⟨_, _, _, _, _, _, rfl⟩, by simpa [kp3] using t4⟩ (fun _ _ _ _ p => SqL.of (p.2.ls _ List.mem_cons_self)) ?_ ?_⟩
        · rintro r x σ H8 H9 hr ⟨⟨c1, c4, c5, c6, c7, c8, rfl⟩, t5⟩ ⟨rfl, hx⟩
          rw [le2] at hr
          rw [List.getElem?_drop] at hx
          obtain ⟨rfl, _⟩ := rg_get hx
          obtain ⟨ky, hky⟩ : ∃ ky : Ky, ky = ((l : Int) - 1, (i : Int), (i : Int) + 1 + (r : Int)) := ⟨_, rfl⟩
          have e1 : -1 + (l : Int) = ky.1 := by rw [hky]; show _ = (l : Int) - 1; omega
          have e2 : (i : Int) = ky.2.1 := by rw [hky]
          have e3 : -1 + ((i + 2 + r : Nat) : Int) = ky.2.2 := by rw [hky]; show _ = (i : Int) + 1 + (r : Int); omega
          have gk : GoodKey W.ss.length ky := by
            rw [hky]
            unfold GoodKey
            dsimp only
            omega
          have hks : kp3 i l (r + 1) = kp3 i l r ++ [ky] := by rw [kp3_succ, hky]
          have asl : (placesL W ++ (kp1 W.ss.length i ++ (kp2 W.ss.length i l ++ kp3 i l r)).flatMap (turn2 W much)).length ≤ 5100 := by
            have q1 := kp_len (n := W.ss.length) (p := i) (l := l) (r := r) few (by omega) (by omega) (by omega)
            have q2 := fm_len (f := turn2 W much) (b := 2) (xs := kp1 W.ss.length i ++ (kp2 W.ss.length i l ++ kp3 i l r)) fun x _ => turn2_len W much x
            rw [List.length_append, plen]
            omega
          rw [e1, e2, e3]
          have tu9 : Tu H H9 := t5.sx.tu
          refine ⟨_, rfl, _, rfl, _, rfl, _, rfl, _, W, dk, ky, rfl, t5.lo, GW, gk, fun H10 v10 sx10 LO10 f10 => ?_⟩
          have t6 := t5.step nD0 sx10 LO10
          refine ⟨_, rfl, _, _, spare W ky, much, 1781, 430, rfl, f10.fr, hm.mono t6.sx.tu, spare_bd GW gk, hbm, by omega, h0, fun H11 v11 s11 f11 => ?_⟩
          have t7 := t6.same s11
          have bt := tall_bd GW hbm h0 gk
          have ft : Fr K H11 v11 (tallOf W much ky) := f11.fr
          refine ⟨_, rfl, _, _, tallOf W much ky, 0, 2211, 1, rfl, ft, fr0 T _, bt, bd0, by omega, _, rfl, ?_⟩
          refine ifB (fun c => ?_) (fun c => ?_)
          · refine ⟨_, rfl, _, _, 1, tallOf W much ky, 1, 2211, rfl, fr1 T _, ft, bd1, bt, by omega, _, rfl, ?_⟩
            refine ifB (fun c2 => ?_) (fun c2 => ?_)
            · have d1 : ¬ tallOf W much ky < 0 := by simpa using c
              have d2 : ¬ 1 < tallOf W much ky := by simpa using c2
              refine ⟨_, rfl, _, rfl, _, rfl, (by show 3 ≤ sizeLine; decide), fun kp nkp => ?_⟩
              have s12 : Same H11 (upd H11 kp (.tup [.int ky.1, .int ky.2.1, .int ky.2.2])) := Same.new nkp
              have t8 := t7.same s12
              refine ⟨kp, rfl, ⟨_, SqT.of upd_same⟩, fun D2 nD2 => lc_map walk_tup (fun j => (([(W.place ky.1 : Rat), (W.place ky.2.1 : Rat), (W.place ky.2.2 : Rat)] : List Rat)[j]?).getD 0) (Fr K) (fun _ _ _ _ u h => h.mono u) nD2 (by show 3 ≤ 90000; decide) (fun H' s => s.tu.sqT (SqT.of upd_same)) (fun j y H13 H14 hj s13 yy => ?_) (fun H13 ys s13 hD2 hys => ?_)⟩
              · obtain ⟨rfl, hy⟩ := yy
                refine ⟨Same.refl _, fun Qk kk => ?_⟩
                have hjr : ∃ r : Int, y = .int r ∧ -1 ≤ r ∧ r ≤ (W.ss.length : Int) ∧ ((([(W.place ky.1 : Rat), (W.place ky.2.1 : Rat), (W.place ky.2.2 : Rat)] : List Rat)[j]?).getD 0) = (W.place r : Rat) := by
                  obtain ⟨g1, g2, g3, g4, g5⟩ := id gk
                  rcases j with _ | _ | _ | j
                  · exact ⟨ky.1, (Option.some.inj hy).symm, by omega, by omega, rfl⟩
                  · exact ⟨ky.2.1, (Option.some.inj hy).symm, by omega, by omega, rfl⟩
                  · exact ⟨ky.2.2, (Option.some.inj hy).symm, by omega, by omega, rfl⟩
                  · exact absurd hj (by show ¬ j + 3 < 3; omega)
                obtain ⟨r', rfl, hr1, hr2, hr3⟩ := hjr
                obtain ⟨a', dx', wl', dv', pq', ws', kvs', e', ha', PL', hw', hws', hdk', hkn'⟩ := id (t8.same s13).lo
                cases e'
                have hpq : PlankAt K CPlank H14 (.ref pa) W.long W.ss := PL.monoX (t8.same s13).sx
                obtain ⟨pa2, pdx2, st2, pvs2, epa, hpa2, hst2, hpp2⟩ := id hpq
                cases epa
                refine ⟨rfl, _, rfl, pa, pdx2, _, rfl, hpa2, pl_no _ _ (by decide +kernel) (by decide +kernel) (by decide +kernel), _, rfl, _, W.long, W.ss, r', rfl, hpq, hr1, hr2, _, rfl, fun H15 v15 s15 f15 => ?_⟩
                refine kk _ _ s15 ?_
                rw [hr3]
                exact f15.fr
              · have t9 := t8.same s13
                obtain ⟨y1, y2, y3, rfl, g1, g2, g3⟩ : ∃ y1 y2 y3, ys = [y1, y2, y3] ∧ Fr K H13 y1 (W.place ky.1 : Rat) ∧ Fr K H13 y2 (W.place ky.2.1 : Rat) ∧ Fr K H13 y3 (W.place ky.2.2 : Rat) := by
                  have h3 : Paired (Fr K H13) ys [(W.place ky.1 : Rat), (W.place ky.2.1 : Rat), (W.place ky.2.2 : Rat)] := hys
                  cases h3 with
                  | cons a1 b1 =>
                    cases b1 with
                    | cons a2 b2 =>
                      cases b2 with
                      | cons a3 b3 =>
                        cases b3
                        exact ⟨_, _, _, rfl, a1, a2, a3⟩
                have ft9 : Fr K H13 v11 (tallOf W much ky) := ft.mono (s12.trans s13).tu
                obtain ⟨gg1, gg2, gg3, gg4, gg5⟩ := id gk
                have b1 := place10 GW (r := ky.1) gg1 (by omega)
                have b2 := place10 GW (r := ky.2.1) (by omega) (by omega)
                have b3 := place10 GW (r := ky.2.2) (by omega) gg4
                refine ⟨D2, _, rfl, SqL.of hD2, rfl, y1, _, rfl, y2, _, rfl, y3, _, rfl, rfl, ?_⟩
                refine ⟨_, rfl, _, rfl, _, rfl, _, rfl, _, rfl, _, _, _, _, 10, 10, rfl, g2, g1, b2, b1, by omega, trivial, fun H15 v15 s15 f15 => ?_⟩
                refine ⟨_, _, _, _, 2211, 21, rfl, ft9.mono s15.tu, f15.fr, bt, (b2.sub b1).mono (by omega), by omega, trivial, fun H16 v16 s16 f16 => ?_⟩
                have s1516 := s15.trans s16
                refine ⟨_, _, _, _, 10, 2232, rfl, g1.mono s1516.tu, f16.fr, b1, (bt.mul ((b2.sub b1).mono (by omega) : Bd 21 _)).mono (by omega), by omega, trivial, fun H17 v17 s17 f17 => ?_⟩
                obtain ⟨q17, rfl, hq17⟩ := f17
                have t10 := t9.same (s1516.trans s17)
                obtain ⟨H18, dp18, t11, tu18⟩ := t10.put LO nD0 hq17 (by omega)
                refine ⟨D, H18, rfl, dp18, ?_⟩
                have tu1 := (s1516.trans s17).tu.trans tu18
                refine ⟨_, rfl, _, rfl, _, rfl, _, rfl, _, rfl, _, _, _, _, 10, 10, rfl, g3.mono tu1, g2.mono tu1, b3, b2, by omega, trivial, fun H19 v19 s19 f19 => ?_⟩
                refine ⟨_, _, _, _, 2211, 21, rfl, (ft9.mono tu1).mono s19.tu, f19.fr, bt, (b3.sub b2).mono (by omega), by omega, trivial, fun H20 v20 s20 f20 => ?_⟩
                have s1920 := s19.trans s20
                refine ⟨_, _, _, _, 10, 2232, rfl, (g3.mono tu1).mono s1920.tu, f20.fr, b3, (bt.mul ((b3.sub b2).mono (by omega) : Bd 21 _)).mono (by omega), by omega, trivial, fun H21 v21 s21 f21 => ?_⟩
                obtain ⟨q21, rfl, hq21⟩ := f21
                have t12 := t11.same (s1920.trans s21)
                obtain ⟨H22, dp22, t13, tu22⟩ := t12.put LO nD0 hq21 (by rw [List.length_append, List.length_singleton]; omega)
                refine ⟨D, H22, rfl, dp22, ⟨_, _, _, _, _, _, rfl⟩, ?_⟩
                rw [hks, ← List.append_assoc (kp2 _ _ _), ← List.append_assoc (kp1 _ _), List.flatMap_append, ← List.append_assoc (placesL W)]
                rw [List.append_assoc] at t13
                have et : [ky].flatMap (turn2 W much) = [(W.place ky.1 : Rat) + tallOf W much ky * ((W.place ky.2.1 : Rat) - (W.place ky.1 : Rat))] ++ [(W.place ky.2.2 : Rat) - tallOf W much ky * ((W.place ky.2.2 : Rat) - (W.place ky.2.1 : Rat))] := by
                  rw [List.flatMap_singleton]
                  unfold turn2
                  rw [if_pos ⟨d1, d2⟩]
                  rfl
                rw [et]
                exact t13
            · have d2 : 1 < tallOf W much ky := by simpa using c2
              refine ⟨⟨_, _, _, _, _, _, rfl⟩, ?_⟩
              have et : [ky].flatMap (turn2 W much) = [] := by
                rw [List.flatMap_singleton]
                unfold turn2
                rw [if_neg (fun z => z.2 d2)]
              rw [hks, ← List.append_assoc (kp2 _ _ _), ← List.append_assoc (kp1 _ _), List.flatMap_append, et, List.append_nil]
              exact t7
          · have d1 : tallOf W much ky < 0 := by simpa using c
            refine ⟨⟨_, _, _, _, _, _, rfl⟩, ?_⟩
            have et : [ky].flatMap (turn2 W much) = [] := by
              rw [List.flatMap_singleton]
              unfold turn2
              rw [if_neg (fun z => z.1 d1)]
            rw [hks, ← List.append_assoc (kp2 _ _ _), ← List.append_assoc (kp1 _ _), List.flatMap_append, et, List.append_nil]
            exact t7
        · rintro σ H8 ⟨⟨c1, c4, c5, c6, c7, c8, rfl⟩, t5⟩
          rw [le2, ← kp2_succ] at t5
          exact ⟨⟨_, _, _, _, _, _, _, rfl⟩, t5.drop⟩
      · rintro σ H6 ⟨⟨c1, c3, c4, c5, c6, c7, c8, rfl⟩, t3⟩
        rw [le1, ← kp1_succ] at t3
        exact ⟨⟨_, _, _, _, _, _, _, _, rfl⟩, t3.drop⟩
    · rintro σ H4 ⟨⟨c1, c2, c3, c4, c5, c6, c7, c8, rfl⟩, t1⟩
      rw [show ((W.ss.length : Int)).toNat = W.ss.length from rfl, kp1_all] at t1
      obtain ⟨kvs2, qs, hd2, hq1, ndq, memq, lenq, _⟩ := t1.dm.keys frK_inj
      have asl : (placesL W ++ (keys W.ss.length).flatMap (turn2 W much)).length ≤ 5100 := by
        have q1 := kp_len (n := W.ss.length) (p := W.ss.length) (l := 0) (r := 0) few (by omega) (by omega) (by omega)
        rw [kp1_all, List.length_append] at q1
        have q2 := fm_len (f := turn2 W much) (b := 2) (xs := keys W.ss.length) fun x _ => turn2_len W much x
        rw [List.length_append, plen]
        omega
      refine ⟨_, rfl, D, kvs2, rfl, .inl hd2, fun p bs np hbs => ?_⟩
      have sp : Same H4 (upd H4 p (.lst (bs.map V.ref))) := Same.new np
      have tf := t1.same sp
      have hbs2 : Paired (fun (e : List Key × V) b => H4 b = some (.tup (e.1.map kV))) kvs2 bs := hbs
      have hll : kvs2.length = qs.length := by
        have := congrArg List.length hq1
        rw [List.length_map, List.length_map] at this
        exact this
      have pq : Paired (Fr K (upd H4 p (.lst (bs.map V.ref)))) (bs.map V.ref) qs := by
        refine pr_of (by rw [List.length_map, ← Paired.length hbs2, hll]) fun j v q e1 e2 => ?_
        rw [List.getElem?_map] at e1
        obtain ⟨b, eb, rfl⟩ := Option.map_eq_some_iff.mp e1
        obtain ⟨e, he1, he2⟩ := paired_get2 hbs2 eb
        have ek : e.1 = frK q := by
          have q1 := congrArg (fun l => l[j]?) hq1
          rw [List.getElem?_map, List.getElem?_map, he1, e2] at q1
          exact Option.some.inj q1
        rw [ek, frK_V] at he2
        exact ⟨b, rfl, SqT.of (sp _ _ he2)⟩
      refine ⟨p, _, qs, 2243, rfl, upd_same, pq, fun q hq => turn_bd GW hbm h0 q ((memq q).mp hq), by omega, ndq, by omega, fun H5 p5 ys R s5 hp5 hys hR hmem hRl => ?_⟩
      exact k _ _ _ R (tf.same s5).sx (tf.same s5).lo hp5 hys ⟨hR, fun x => (hmem x).trans (memq x)⟩ (by omega)
end
end PF
end
section
set_option maxHeartbeats 4000000
namespace PySem.W
open PySem PySem.Calls PyProof.Rows
/-- all stands but for what is at a; what is in fs may have other slots -/
def KeepsFs (fs : List Addr) (a : Addr) (h h' : Heap) : Prop := ∀ b o, b ≠ a → h.get? b = some o → (b ∉ fs → h'.get? b = some o) ∧ ∃ sl, h'.get? b = some { o with slots := sl }
def KeepsAll (fs : List Addr) (h h' : Heap) : Prop := ∀ b o, h.get? b = some o → (b ∉ fs → h'.get? b = some o) ∧ ∃ sl, h'.get? b = some { o with slots := sl }
section
variable {fs : List Addr}
theorem KeepsFs.trans_all {a : Addr} {h h' h'' : Heap} (k : KeepsFs fs a h h') (k' : KeepsAll fs h' h'') : KeepsFs fs a h h'' := fun b o hb e => by
  obtain ⟨k1, sl, k2⟩ := k b o hb e
  obtain ⟨k3, sl2, k4⟩ := k' b _ k2
  exact ⟨fun n => (k' b o (k1 n)).1 n, sl2, k4⟩
theorem KeepsFs.same {a c : Addr} {h h' h'' : Heap} (k : KeepsFs fs a h h') (hs : Heap.SameBut c h' h'') (hc : c = a ∨ h.get? c = none) : KeepsFs fs a h h'' := fun b o hb e => by
  have hbc : b ≠ c := fun z => by
    rcases hc with hc | hc
    · exact hb (z.trans hc)
    · rw [z, hc] at e
      cases e
  obtain ⟨k1, sl, k2⟩ := k b o hb e
  exact ⟨fun n => (hs.2 b hbc).trans (k1 n), sl, (hs.2 b hbc).trans k2⟩
mutual
theorem Reads.keepsF {h h' : Heap} (k : KeepsAll fs h h') : ∀ (d : PyData) (v : Value) (as : List Addr), alike d d = true → Reads h v d as → Reads h' v d as
  | .none, _, _, _, r => by
    cases r
    exact .none
  | .bool _, _, _, _, r => by
    cases r
    exact .bool _
  | .int _, _, _, _, r => by
    cases r
    exact .int _ _
  | .str _, _, _, _, r => by
    cases r
    exact .str _ _
  | .list ds, _, _, hal, r => by
    cases r with
    | list ho hc hd hr =>
      obtain ⟨_, sl, e⟩ := k _ _ ho
      exact .list e hc hd (ReadsAll.keepsF k ds _ _ (by simpa [alike] using hal) hr)
  | .tuple ds, _, _, hal, r => by
    cases r with
    | tuple ho hc hd hr =>
      obtain ⟨_, sl, e⟩ := k _ _ ho
      exact .tuple e hc hd (ReadsAll.keepsF k ds _ _ (by simpa [alike] using hal) hr)
  | .dict ds, _, _, hal, r => absurd hal (by simp [alike])
theorem ReadsAll.keepsF {h h' : Heap} (k : KeepsAll fs h h') : ∀ (ds : List PyData) (vs : List Value) (as : List Addr), alikeAll ds ds = true → ReadsAll h vs ds as → ReadsAll h' vs ds as
  | [], _, _, _, r => by
    cases r
    exact .nil
  | d :: ds, _, _, hal, r => by
    cases r with
    | cons r1 r2 => exact .cons (Reads.keepsF k d _ _ (alike_all_cons hal).1 r1) (ReadsAll.keepsF k ds _ _ (alike_all_cons hal).2 r2)
end
variable {prog : Program} {w : World} {A : Around} {E : Value → Shared → Prop} {s : Shared} {a kS : Addr} {b : Bool} {vs : List Value} {keys : Array Value} {e e1 : Nat} {P : PySem.Fin → Shared → Prop} {kz : List PyData}
theorem keyF_tail {st : SortSt} {out : List Value} {h₁ : Heap} (kp : KeepsFs fs a h₁ s.heap) (hkS : h₁.get? kS = none) (nk : s.heap.get? kS = some (seqObj "list" keys e)) (na : s.heap.get? a = some (seqObj "list" #[] e1)) (hka : kS ≠ a)
    (hsz : keys.size ≤ sizeLine) (hz : out.length ≤ sizeLine) (hfl : failedOf st = none) (ho : (if b = true then ((arrOf st).map (·.2)).reverse else (arrOf st).map (·.2)) = out.toArray)
    (h : ∀ h' tk c, KeepsFs fs a h₁ h' → h'.get? a = some (seqObj "list" out.toArray c) → P (.done (.ret .none)) { s with heap := h', toks := tk }) :
    wpAny (model prog w) A (ksk_tail a b e1 (.ref kS) st) P E s := by
  have s1 := Heap.SameBut.update s.heap kS (Obj.mapSeq fun _ => (#[] : Array Value))
  have na1 : (s.heap.update kS (Obj.mapSeq fun _ => (#[] : Array Value))).get? a = some (seqObj "list" #[] e1) := (s1.2 a hka.symm).trans na
  have s2 := Heap.SameBut.update (s.heap.update kS (Obj.mapSeq fun _ => (#[] : Array Value))) a (Obj.mapSeq fun _ => out.toArray)
  obtain ⟨c2, hc2⟩ : ∃ c2, ((s.heap.update kS (Obj.mapSeq fun _ => (#[] : Array Value))).update a (Obj.mapSeq fun _ => out.toArray)).get? a = some (seqObj "list" out.toArray c2) :=
    ⟨_, get?_update_seq na1 fun _ => out.toArray⟩
  have hz2 : out.toArray.size ≤ sizeLine + 1 := by
    rw [List.size_toArray]
    exact Nat.le_succ_of_le hz
  unfold ksk_tail
  try dsimp only
  rw [ho]
  refine wpAny_bind (listUpdate_at nk rfl ?_ hsz (Nat.zero_le _))
  refine wpAny_bind (wpAny_letGo ?_)
  refine wpAny_bind (seqEpoch_at na1 rfl ?_)
  refine wpAny_bind (listUpdate_at na1 rfl ?_ (Nat.zero_le _) hz2)
  rw [hfl]
  simp only [bne_self_eq_false, Bool.false_eq_true, if_false]
  exact wpAny_pure (h _ _ c2 ((kp.same s1 (.inr hkS)).same s2 (.inl rfl)) hc2)
theorem keyF_end {κ : PyProof.Rows.KeyKind} {h₁ : Heap} (kp : KeepsFs fs a h₁ s.heap) (hkS : h₁.get? kS = none) (nk : s.heap.get? kS = some (seqObj "list" keys e)) (na : s.heap.get? a = some (seqObj "list" #[] e1)) (hka : kS ≠ a)
    (S : SortsAt prog w A s κ keys.toList) (hsz : keys.size = vs.length) (hZ : vs.length ≤ sizeLine)
    (h : ∀ h' tk c, KeepsFs fs a h₁ h' → h'.get? a = some (seqObj "list" (sortVals κ b keys.toList vs).toArray c) → P (.done (.ret .none)) { s with heap := h', toks := tk }) :
    wpAny (model prog w) A (ksk_end a b vs.toArray e1 (.ref kS) keys) P E s := by
  obtain ⟨kd, h1, h2⟩ := S.kind
  have hkl : keys.toList.length = vs.length := by
    rw [Array.length_toList]
    exact hsz
  have hK : PyProof.Rows.KeysOf κ (keys.zip vs.toArray) := keysOf_zip S.keys
  have hol : (sortVals κ b keys.toList vs).length = vs.length := sortVals_length b hkl
  have hstart : (if b = true then (keys.zip vs.toArray).reverse else keys.zip vs.toArray).Perm (keys.zip vs.toArray) := by
    cases b with
    | false => exact Array.Perm.refl _
    | true => exact Array.perm_iff_toList_perm.mpr (by rw [if_pos rfl, Array.toList_reverse]; exact List.reverse_perm _)
  have hss : (if b = true then (keys.zip vs.toArray).reverse else keys.zip vs.toArray).size = vs.length := by rw [hstart.size_eq, Array.size_zip, hsz, List.size_toArray, Nat.min_self]
  have fin : ∀ st' : SortSt, (arrOf st').Perm (if b = true then (keys.zip vs.toArray).reverse else keys.zip vs.toArray) → SortedToK κ (arrOf st') (if b = true then (keys.zip vs.toArray).reverse else keys.zip vs.toArray).size →
      Stable κ (arrOf st') (if b = true then (keys.zip vs.toArray).reverse else keys.zip vs.toArray) → (if b = true then ((arrOf st').map (·.2)).reverse else (arrOf st').map (·.2)) = (sortVals κ b keys.toList vs).toArray := by
    intro st' hp hs ht
    have e := sort_out (rev := b) (keys := keys) (items := vs.toArray) (xs := arrOf st') (κ := κ) hK hp hs ht
    have e' := congrArg List.toArray e
    rw [Array.toArray_toList] at e'
    exact e'
  have step : ∀ t : Sem PySem.Fin, wpAny (model prog w) A t P E s → wpAny (model prog w) A (if b = true then (do let _ ← rule "list.sort.reverse"; t) else t) P E s := by
    intro t ht
    split
    · exact wpAny_bind (wpAny_rule ht)
    · exact ht
  unfold ksk_end
  try dsimp only
  refine step _ ?_
  by_cases hl2 : vs.toArray.size < 2
  · rw [if_pos hl2, if_pos hl2]
    refine wpAny_bind (wpAny_pure ?_)
    rw [StateT.run_pure]
    refine wpAny_bind (wpAny_pure ?_)
    try dsimp only
    refine keyF_tail (st := SortSt.mk' general' (if b = true then (keys.zip vs.toArray).reverse else keys.zip vs.toArray) #[] 7 none) kp hkS nk na hka (by rw [hsz]; exact hZ) (by rw [hol]; exact hZ) rfl (fin _ (Array.Perm.refl _) ?_ (Stable.refl _)) h
    intro i j hij hj
    rw [hss] at hj
    rw [List.size_toArray] at hl2
    have : i = j := by omega
    subst this
    exact KeyOrd.kle_refl _
  · rw [if_neg hl2, if_neg hl2]
    rw [List.size_toArray] at hl2
    refine wpAny_bind (h2 (by omega) _ ?_)
    refine wpAny_bind (wpAny_mono (H.wpS_sortRunsSt (κ := κ) (kd := kd) (a₀ := if b = true then (keys.zip vs.toArray).reverse else keys.zip vs.toArray)
      (st := SortSt.mk' kd (if b = true then (keys.zip vs.toArray).reverse else keys.zip vs.toArray) #[] 7 none)
      (Q := fun _ st' => failedOf st' = none ∧ (if b = true then ((arrOf st').map (·.2)).reverse else (arrOf st').map (·.2)) = (sortVals κ b keys.toList vs).toArray)
      h1 (hK.perm hstart) ⟨Array.Perm.refl _, rfl, rfl⟩ rfl (Stable.refl _) (by rw [hss]; omega) fun st' a1 a2 a3 a4 => ⟨a2, fin st' a1 a3 a4⟩) ?_ fun _ _ e => e)
    rintro ⟨⟨⟩, st'⟩ s' ⟨rfl, hf, ho⟩
    try dsimp only at ho ⊢
    exact keyF_tail kp hkS nk na hka (by rw [hsz]; exact hZ) (by rw [hol]; exact hZ) hf ho h
/-- a call f(x) that keeps all that was there and gives the key k, without lists -/
def KeyPureF (fs : List Addr) (k : PyData) (s₁ : Shared) (v : Value) (s₂ : Shared) : Prop := ∃ h' tk g0 d0, s₂ = { s₁ with heap := h', gens := g0, drawn := d0, toks := tk } ∧ AllBare g0 ∧ KeepsAll fs s₁.heap h' ∧ Reads h' v k []
theorem keyF_rest {f : Value} {h₁ : Heap} (fa : a ∉ fs) (fkS : kS ∉ fs) (hg00 : AllBare s.gens) (kp : KeepsFs fs a h₁ s.heap) (hkS : h₁.get? kS = none) (nk : s.heap.get? kS = some (seqObj "list" #[] 0)) (na : s.heap.get? a = some (seqObj "list" #[] e1)) (hka : kS ≠ a)
    (hlen : kz.length = vs.length) (hZ : vs.length ≤ sizeLine) (hal : AllAlike kz) (hsk : Sortable kz) (hu : ∀ d, d ∈ kz → A.units + d.depth < cLine)
    (turn : ∀ (i : Nat) (v : Value) (k : PyData), vs[i]? = some v → kz[i]? = some k → ∀ (h : Heap) (tk : Nat) (g0 : Array GenState) (d0 : Drawn), AllBare g0 → KeepsFs fs a h₁ h →
      wpAny (model prog w) A (call f [v]) (KeyPureF fs k { s with heap := h, gens := g0, drawn := d0, toks := tk }) (fun _ _ => False) { s with heap := h, gens := g0, drawn := d0, toks := tk })
    (h : ∀ h' tk g0 d0 out c, AllBare g0 → KeepsFs fs a h₁ h' → h'.get? a = some (seqObj "list" (List.toArray out) c) → KeyedOut b kz vs out → P (.done (.ret .none)) { s with heap := h', gens := g0, drawn := d0, toks := tk }) :
    wpAny (model prog w) A (ksk_rest a f b vs.toArray e1 (.ref kS)) P E s := by
  unfold ksk_rest
  refine wpAny_bind (wpAny_rule ?_)
  first
    | rw [List.forIn_toArray]
    | (rw [← Array.forIn_toList]; simp only [List.toList_toArray])
    | rw [← Array.forIn_toList]
  refine wpAny_bind (ksk_fold (fun i s' => ∃ h' tk kA e g0 d0, s' = { s with heap := h', gens := g0, drawn := d0, toks := tk } ∧ AllBare g0 ∧ KeepsFs fs a h₁ h' ∧ h'.get? kS = some (seqObj "list" kA e) ∧ h'.get? a = some (seqObj "list" #[] e1) ∧ EachIs (fun v k => Reads h' v k [] ∧ alike k k = true) kA.toList (kz.take i)) vs 0 s
    ⟨s.heap, s.toks, #[], 0, s.gens, s.drawn, rfl, hg00, kp, nk, na, by rw [List.take_zero]; exact EachIs.nil⟩ ?step ?done)
  case step =>
    rintro j x s' hx ⟨h', tk, kA, e, g0, d0, rfl, hg0, kp', nk', na', hk⟩
    simp only [Nat.zero_add] at hk ⊢
    have hj : j < vs.length := (List.getElem?_eq_some_iff.mp hx).1
    obtain ⟨k, hkj⟩ : ∃ k, kz[j]? = some k := ⟨_, List.getElem?_eq_getElem (by omega)⟩
    have hkk : alike k k = true := hal k (List.mem_of_getElem? hkj) k (List.mem_of_getElem? hkj)
    have hz : kA.size ≤ vs.length := by
      have h1 := hk.length
      rw [Array.length_toList, List.length_take] at h1
      omega
    refine wpAny_bind (wpAny_attempt (wpAny_mono (turn j x k hx hkj h' tk g0 d0 hg0 kp') (fun v s'' he => ?_) fun _ _ hF => hF.elim))
    obtain ⟨g, tk2, g1, d1, rfl, hg1, hg, hr⟩ := he
    try dsimp only
    have nk2 : g.get? kS = some (seqObj "list" kA e) := (hg _ _ nk').1 fkS
    have na2 : g.get? a = some (seqObj "list" #[] e1) := (hg _ _ na').1 fa
    have s1 := Heap.SameBut.update g kS (Obj.mapSeq (·.push v))
    obtain ⟨c2, hc2⟩ : ∃ c2, (g.update kS (Obj.mapSeq (·.push v))).get? kS = some (seqObj "list" (kA.push v) c2) := ⟨_, get?_update_seq nk2 (·.push v)⟩
    have ek : kz.take (j + 1) = kz.take j ++ [k] := by rw [List.take_add_one, hkj]; simp
    have ea : (kA.push v).toList = kA.toList ++ [v] := by simp
    refine wpAny_bind (listUpdate_at nk2 rfl ?_ (Nat.le_trans hz hZ) (Nat.le_trans (Nat.le_of_eq (Array.size_push ..)) (Nat.succ_le_succ (Nat.le_trans hz hZ))))
    have keepS : ∀ (u : Value) (d : PyData), Reads g u d [] ∧ alike d d = true → Reads (g.update kS (Obj.mapSeq (·.push v))) u d [] ∧ alike d d = true := fun u d q =>
      ⟨Reads.keepBut (a := kS) (fun b o hb e => (s1.2 b hb).trans e) (fun o e => by rw [nk2] at e; rw [← Option.some.inj e]) d u [] q.2 q.1 (by simp), q.2⟩
    refine wpAny_pure ⟨rfl, _, _, kA.push v, c2, _, _, rfl, hg1, (kp'.trans_all hg).same s1 (.inr hkS), hc2, (s1.2 a hka.symm).trans na2, ?_⟩
    rw [ea, ek]
    refine each_snoc (R := fun (u : Value) (d : PyData) => Reads (g.update kS (Obj.mapSeq (·.push v))) u d [] ∧ alike d d = true) (keepS v k ⟨hr, hkk⟩) ?_
    exact hk.mono fun u d q => keepS u d ⟨Reads.keepsF hg _ _ _ q.2 q.1, q.2⟩
  case done =>
    rintro s' ⟨h', tk, kA, e, g0, d0, rfl, hg0, kp', nk', na', hk⟩
    have hk' : EachIs (fun v k => ∃ as, Reads h' v k as) kA.toList kz := by
      have e3 : kz.take (0 + vs.length) = kz := List.take_of_length_le (by omega)
      rw [e3] at hk
      exact hk.mono fun v k q => ⟨[], q.1⟩
    have hsz : kA.size = vs.length := by
      have h1 := hk'.length
      rw [Array.length_toList] at h1
      omega
    try dsimp only
    refine wpAny_bind (listItems_at nk' rfl ?_)
    exact keyF_end (κ := dataKind h' kz) (h₁ := h₁) kp' hkS nk' na' hka (SortsAt.data (s := { s with heap := h', gens := g0, drawn := d0, toks := tk }) hk' hal hsk hu) hsz hZ fun h3 tk3 c k3 n3 => h h3 tk3 g0 d0 _ c hg0 k3 n3 ⟨h', kA.toList, hal, rfl, hk'⟩
theorem keyF_tree {f : Value} {n : Nat} (ffs : ∀ b ∈ fs, b < s.heap.objs.size) (fa : a ∉ fs) (hg00 : AllBare s.gens) (ho : s.heap.get? a = some (seqObj "list" vs.toArray n)) (hlen : kz.length = vs.length) (hZ : vs.length ≤ sizeLine) (hal : AllAlike kz) (hsk : Sortable kz) (hu : ∀ d, d ∈ kz → A.units + d.depth < cLine)
    (turn : ∀ (i : Nat) (v : Value) (k : PyData), vs[i]? = some v → kz[i]? = some k → ∀ (h : Heap) (tk : Nat) (g0 : Array GenState) (d0 : Drawn), AllBare g0 → KeepsFs fs a s.heap h →
      wpAny (model prog w) A (call f [v]) (KeyPureF fs k { s with heap := h, gens := g0, drawn := d0, toks := tk }) (fun _ _ => False) { s with heap := h, gens := g0, drawn := d0, toks := tk })
    (h : ∀ h' tk g0 d0 out c, AllBare g0 → KeepsFs fs a s.heap h' → h'.get? a = some (seqObj "list" (List.toArray out) c) → KeyedOut b kz vs out → P (.done (.ret .none)) { s with heap := h', gens := g0, drawn := d0, toks := tk }) :
    wpAny (model prog w) A (ksk_tree a f b) P E s := by
  have ha : a < s.heap.objs.size := Heap.lt_size ho
  obtain ⟨e1, ho1⟩ : ∃ e1, (s.heap.update a (Obj.mapSeq fun _ => (#[] : Array Value))).get? a = some (seqObj "list" #[] e1) := ⟨_, get?_update_seq ho fun _ => #[]⟩
  have hkS : ((s.heap.update a (Obj.mapSeq fun _ => (#[] : Array Value))).push (seqObj "tuple" vs.toArray 0)).objs.size = s.heap.objs.size + 1 := by rw [size_push', Heap.size_update]
  unfold ksk_tree
  refine wpAny_bind (listItems_at ho rfl ?_)
  refine wpAny_bind (listUpdate_at ho rfl ?_ (by rw [List.size_toArray]; exact hZ) (Nat.zero_le _))
  refine wpAny_bind (seqEpoch_at ho1 rfl ?_)
  refine wpAny_bind (wpAny_newTuple ?_ (by show vs.length ≤ _; exact hZ))
  refine wpAny_bind (wpAny_newList ?_ (Nat.zero_le _))
  refine wpAny_holding ?_
  have kp : KeepsFs fs a s.heap (sortingHeap s.heap a vs) := fun b o hb q => ⟨fun _ => sortingHeap_old hb q, o.slots, sortingHeap_old hb q⟩
  refine keyF_rest (kz := kz) (h₁ := s.heap) (s := { s with heap := ((s.heap.update a (Obj.mapSeq fun _ => (#[] : Array Value))).push (seqObj "tuple" vs.toArray 0)).push (seqObj "list" #[] 0) }) (kS := ((s.heap.update a (Obj.mapSeq fun _ => (#[] : Array Value))).push (seqObj "tuple" vs.toArray 0)).objs.size)
    fa (fun z => Nat.lt_irrefl _ (Nat.lt_trans (Nat.lt_succ_self _) (by have := ffs _ z; rw [hkS] at this; exact this))) hg00 kp (Heap.get?_none_of_le (by rw [hkS]; exact Nat.le_succ _)) (Heap.get?_push_size _ rfl) (Heap.get?_push_of_some _ (Heap.get?_push_of_some _ ho1)) (by rw [hkS]; exact Nat.ne_of_gt (Nat.lt_succ_of_lt ha)) hlen hZ hal hsk hu turn h
end
end PySem.W
end
section
set_option maxHeartbeats 4000000
namespace PF
open PySem PySem.Spec PyProof.Rows L2
open PySem.W (KeepsAll KeepsFs KeyPureF EachIs)
/-- the key that by_size gives -/
def keyD (L : List Int) : PyData := .tuple [.int (-(L.length : Int)), lotD L]
def spBySize (K : PySem.W.Frag) : Sp := fun vs H Q _ => ∃ (b : Addr) (L : List Int), vs = [.ref b] ∧ SqT K H b (L.map V.int) ∧ ∀ H' t, Same H H' → H' t = some (.tup [.int (-(L.length : Int)), .ref b]) → Q (.ref t) H'
theorem readsAll_ints {h : Heap} : ∀ (L : List Int) (us : List Value), Vals (L.map V.int) us → ReadsAll h us (L.map .int) []
  | [], us, r => by
    have r' : Vals [] us := r
    cases r'
    exact .nil
  | i :: L, us, r => by
    have r' : Vals (V.int i :: L.map V.int) us := r
    cases r' with
    | cons r1 r2 =>
      obtain ⟨t, rfl⟩ := r1
      exact ReadsAll.cons (as := []) (bs := []) (.int i t) (readsAll_ints L _ r2)
section
variable {X : Cx} {pins : List (Addr × Obj)} {σ : L2.St} {H : Hp} {s : Shared} {h : Heap} {tk : Nat} {g0 : Array GenState} {d0 : Drawn} {A' : Around} {k : Nat} {f : Addr} {fd : FuncData} {b : Addr} {L : List Int}
/-- one call of the key's def, from any heap that keeps what stands -/
theorem by_turn (I : L2.Inv X pins σ H s) (kp : KeepsAll (frs X.stack) s.heap h) (hg : AllBare g0) (hbL : H b = some (.tup (L.map V.int))) (F : FnOk X.prog X.w X.K X.mg X.base CX0 k f fd ["lot"] (spBySize X.K)) (hb : Binds X.K fd ["lot"] []) (hr : Room k A') (hfr : A'.frames = some X.stack) :
    wpAny (model X.prog X.w) A' (call (.ref f) [.ref b]) (KeyPureF (frs X.stack) (keyD L) { s with heap := h, gens := g0, drawn := d0, toks := tk }) (fun _ _ => False) { s with heap := h, gens := g0, drawn := d0, toks := tk } := by
  obtain ⟨zb, its, rv, ob, ho, hoc, n, hod⟩ := (show ObjOk X.prog X.w H s.heap b (.tup (L.map V.int)) from I.hok b _ hbL)
  have nfb : b ∉ frs X.stack := fun z => by
    have := I.stkFree b z
    rw [hbL] at this
    cases this
  have hob : h.get? b = some ob := (kp b ob ho).1 nfb
  let H0 : Hp := upd (fun _ => none) b (.frz ob (.tup (L.map V.int)))
  have hH0 : H0 b = some (.frz ob (.tup (L.map V.int))) := upd_same
  have n0 : ∀ c, c ≠ b → H0 c = none := fun c hc => upd_ne hc
  have env : Env0 X.prog X.w X.K X.mg X.base A' X.stack { s with heap := h, gens := g0, drawn := d0, toks := tk } H0 := by
    refine ⟨hfr, I.ok.mod, fun c o e => ?_, ?_, ?_, fun c hc => n0 c (fun z => nfb (z ▸ hc)), fun c o e => ?_, hg⟩
    · obtain ⟨e1, e2⟩ := I.bs c o e
      have nc : c ∉ frs X.stack := fun z => by
        obtain ⟨hn, _⟩ := I.stack.mem z
        rw [hn] at e
        cases e
      exact ⟨(kp c o e1).1 nc, n0 c (fun z => by rw [z, hbL] at e2; cases e2)⟩
    · obtain ⟨m, ⟨o, _, _, ho, _⟩, _⟩ := I.loc
      obtain ⟨_, sl, e2⟩ := kp _ _ ho
      exact Nat.le_of_lt (Nat.lt_of_le_of_lt (Nat.le_trans I.ok.bsz I.ok.above) (Heap.lt_size e2))
    · exact PySem.Heap.FunFrames.of_keeps (fun c o e _ => let ⟨_, sl, e2⟩ := kp c o e; ⟨_, e2, rfl⟩) I.stack
    · by_cases hc : c = b
      · subst hc
        rw [hH0] at e
        cases e
        exact ⟨hob, zb, its, rv, ob, hob, hoc, n, hod⟩
      · rw [n0 c hc] at e
        cases e
  have kin : X.K.In h := I.ok.mod.kin.keeps fun c o e => (env.bs c o e).1
  refine wpAny_call (codeAny_mono (F.run A' X.stack _ H0 ⟨[.ref b], []⟩ [.ref b] [.ref b] (fun v H' => ∃ t, v = .ref t ∧ H' t = some (.tup [.int (-(L.length : Int)), .ref b]) ∧ H' b = some (.frz ob (.tup (L.map V.int)))) E0 hr env (hb _ [.ref b] kin rfl) (.cons rfl .nil)
    ⟨b, L, rfl, .inl (.inr ⟨ob, hH0⟩), fun H' t s1 ht => ⟨t, rfl, ht, s1 _ _ hH0⟩⟩) fun r s' hq => ?_)
  cases r with
  | error e => exact hq.elim
  | ok fl =>
    cases fl with
    | next => exact False.elim hq
    | brk => exact False.elim hq
    | cont => exact False.elim hq
    | ret u =>
      obtain ⟨v, H', os, bare, un, hok', rel, t, rfl, ht, hbt⟩ := hq
      obtain ⟨hh, g, d, tt, os'⟩ := s'
      obtain rfl : os' = s.os := os
      cases rel
      have ka : KeepsAll (frs X.stack) h hh := fun c o e => by
        by_cases hc : c = b
        · subst hc
          have := (show ObjOk X.prog X.w H' hh c (.frz ob (.tup (L.map V.int))) from hok' c _ hbt).1
          have eo : ob = o := Option.some.inj (hob.symm.trans e)
          subst eo
          exact ⟨fun _ => this, ob.slots, this⟩
        · exact ⟨fun nc => un.keep c o e (n0 c hc) nc (by simp), un.any e (n0 c hc) (by simp)⟩
      refine ⟨hh, tt, g, d, rfl, bare, ka, ?_⟩
      obtain ⟨_, its2, rv2, o2, ho2, hc2, n2, hd2⟩ := (show ObjOk X.prog X.w H' hh t (.tup [.int (-(L.length : Int)), .ref b]) from hok' t _ ht)
      obtain ⟨hb2, _, its3, rv3, o3, ho3, hc3, n3, hd3⟩ := (show ObjOk X.prog X.w H' hh b (.frz ob (.tup (L.map V.int))) from hok' b _ hbt)
      cases rv2 with
      | cons r1 r2 =>
        cases r2 with
        | cons r3 r4 =>
          cases r4
          cases r3
          obtain ⟨t1, rfl⟩ := r1
          refine .tuple ho2 hc2 hd2 ?_
          exact ReadsAll.cons (as := []) (bs := []) (.int _ _) (ReadsAll.cons (as := []) (bs := []) (.tuple ho3 hc3 hd3 (readsAll_ints L _ rv3)) .nil)
end
/-! ### the order -/
def sizeLt (a b : List Int) : Prop := b.length < a.length ∨ (a.length = b.length ∧ a < b)
instance (a b : List Int) : Decidable (sizeLt a b) := by unfold sizeLt; exact inferInstance
theorem key_lt (a b : List Int) : PySem.W.dataLt (keyD a) (keyD b) = decide (sizeLt a b) := by
  unfold keyD
  have hi : PySem.W.alike (.int (-(a.length : Int))) (.int (-(b.length : Int))) = true := by simp [PySem.W.alike]
  have hl : PySem.W.alike (lotD a) (lotD b) = true := by
    unfold lotD
    rw [PySem.W.alike]
    exact PySem.W.alike_ints a b
  rw [PySem.W.dataLt_pair hi hl, PySem.W.dataLt_int, lotD_eq]
  have e : PySem.W.dataLt (lotD a) (lotD b) = decide (a < b) := by
    unfold lotD
    rw [PySem.W.dataLt_tuple]
    exact PySem.W.dataLt_ints a b
  rw [e]
  simp only [PyData.eqv, beq_iff_eq, decide_eq_true_eq]
  unfold sizeLt
  by_cases h1 : (-(a.length : Int)) = -(b.length : Int)
  · have h1' : a.length = b.length := by omega
    rw [if_pos h1]
    by_cases h2 : a = b
    · subst h2
      rw [if_pos rfl]
      simp [List.lt_irrefl]
    · rw [if_neg h2]
      simp [h1']
  · have h1' : ¬ a.length = b.length := by omega
    rw [if_neg h1]
    simp [h1']
theorem key_le : PySem.W.dataLe false keyD = fun a b => !decide (sizeLt b a) := by
  rw [PySem.W.dataLe_eq]
  funext a b
  show (!PySem.W.dataLt (keyD b) (keyD a)) = _
  rw [key_lt]
theorem each_of {α β : Type} {R : α → β → Prop} : ∀ {vs : List α} {bs : List β}, vs.length = bs.length → (∀ (i : Nat) (v : α) (b : β), vs[i]? = some v → bs[i]? = some b → R v b) → EachIs R vs bs
  | [], [], _, _ => .nil
  | [], _ :: _, h, _ => by simp at h
  | _ :: _, [], h, _ => by simp at h
  | v :: vs, b :: bs, h, f => .cons (f 0 v b rfl rfl) (each_of (by simpa using h) fun i v b h1 h2 => f (i + 1) v b (by simpa using h1) (by simpa using h2))
theorem refs_of {H : Hp} {L : List (List Int)} : ∀ {out : List Value}, EachIs (fun v (l : List Int) => ∃ b, v = .ref b ∧ H b = some (.tup (l.map V.int))) out L → ∃ bs : List Addr, out = bs.map Value.ref ∧ Paired (fun b (l : List Int) => H b = some (.tup (l.map V.int))) bs L
  | _, .nil => ⟨[], rfl, .nil⟩
  | _, .cons ⟨b, e, h⟩ t => by
    obtain ⟨bs, e2, h2⟩ := refs_of t
    exact ⟨b :: bs, by rw [e, e2]; rfl, .cons h h2⟩
def rSortBy (f : Addr) : List V → List V → Hp → VK → Prop := fun vs zs H Q => ∃ (d : Addr) (kvs : List (List Key × V)) (qs : List (List Int)), vs = [.ref d] ∧ zs = [.ref f] ∧ H d = some (.dT kvs) ∧ kvs.map (·.1) = qs.map lotK ∧ qs.length ≤ 90000 ∧
  ∀ (p : Addr) (bs : List Addr), H p = none → Paired (fun b (l : List Int) => H b = some (.tup (l.map V.int))) bs (qs.mergeSort fun a b => !decide (sizeLt b a)) → Q (.ref p) (upd H p (.lst (bs.map V.ref)))
section
variable {X : Cx} {k : Nat} {f : Addr} {fd : FuncData}
theorem cr_sortedBy (hcalm : X.calm = true) (F : FnOk X.prog X.w X.K X.mg X.base CX0 k f fd ["lot"] (spBySize X.K)) (hb : Binds X.K fd ["lot"] []) (hr : Room (k + 2) X.A) : CallRK X (.builtin "sorted") [Str.ofString "key"] (rSortBy f) := by
  intro pins s σ H vs zs us ws Q I r rz h
  obtain ⟨d, kvs, qs, rfl, rfl, hd, hkq, hz, q⟩ := h
  obtain ⟨u, rfl, rx⟩ := r.one
  cases rx
  obtain ⟨w1, rfl, rw1⟩ := rz.one
  cases rw1
  obtain ⟨z, hs, ks, pr, o, es, ep, ho, hx, hdt, he, hn⟩ := (show ObjOk X.prog X.w H s.heap d (.dT kvs) from I.hok d _ hd)
  have l1 : es.size = ks.length := size_of_entries he
  have l2 : kvs.length = ks.length := Paired.length pr
  have l3 : kvs.length = qs.length := by
    have := congrArg List.length hkq
    rw [List.length_map, List.length_map] at this
    exact this
  show wpAny _ _ (call (.builtin "sorted") [.ref d] [(Str.ofString "key", .ref f)]) _ _ _
  refine call_function_entry_kw PyProof.Rows.kind_sorted PyProof.Rows.plain_sorted PyProof.Rows.entry_sorted (PyProof.Rows.ksk_s1 _ _) ?_
  unfold Builtin.«sorted»
  refine wpAny_bind (m := checkCount "sorted" 1 1 _) (wpAny_pure ?_)
  refine wpAny_bind (PySem.W.kdu_collect (A := X.A.in1) (kdl_raw hs hx hdt) (I.ok.hd hcalm) ho (by rw [l1, ← l2]; exact z) fun h' tk acc hk it => ?_)
  have ea : acc.toList = ks.map fun x => Value.ref x.2.1 := by
    have hl : acc.toList.length = ks.length := by rw [Array.length_toList, it.1]; exact l1
    apply List.ext_getElem?
    intro j
    rw [List.getElem?_map]
    cases hj : acc.toList[j]? with
    | none =>
      rw [List.getElem?_eq_none (by have := List.getElem?_eq_none_iff.mp hj; omega)]
      rfl
    | some v =>
      obtain ⟨en, hen, hv⟩ := it.2 j v (by rw [← Array.getElem?_toList]; exact hj)
      have qe := entry_at he j
      rw [hen] at qe
      cases hb : ks[j]? with
      | none => rw [hb] at qe; exact nomatch (show some en = none from qe)
      | some b =>
        rw [hb] at qe
        have e2 : en = entryOfKey (tupleKind (mixKind X.prog X.w)) b := Option.some.inj qe
        rw [hv, e2]
        rfl
  have hE : EachIs (fun v (l : List Int) => ∃ b, v = Value.ref b ∧ H b = some (.tup (l.map V.int))) acc.toList qs := by
    refine each_of (by rw [ea, List.length_map]; omega) fun i v l e1 e2 => ?_
    rw [ea, List.getElem?_map] at e1
    obtain ⟨x, ex, rfl⟩ := Option.map_eq_some_iff.mp e1
    obtain ⟨p, ep1, p1, p2, _⟩ := paired_get2 pr ex
    have ek : p.1 = lotK l := by
      have q1 := congrArg (fun m => m[i]?) hkq
      rw [List.getElem?_map, List.getElem?_map, ep1, e2] at q1
      exact Option.some.inj q1
    rw [ek, lotK_V] at p2
    exact ⟨_, rfl, p2⟩
  have hla : acc.toList.length = qs.length := hE.length
  have hzz : acc.toList.length ≤ sizeLine := by rw [hla]; exact Nat.le_trans hz (by decide)
  refine wpAny_bind (wpAny_newList ?_ hzz)
  have hoL : (h'.push (seqObj "list" acc.toList.toArray 0)).get? h'.objs.size = some (seqObj "list" acc.toList.toArray 0) := Heap.get?_push_size _ rfl
  show wpAny _ _ _ _ _ { s with heap := h'.push (seqObj "list" acc.toList.toArray 0), toks := tk }
  refine wpAny_bind (wpAny_holding (wpAny_call_entry_kw PyProof.Rows.slot_list_sort ⟨_, hoL, rfl⟩ PyProof.Rows.entry_list_sort ?body (PyProof.Rows.ksk_l1 _ _)))
  case body =>
    rw [PyProof.Rows.ksk_t1]
    have hfs : ∀ b ∈ frs X.stack, b < h'.objs.size := fun b hb => by
      obtain ⟨_, o2, ho2, _⟩ := I.stack.mem hb
      exact Heap.lt_size (hk b o2 ho2)
    have ka : ∀ {g : Heap}, KeepsFs (frs X.stack) h'.objs.size (h'.push (seqObj "list" acc.toList.toArray 0)) g → KeepsAll (frs X.stack) s.heap g := fun {g} kp b o e =>
      kp b o (Nat.ne_of_lt (Heap.lt_size (hk b o e))) (Heap.get?_push_of_some _ (hk b o e))
    have hd2 : ∀ l : List Int, (keyD l).depth = 2 := fun l => by
      unfold keyD lotD
      simp only [PyData.depth, PyData.depthAll, ints_deep]
      rfl
    refine PySem.W.keyF_tree (fs := frs X.stack) (kz := qs.map keyD) (A := X.A.in1.in1) (s := { s with heap := h'.push (seqObj "list" acc.toList.toArray 0), toks := tk }) (fun b hb => ?_) (fun hb => Nat.lt_irrefl _ (hfs _ hb)) I.bare hoL (by rw [List.length_map, hla]) hzz
      (PySem.W.AllAlike.of fun a b => ?_) (PySem.W.Sortable.tuples fun b => ⟨_, _, rfl⟩) (fun dd hdd => ?_) (fun i v kd hv hkd h2 tk2 g0 d0 hg0 kp => ?_) (fun h2 tk2 g0 d0 out c hg0 kp hD ko => ?_)
    · show b < (h'.push (seqObj "list" acc.toList.toArray 0)).objs.size
      rw [Heap.size_push]
      exact Nat.lt_succ_of_lt (hfs b hb)
    · unfold keyD lotD
      simp [PySem.W.alike, PySem.W.alikeAll, PySem.W.alike_ints]
    · obtain ⟨l, _, rfl⟩ := List.mem_map.mp hdd
      rw [hd2]
      have := hr.un
      show X.A.units + 2 + 2 < cLine
      omega
    · rw [List.getElem?_map] at hkd
      obtain ⟨l, hl, rfl⟩ := Option.map_eq_some_iff.mp hkd
      have hzip : (v, l) ∈ acc.toList.zip qs := List.mem_of_getElem? (i := i) (by rw [List.getElem?_zip_eq_some]; exact ⟨hv, hl⟩)
      obtain ⟨b, eb, hbl⟩ := hE.zip _ hzip
      have eb : v = Value.ref b := eb
      subst eb
      exact by_turn (s := s) (tk := tk2) I (ka kp) hg0 hbl F hb (hr.in1.in1) (I.ok.frames)
    · have kall := ka kp
      have hO := PySem.W.keyedOut_each keyD ko hE
      rw [key_le] at hO
      obtain ⟨bs, rfl, hbs⟩ := refs_of hO
      have nf : H h'.objs.size = none := by
        cases e : H h'.objs.size with
        | none => rfl
        | some u => exact absurd ((I.hok.kept hk).lt e) (Nat.lt_irrefl _)
      have hlo : bs.length = qs.length := by
        have := Paired.length hbs
        rw [List.length_mergeSort] at this
        exact this
      have hp : h2.get? h'.objs.size = some { cls := .type "list", data := .seq (bs.map Value.ref).toArray c } := hD
      have tr : ∀ b u, H b = some u → b ∉ frs X.stack := fun b u e z => by
        rw [I.stkFree b z] at e
        cases e
      have up : ∀ b u, H b = some u → upd H h'.objs.size (.lst (bs.map V.ref)) b = some u := fun b u e => by rw [upd_ne (ne_of_none e nf)]; exact e
      refine ⟨_, rfl, wpAny_pure ⟨_, rfl, ?_⟩⟩
      refine ⟨.ref h'.objs.size, upd H h'.objs.size (.lst (bs.map V.ref)), ?_, rfl, q _ bs nf hbs⟩
      refine I.call' (ch := []) rfl ⟨fun b o e _ nb _ => (kall b o e).1 nb, fun b o e _ _ _ => (kall b o e).2, fun b o e n _ => ?_, fun b o e _ => let ⟨_, sl, e2⟩ := kall b o e; ⟨_, e2⟩, fun b xs e => up b _ e, fun b o u e => up b _ e, fun b ps e => ⟨#[], by rw [up b _ e]; simp⟩⟩ (fun b u e => ?_) hg0 fun b z => by simp at z
      · have ne : b ≠ h'.objs.size := Nat.ne_of_lt (Heap.lt_size (hk b o e))
        rw [upd_ne ne]
        exact n
      · by_cases hb2 : b = h'.objs.size
        · rw [hb2] at e ⊢
          rw [upd_same] at e
          cases e
          exact ⟨by rw [List.length_map, hlo]; exact Nat.le_trans hz (by decide), _, c, L2.vals_refs bs, hp⟩
        · rw [upd_ne hb2] at e
          refine (I.hok b u e).stay (fun dd v y e2 => (kall dd v e2).1 ?_) (fun dd y => up dd _ y) fun dd xs y => up dd _ y
          rcases y with rfl | y
          · exact tr _ _ e
          · exact tr _ _ y
end
def tSortBy (te : TE) : TE := fun σ H Q => te σ H fun x H1 => ∃ (d : Addr) (kvs : List (List Key × V)) (qs : List (List Int)), x = .ref d ∧ H1 d = some (.dT kvs) ∧ kvs.map (·.1) = qs.map lotK ∧ qs.length ≤ 90000 ∧
  ∀ (p : Addr) (bs : List Addr), H1 p = none → Paired (fun b (l : List Int) => H1 b = some (.tup (l.map V.int))) bs (qs.mergeSort fun a b => !decide (sizeLt b a)) → Q (.ref p) (upd H1 p (.lst (bs.map V.ref)))
theorem pe_sortedBy {X : Cx} {k j : Nat} {e : Expr} {te : TE} {p p2 kp pos : Pos} (G : Fn X.prog X.w X.K X.mg X.base k "by_size" ["lot"] (spBySize X.K)) (hr : Room j X.A) (hc : X.calm = true) (hg : Gl X "sorted") (hm : X.mg "sorted" = none) (hg2 : Gl X "by_size") (ha : PE X e te) (h : k + 2 ≤ j := by decide)
    (hs : starEach [e] X.env = (false, eval e X.env) :: starEach [] X.env := by rfl) (he : backTo pos (starEach [e] X.env) = (false, eval e X.env) :: backTo pos (starEach [] X.env) := by rfl) (hpl : (backTo pos (starEach [e] X.env)).any (·.1) = false := by rfl) :
    PE X (.Call (.Name "sorted" p) [e] [⟨some (Str.ofString "key"), .Name "by_size" p2, kp⟩] pos) (tSortBy te) := by
  obtain ⟨f, fd, F, hmf, hk, hb⟩ := G
  refine ⟨fun pins s σ H Q I hw => ?_⟩
  refine (pe_callBK (ks := [Str.ofString "key"]) (r := rSortBy f) (cr_sortedBy hc F hb (hr.mono h)) hg hm (by decide +kernel) (pa_cons ha pa_nil (hs := hs)) (pk_cons (pe_glob (v := .ref f) hg2 hmf rfl) pk_nil) (by decide) (by decide) he hpl).run pins s σ H Q I ?_
  have q : te σ H fun x H1 => ∃ (d : Addr) (kvs : List (List Key × V)) (qs : List (List Int)), x = .ref d ∧ H1 d = some (.dT kvs) ∧ kvs.map (·.1) = qs.map lotK ∧ qs.length ≤ 90000 ∧
    ∀ (p : Addr) (bs : List Addr), H1 p = none → Paired (fun b (l : List Int) => H1 b = some (.tup (l.map V.int))) bs (qs.mergeSort fun a b => !decide (sizeLt b a)) → Q (.ref p) (upd H1 p (.lst (bs.map V.ref))) := hw
  show te σ H fun x H1 => rSortBy f [x] [V.ref f] H1 Q
  have ex : (fun x H1 => rSortBy f [x] [V.ref f] H1 Q) = fun x H1 => ∃ (d : Addr) (kvs : List (List Key × V)) (qs : List (List Int)), x = .ref d ∧ H1 d = some (.dT kvs) ∧ kvs.map (·.1) = qs.map lotK ∧ qs.length ≤ 90000 ∧
    ∀ (p : Addr) (bs : List Addr), H1 p = none → Paired (fun b (l : List Int) => H1 b = some (.tup (l.map V.int))) bs (qs.mergeSort fun a b => !decide (sizeLt b a)) → Q (.ref p) (upd H1 p (.lst (bs.map V.ref))) := by
    funext x H1
    refine propext ⟨?_, ?_⟩
    · rintro ⟨d, kvs, qs, e1, _, r⟩
      exact ⟨d, kvs, qs, (List.cons.inj e1).1, r⟩
    · rintro ⟨d, kvs, qs, e1, r⟩
      exact ⟨d, kvs, qs, by rw [e1], rfl, r⟩
  rw [ex]
  exact q
/-! ### a list in that order -/
theorem lt_tri (a b : List Int) : a < b ∨ a = b ∨ b < a := by
  rcases Classical.em (a < b) with h | h
  · exact .inl h
  · rcases Classical.em (b < a) with h2 | h2
    · exact .inr (.inr h2)
    · exact .inr (.inl (List.le_antisymm (List.not_lt.mp h2) (List.not_lt.mp h)))
theorem sizeLt_tri (a b : List Int) : sizeLt a b ∨ a = b ∨ sizeLt b a := by
  unfold sizeLt
  rcases Nat.lt_trichotomy a.length b.length with h | h | h
  · exact .inr (.inr (.inl h))
  · rcases lt_tri a b with h2 | h2 | h2
    · exact .inl (.inr ⟨h, h2⟩)
    · exact .inr (.inl h2)
    · exact .inr (.inr (.inr ⟨h.symm, h2⟩))
  · exact .inl (.inl h)
theorem sizeLt_trans {a b c : List Int} (h1 : sizeLt a b) (h2 : sizeLt b c) : sizeLt a c := by
  unfold sizeLt at *
  rcases h1 with h1 | ⟨h1, h1'⟩
  · rcases h2 with h2 | ⟨h2, h2'⟩
    · exact .inl (by omega)
    · exact .inl (by omega)
  · rcases h2 with h2 | ⟨h2, h2'⟩
    · exact .inl (by omega)
    · exact .inr ⟨by omega, List.lt_trans h1' h2'⟩
theorem sizeLt_irrefl (a : List Int) : ¬ sizeLt a a := by
  unfold sizeLt
  rintro (h | ⟨_, h⟩)
  · omega
  · exact List.lt_irrefl _ h
theorem sorted_size {qs : List (List Int)} (nd : qs.Nodup) : (qs.mergeSort fun a b => !decide (sizeLt b a)).Pairwise sizeLt ∧ ∀ l, l ∈ (qs.mergeSort fun a b => !decide (sizeLt b a)) ↔ l ∈ qs := by
  have hp := List.mergeSort_perm qs fun a b => !decide (sizeLt b a)
  refine ⟨?_, fun l => hp.mem_iff⟩
  have hs := List.pairwise_mergeSort (le := fun a b => !decide (sizeLt b a)) (fun a b c h1 h2 => ?_) (fun a b => ?_) qs
  · have hn : (qs.mergeSort fun a b => !decide (sizeLt b a)).Nodup := hp.nodup_iff.mpr nd
    unfold List.Nodup at hn
    refine List.Pairwise.imp₂ (fun a b h1 h2 => ?_) hs hn
    have h1' : ¬ sizeLt b a := by simpa using h1
    rcases sizeLt_tri a b with h | h | h
    · exact h
    · exact absurd h h2
    · exact absurd h h1'
  · simp only [Bool.not_eq_true', decide_eq_false_iff_not] at h1 h2 ⊢
    intro h3
    rcases sizeLt_tri b a with h | h | h
    · exact h1 h
    · subst h
      exact h2 h3
    · exact h2 (sizeLt_trans h3 h)
  · by_cases h : sizeLt b a
    · have : ¬ sizeLt a b := fun h2 => sizeLt_irrefl _ (sizeLt_trans h h2)
      simp [h, this]
    · simp [h]
theorem size_ext : ∀ {L M : List (List Int)}, L.Pairwise sizeLt → M.Pairwise sizeLt → (∀ x, x ∈ L ↔ x ∈ M) → L = M
  | [], [], _, _, _ => rfl
  | [], b :: _, _, _, h => absurd ((h b).mpr List.mem_cons_self) (by simp)
  | a :: _, [], _, _, h => absurd ((h a).mp List.mem_cons_self) (by simp)
  | a :: l, b :: m, h1, h2, h => by
    obtain ⟨p1, p2⟩ := List.pairwise_cons.mp h1
    obtain ⟨q1, q2⟩ := List.pairwise_cons.mp h2
    have e : a = b := by
      rcases List.mem_cons.mp ((h a).mp List.mem_cons_self) with e | ha
      · exact e
      · rcases List.mem_cons.mp ((h b).mpr List.mem_cons_self) with e | hb
        · exact e.symm
        · exact absurd (sizeLt_trans (q1 a ha) (p1 b hb)) (sizeLt_irrefl _)
    subst e
    congr 1
    refine size_ext p2 q2 fun x => ⟨fun hx => ?_, fun hx => ?_⟩
    · rcases List.mem_cons.mp ((h x).mp (List.mem_cons_of_mem _ hx)) with e | hx'
      · have := p1 x hx
        rw [e] at this
        exact absurd this (sizeLt_irrefl _)
      · exact hx'
    · rcases List.mem_cons.mp ((h x).mpr (List.mem_cons_of_mem _ hx)) with e | hx'
      · have := q1 x hx
        rw [e] at this
        exact absurd this (sizeLt_irrefl _)
      · exact hx'
end PF
end
section
set_option maxHeartbeats 4000000
set_option exponentiation.threshold 20000
namespace PF
open PySem L2
/-! ### the table in the heap -/
def RowN (K : PySem.W.Frag) (H : Hp) (v : V) (r : Row) : Prop := ∃ t a b c, v = .ref t ∧ H t = some (.tup [a, b, c]) ∧ Fr K H a r.1 ∧ LotN H b r.2.1 ∧ LotN H c r.2.2
theorem RowN.mono {K : PySem.W.Frag} {H H' : Hp} {v : V} {r : Row} (u : Tu H H') (h : RowN K H v r) : RowN K H' v r := by
  obtain ⟨t, a, b, c, e, h1, h2, h3, h4⟩ := h
  exact ⟨t, a, b, c, e, u.t _ _ h1, h2.mono u, h3.mono u, h4.mono u⟩
def EndN (K : PySem.W.Frag) (H : Hp) (v : V) (x : Rat) (L : List Int) : Prop := ∃ t a b, v = .ref t ∧ H t = some (.tup [a, b, .non]) ∧ Fr K H a x ∧ LotN H b L
theorem EndN.mono {K : PySem.W.Frag} {H H' : Hp} {v : V} {x : Rat} {L : List Int} (u : Tu H H') (h : EndN K H v x L) : EndN K H' v x L := by
  obtain ⟨t, a, b, e, h1, h2, h3⟩ := h
  exact ⟨t, a, b, e, u.t _ _ h1, h2.mono u, h3.mono u⟩
def MapAt (K : PySem.W.Frag) (H : Hp) (p : Addr) (rows : List Row) (x : Rat) (L : List Int) : Prop := ∃ xs ve, H p = some (.lst (xs ++ [ve])) ∧ Paired (RowN K H) xs rows ∧ EndN K H ve x L
theorem MapAt.mono {K : PySem.W.Frag} {H H' : Hp} {p : Addr} {rows : List Row} {x : Rat} {L : List Int} (s : Same H H') (h : MapAt K H p rows x L) : MapAt K H' p rows x L := by
  obtain ⟨xs, ve, h1, h2, h3⟩ := h
  exact ⟨xs, ve, s _ _ h1, pr_mono h2 fun _ _ h => h.mono s.tu, h3.mono s.tu⟩
def rowD (r : Row) : PyData := .tuple [frD r.1, lotD r.2.1, lotD r.2.2]
def endD (x : Rat) (L : List Int) : PyData := .tuple [frD x, lotD L, .none]
theorem row_dp {K : PySem.W.Frag} {H : Hp} {v : V} {r : Row} (h : RowN K H v r) : Dp K H v (rowD r) := by
  obtain ⟨t, a, b, c, rfl, h1, h2, h3, h4⟩ := h
  exact .tup (SqT.of h1) (.cons (fr_dp h2) (.cons (lot_dp h3.at) (.cons (lot_dp h4.at) .nil)))
theorem end_dp {K : PySem.W.Frag} {H : Hp} {v : V} {x : Rat} {L : List Int} (h : EndN K H v x L) : Dp K H v (endD x L) := by
  obtain ⟨t, a, b, rfl, h1, h2, h3⟩ := h
  exact .tup (SqT.of h1) (.cons (fr_dp h2) (.cons (lot_dp h3.at) (.cons .non .nil)))
theorem dpA_rows {K : PySem.W.Frag} {H : Hp} : ∀ {vs : List V} {rows : List Row}, Paired (RowN K H) vs rows → DpAll K H vs (rows.map rowD)
  | _, _, .nil => .nil
  | _, _, .cons h t => .cons (row_dp h) (dpA_rows t)
theorem dpA_app {K : PySem.W.Frag} {H : Hp} : ∀ {vs ws : List V} {ds es : List PyData}, DpAll K H vs ds → DpAll K H ws es → DpAll K H (vs ++ ws) (ds ++ es)
  | [], _, ds, _, h, q => by
    cases h
    exact q
  | v :: vs, _, ds, _, h, q => by
    cases h with
    | cons a b => exact .cons a (dpA_app b q)
theorem frD_can (q : Rat) : PyData.canLay0 (frD q) = true ∧ PyData.depth (frD q) = 1 := by
  unfold frD
  simp only [PyData.canLay0, PyData.canLayAll0, PyData.depth, PyData.depthAll]
  exact ⟨rfl, rfl⟩
theorem lotD_can (L : List Int) : PyData.canLay0 (lotD L) = true ∧ PyData.depth (lotD L) = 1 := by
  unfold lotD
  rw [PyData.canLay0, PyData.depth, ints_can, ints_deep]
  exact ⟨rfl, rfl⟩
theorem rowD_can (r : Row) : PyData.canLay0 (rowD r) = true ∧ PyData.depth (rowD r) = 2 := by
  unfold rowD
  simp only [PyData.canLay0, PyData.canLayAll0, PyData.depth, PyData.depthAll, (frD_can _).1, (frD_can _).2, (lotD_can _).1, (lotD_can _).2]
  exact ⟨rfl, rfl⟩
theorem endD_can (x : Rat) (L : List Int) : PyData.canLay0 (endD x L) = true ∧ PyData.depth (endD x L) = 2 := by
  unfold endD
  simp only [PyData.canLay0, PyData.canLayAll0, PyData.depth, PyData.depthAll, (frD_can _).1, (frD_can _).2, (lotD_can _).1, (lotD_can _).2]
  exact ⟨rfl, rfl⟩
theorem can_all : ∀ {ds : List PyData}, (∀ d ∈ ds, PyData.canLay0 d = true ∧ PyData.depth d ≤ 2) → PyData.canLayAll0 ds = true ∧ PyData.depthAll ds ≤ 2
  | [], _ => by simp [PyData.canLayAll0, PyData.depthAll]
  | d :: ds, h => by
    obtain ⟨h1, h2⟩ := h d List.mem_cons_self
    obtain ⟨h3, h4⟩ := can_all fun x hx => h x (List.mem_cons_of_mem _ hx)
    simp only [PyData.canLayAll0, PyData.depthAll, h1, h3]
    exact ⟨rfl, by omega⟩
theorem lst_sh {ds : List PyData} (h : ∀ d ∈ ds, PyData.canLay0 d = true ∧ PyData.depth d ≤ 2) : SeqAt.shaped (.list ds) = true := by
  obtain ⟨h1, h2⟩ := can_all h
  unfold SeqAt.shaped
  rw [PyData.canLay0, PyData.depth, h1, Bool.true_and]
  exact decide_eq_true (by omega)
theorem rows_sh (rows : List Row) : SeqAt.shaped (.list (rows.map rowD)) = true := lst_sh fun d hd => by
  obtain ⟨r, _, rfl⟩ := List.mem_map.mp hd
  exact ⟨(rowD_can r).1, by rw [(rowD_can r).2]; omega⟩
theorem nil_sh : SeqAt.shaped (.list []) = true := lst_sh fun d hd => by simp at hd
theorem rows_nil (rows : List Row) : PyData.eqv (.list (rows.map rowD)) (.list []) = decide (rows = []) := by
  cases rows with
  | nil => simp [PyData.eqv, PyData.eqvAll]
  | cons r t => simp [PyData.eqv, PyData.eqvAll]
def twoD (a b : List Int) : PyData := .tuple [lotD a, lotD b]
theorem two_sh (a b : List Int) : SeqAt.shaped (twoD a b) = true := by
  unfold SeqAt.shaped twoD
  simp only [PyData.canLay0, PyData.canLayAll0, PyData.depth, PyData.depthAll, (lotD_can _).1, (lotD_can _).2]
  rfl
theorem two_eq (a b c d : List Int) : PyData.eqv (twoD a b) (twoD c d) = decide (a = c ∧ b = d) := by
  unfold twoD
  simp only [PyData.eqv, PyData.eqvAll, lotD_eq]
  by_cases h1 : a = c <;> by_cases h2 : b = d <;> simp [h1, h2]
def spMapped (K : PySem.W.Frag) (CP : Addr) : Sp := fun vs H Q _ => ∃ (pq m : V) (wl : Addr) (ws : List V) (W : Wd) (much : Rat), vs = [pq, .ref wl, m] ∧ PlankAt K CP H pq W.long W.ss ∧ H wl = some (.lst ws) ∧ Paired (Hvy K H) ws W.heavy ∧ GoodW W ∧ Fr K H m much ∧ Bd 430 much ∧ 0 < much ∧
  ∀ H' p R, Same H H' → H p = none → TurnsAre W much R → R.length ≤ 20000 → MapAt K H' p (rowsOf (leftOf W much) R) (endOf R) (leftOf W much (endOf R)) → Q (.ref p) H'
theorem pr_last {α : Type} {R : V → α → Prop} {vs : List V} {as : List α} (h : Paired R vs as) (ne : as ≠ []) : ∃ vs' v as' a, vs = vs' ++ [v] ∧ as = as' ++ [a] ∧ R v a := by
  induction h with
  | nil => exact absurd rfl ne
  | @cons v a vs as r t ih =>
    by_cases e : as = []
    · subst e
      cases t
      exact ⟨[], v, [], a, rfl, rfl, r⟩
    · obtain ⟨vs', v', as', a', e1, e2, e3⟩ := ih e
      exact ⟨v :: vs', v', a :: as', a', by rw [e1]; rfl, by rw [e2]; rfl, e3⟩
/-- the lots that the table names -/
def lotsIn (rows : List Row) (L : List Int) : List (List Int) := rows.flatMap (fun r => [r.2.1, r.2.2]) ++ [L]
def TriN (H : Hp) (v : V) (t : List Int × Option (List Int)) : Prop := ∃ q x y z, v = .ref q ∧ H q = some (.tup [x, y, z]) ∧ LotN H y t.1 ∧ (match t.2 with | some L => LotN H z L | none => z = .non)
def triL (t : List Int × Option (List Int)) : List (List Int) := t.1 :: t.2.toList
theorem TriN.mono {H H' : Hp} {v : V} {t : List Int × Option (List Int)} (u : Tu H H') (h : TriN H v t) : TriN H' v t := by
  obtain ⟨q, x, y, z, e, h1, h2, h3⟩ := h
  refine ⟨q, x, y, z, e, u.t _ _ h1, h2.mono u, ?_⟩
  cases ht : t.2 with
  | some L =>
    rw [ht] at h3
    exact LotN.mono u h3
  | none =>
    rw [ht] at h3
    exact h3
def tris (rows : List Row) (L : List Int) : List (List Int × Option (List Int)) := rows.map (fun r => (r.2.1, some r.2.2)) ++ [(L, none)]
theorem tris_lots (rows : List Row) (L : List Int) : (tris rows L).flatMap triL = lotsIn rows L := by
  unfold tris lotsIn
  rw [List.flatMap_append]
  congr 1
  induction rows with
  | nil => rfl
  | cons r t ih =>
    rw [List.map_cons, List.flatMap_cons, List.flatMap_cons, ih]
    rfl
theorem tris_of {K : PySem.W.Frag} {H : Hp} {rows : List Row} {x : Rat} {L : List Int} {xs : List V} {ve : V} (h : Paired (RowN K H) xs rows) (he : EndN K H ve x L) : Paired (TriN H) (xs ++ [ve]) (tris rows L) := by
  unfold tris
  refine pr_app (ws := [ve]) (bs := [(L, none)]) (.cons ?_ .nil) ?_
  · obtain ⟨t, a, b, e, h1, h2, h3⟩ := he
    exact ⟨t, a, b, .non, e, h1, h3, rfl⟩
  · induction h with
    | nil => exact .nil
    | cons r t ih =>
      obtain ⟨q, a, b, c, e, h1, h2, h3, h4⟩ := r
      exact .cons ⟨q, a, b, c, e, h1, h3, h4⟩ ih
theorem rows_len (LO : Rat → List Int) (R : List Rat) : (rowsOf LO R).length ≤ R.length := by
  unfold rowsOf
  have key : ∀ (l : List Row) (acc : List Row), (l.foldl rowAdd acc).length ≤ acc.length + l.length := by
    intro l
    induction l with
    | nil => intro acc; simp
    | cons r t ih =>
      intro acc
      have h1 := ih (rowAdd acc r)
      have h2 := rowAdd_len acc r
      rw [List.foldl_cons, List.length_cons]
      omega
  have := key ((R.zip (R.drop 1)).map (rowAt LO)) []
  rw [List.length_map, List.length_zip, List.length_drop, List.length_nil] at this
  omega
def spLotsLeft (K : PySem.W.Frag) (CP : Addr) : Sp := fun vs H Q _ => ∃ (pq m : V) (wl : Addr) (ws : List V) (W : Wd) (much : Rat), vs = [pq, .ref wl, m] ∧ PlankAt K CP H pq W.long W.ss ∧ H wl = some (.lst ws) ∧ Paired (Hvy K H) ws W.heavy ∧ GoodW W ∧ Fr K H m much ∧ Bd 430 much ∧ 0 < much ∧
  ∀ H' p xs R M, Same H H' → H' p = some (.lst xs) → TurnsAre W much R → Paired (LotN H') xs M → M.Pairwise sizeLt → (∀ l, l ∈ M ↔ l ∈ lotsIn (rowsOf (leftOf W much) R) (leftOf W much (endOf R))) → Q (.ref p) H'
section
variable {P : Program} {w : World} {K : PySem.W.Frag} {mg : Str → Option Value} {base : Heap} {aN aO : Addr} {tL tM tP : Tok} {CPlank CLoads : Addr}
abbrev s_by_size : Stmt := topS 51
abbrev n_by_size : List Str := ["lot"]
theorem sc_by_size : FnScope n_by_size ["lot"] (defScope s_by_size) := ⟨rfl, rfl, rfl, by decide +kernel, rfl, by decide +kernel, by decide +kernel⟩
theorem ok_by_size {f : Addr} {fd : FuncData} (F : Fun K "by_size" "by_size" s_by_size f fd) (T : Txt K mg aN aO tL tM tP)  : FnOk P w K mg base CX0 1 f fd ["lot"] (spBySize K) := by
  have sc := sc_by_size
  refine F.ok sc (fun vs H Q E h => ?_) (fun cdv A outer s H vs Q E hr h => ?_)
  · (repeat (rcases h with ⟨_, h⟩))
    subst_vars
    rfl
  · obtain ⟨b, L, rfl, hb, k⟩ := h
    refine ⟨_, (pss_one (ps_ret (pe_tup (pa_cons (pe_un un_neg (pe_callB (cLen K) (by rfl) T.blen (by decide +kernel) (pa_cons (pv 0) pa_nil))) (pa_cons (pv 0) pa_nil))))), ?_⟩
    refine ⟨_, rfl, b, _, rfl, .inr hb, ?_⟩
    refine ⟨_, rfl, _, rfl, (by show 2 ≤ sizeLine; decide), fun p np => ?_⟩
    refine k _ p (Same.new np) ?_
    rw [upd_same]
    simp
abbrev s_mapped : Stmt := topS 49
abbrev n_mapped : List Str := ["plank", "weights", "weight", "loads", "spots", "found", "here", "there", "at", "behind"]
theorem sc_mapped : FnScope n_mapped ["plank", "weights", "weight"] (defScope s_mapped) := ⟨rfl, rfl, rfl, by decide +kernel, rfl, by decide +kernel, by decide +kernel⟩
theorem ok_mapped {f : Addr} {fd : FuncData} (F : Fun K "mapped" "mapped" s_mapped f fd) (T : Txt K mg aN aO tL tM tP) (G_loads_of : Fn P w K mg base 7 "loads_of" ["plank", "weights"] (spLoadsOf K CPlank CLoads)) (G_check_weight : Fn P w K mg base 3 "check_weight" ["thing"] (spCheckOne K)) (G_turns_of : Fn P w K mg base 8 "turns_of" ["loads", "weight"] (spTurns K CPlank CLoads)) (G_left_with : Fn P w K mg base 8 "left_with" ["loads", "spot", "weight"] (spLeftWith K CPlank CLoads)) (G_cut : Fn P w K mg base 2 "cut" ["top", "bottom"] spCut) : FnOk P w K mg base CX0 9 f fd ["plank", "weights", "weight"] (spMapped K CPlank) := by
  have sc := sc_mapped
  refine F.ok sc (fun vs H Q E h => ?_) (fun cdv A outer s H vs Q E hr h => ?_)
  · (repeat (rcases h with ⟨_, h⟩))
    subst_vars
    rfl
  · obtain ⟨pq, m, wl, ws, W, much, rfl, PL, hwl, hws, GW, hm, hbm, h0, k⟩ := h
    refine ⟨_, (pss_cons (ps_set (i := 3) sc.nd rfl (Or.inl rfl) (pe_fn G_loads_of hr (pa_cons (pv 0) (pa_cons (pv 1) pa_nil))))
 (pss_cons (ps_expr (pe_fn G_check_weight hr (pa_cons (pv 2) pa_nil)))
 (pss_cons (ps_set (i := 4) sc.nd rfl (Or.inl rfl) (pe_fn G_turns_of hr (pa_cons (pv 3) (pa_cons (pv 2) pa_nil))))
 (pss_cons (ps_set (i := 5) sc.nd rfl (Or.inl rfl) (pe_lst pa_nil))
 (pss_cons (ps_for PassesOwn.never rfl (pi_zip (by rfl) T.bzip (pa_cons (pv 4) (pa_cons (pe_slice (slL K) (pv 4) (po_some pe_int) po_none) pa_nil))) (pg_tup rfl (pgs_cons (pg_name (i := 6) sc.nd rfl (Or.inl rfl)) (pgs_cons (pg_name (i := 7) sc.nd rfl (Or.inl rfl)) pgs_nil)))
 (pss_cons (ps_set (i := 8) sc.nd rfl (Or.inl rfl) (pe_fn G_left_with hr (pa_cons (pv 3) (pa_cons (pv 6) (pa_cons (pv 2) pa_nil)))))
 (pss_cons (ps_set (i := 9) sc.nd rfl (Or.inl rfl) (pe_fn G_left_with hr (pa_cons (pv 3) (pa_cons (pe_fn G_cut hr (pa_cons (pe_op op_add (pe_op op_mulW (pe_ix (ixT K) (pv 6) pe_int (fun _ _ => rfl)) (pe_ix (ixT K) (pv 7) pe_int (fun _ _ => rfl))) (pe_op op_mulW (pe_ix (ixT K) (pv 7) pe_int (fun _ _ => rfl)) (pe_ix (ixT K) (pv 6) pe_int (fun _ _ => rfl)))) (pa_cons (pe_op op_mulW (pe_op op_mulW pe_int (pe_ix (ixT K) (pv 6) pe_int (fun _ _ => rfl))) (pe_ix (ixT K) (pv 7) pe_int (fun _ _ => rfl))) pa_nil))) (pa_cons (pv 2) pa_nil)))))
 (pss_one (ps_if (PW.pt (pw_or (pt_cmpR (oEqD K (hru hr)) (pv 5) (pe_lst pa_nil) (nomark _)) (pw_or1 (pt_cmpR (oNeD K (hru hr)) (pe_tup (pa_cons (pv 8) (pa_cons (pv 9) pa_nil))) (pe_tup (pa_cons (pe_ix (ixT K) (pe_ix (ixL K) (pv 5) (pe_un un_neg pe_int) (fun _ _ => rfl)) pe_int (fun _ _ => rfl)) (pa_cons (pe_ix (ixT K) (pe_ix (ixL K) (pv 5) (pe_un un_neg pe_int) (fun _ _ => rfl)) pe_int (fun _ _ => rfl)) pa_nil))) (nomark _)))))
 (pss_one (ps_expr (pe_bm PySem.F.plainAttrs_list PySem.F.slot_list_append PySem.F.type_list_append mt_append (pv 5) (pa_cons (pe_tup (pa_cons (pv 6) (pa_cons (pv 8) (pa_cons (pv 9) pa_nil)))) pa_nil))))
 pss_nil)))))
 (pss_one (ps_ret (pe_op op_cat (pv 5) (pe_lst (pa_cons (pe_tup (pa_cons (pe_ix (ixL K) (pv 4) (pe_un un_neg pe_int) (fun _ _ => rfl)) (pa_cons (pe_fn G_left_with hr (pa_cons (pv 3) (pa_cons (pe_ix (ixL K) (pv 4) (pe_un un_neg pe_int) (fun _ _ => rfl)) (pa_cons (pv 2) pa_nil)))) (pa_cons pe_non pa_nil)))) pa_nil)))))))))), ?_⟩
    refine ⟨_, rfl, _, rfl, pq, wl, ws, W, rfl, PL, hwl, hws, GW, fun H1 v dk s1 ndk LO => ?_⟩
    refine ⟨_, rfl, m, much, 430, rfl, hm.mono s1.tu, hbm, by decide, h0, fun H2 s2 => ?_⟩
    have s02 := s1.trans s2
    refine ⟨_, rfl, _, rfl, v, m, W, dk, much, rfl, LO.mono s2, GW, hm.mono s02.tu, hbm, h0, fun H3 sl xs R sx LO3 hsl hxs TR hRl => ?_⟩
    have s03 : Same H H3 := sx.same s02 ndk
    have hR := fun q hq => turn_bd GW hbm h0 q ((TR.2 q).mp hq)
    refine ⟨by show 0 ≤ sizeLine; decide, fun fo nfo => ?_⟩
    have nfo0 : H fo = none := s03.free nfo
    have s4 : Same H3 (upd H3 fo (.lst [])) := Same.new nfo
    refine ⟨_, rfl, _, rfl, _, rfl, sl, xs, rfl, SqL.of (s4 _ _ hsl), fun p2 np2 => ?_⟩
    rw [show cutV xs (some 1) none = xs.drop 1 from cut_from xs 1]
    have s5 : Same (upd H3 fo (.lst [])) (upd (upd H3 fo (.lst [])) p2 (.lst (xs.drop 1))) := Same.new np2
    have npf : p2 ≠ fo := Ne.symm (ne_of_none upd_same np2)
    have np2' : H3 p2 = none := by
      rw [upd_ne npf] at np2
      exact np2
    have sxS := SX.of (s4.trans s5) LO3.dT
    have lR := pr_len hxs
    refine ⟨sl, p2, xs, xs.drop 1, rfl, SqL.of ((s4.trans s5) _ _ hsl), SqL.of upd_same, for_it (walk_zip rfl) (fun i σ H' => (∃ c1 c2 c3 c4, σ = [some pq, some (.ref wl), some m, some v, some (.ref sl), some (.ref fo), c1, c2, c3, c4]) ∧ SX dk H3 H' ∧ LoadsAt K CPlank CLoads H' v W dk ∧ H' p2 = some (.lst (xs.drop 1)) ∧
      ∃ fs, H' fo = some (.lst fs) ∧ Paired (RowN K H') fs ((((R.zip (R.drop 1)).take i).map (rowAt (leftOf W much))).foldl rowAdd []) ∧ fs.length ≤ i) ⟨⟨_, _, _, _, rfl⟩, sxS, LO3.mono (s4.trans s5), upd_same, [], by rw [upd_ne (Ne.symm npf)]; exact upd_same, .nil, Nat.le_refl _⟩ (fun i σ H' _ p => ⟨SqL.of (p.2.1.at hsl (fun _ q => by cases q)), SqL.of p.2.2.2.1⟩) ?_ ?_⟩
    · rintro i x σ H5 H6 hi ⟨⟨c1, c2, c3, c4, rfl⟩, sx5, LO5, hp2, fs, hfo, hfs, hfl⟩ ⟨T2, x1, x2, rfl, nT, rfl, e1, e2⟩
      have sT : Same H5 (upd H5 T2 (.tup [x1, x2])) := Same.new nT
      have e2' : xs[i + 1]? = some x2 := by
        have q : (xs.drop 1)[i]? = some x2 := e2
        rw [List.getElem?_drop, Nat.add_comm] at q
        exact q
      obtain ⟨a, ha, fa⟩ := pr_get' hxs e1
      obtain ⟨b, hb, fb⟩ := pr_get' hxs e2'
      have tu5 : Tu H3 (upd H5 T2 (.tup [x1, x2])) := sx5.tu.trans sT.tu
      have fa5 := fa.mono tu5
      have fb5 := fb.mono tu5
      have ba := hR a (List.mem_of_getElem? ha)
      have bb := hR b (List.mem_of_getElem? hb)
      have hzip : (R.zip (R.drop 1))[i]? = some (a, b) := by
        rw [List.getElem?_zip_eq_some]
        refine ⟨ha, ?_⟩
        rw [List.getElem?_drop, Nat.add_comm]
        exact hb
      refine ⟨T2, _, rfl, SqT.of upd_same, rfl, _, _, rfl, _, _, rfl, rfl, ?_⟩
      refine ⟨_, rfl, _, rfl, _, rfl, v, x1, m, W, dk, a, much, 2243, rfl, LO5.mono sT, GW, fa5, ba, by omega, hm.mono (s03.tu.trans tu5), hbm, fun H7 v7 sx7 LO7 ln7 => ?_⟩
      have fa7 := fa5.mono sx7.tu
      have fb7 := fb5.mono sx7.tu
      obtain ⟨pa, rfl, hpa⟩ := id fa7
      obtain ⟨pb, rfl, hpb⟩ := id fb7
      have w1 := mulW ba.1 (den_lt2 bb) (by omega)
      have w2 := mulW bb.1 (den_lt2 ba) (by omega)
      have w3 : CMulW 2 (a.den : Int) := mulW (a := 2) (by decide) (den_lt2 ba) (by omega)
      have m3 : (2 * (a.den : Int)).natAbs < 2 ^ 2245 := mul_lt2 (n := 2) (m := 2243) (by decide) (den_lt2 ba)
      have w4 := mulW m3 (den_lt2 bb) (by omega)
      refine ⟨_, rfl, _, rfl, _, _, _, _, rfl, rfl, hpa, rfl, _, rfl, _, _, _, _, rfl, rfl, hpb, rfl, _, _, rfl, rfl, w1, _, rfl, _, _, _, _, rfl, rfl, hpb, rfl, _, rfl, _, _, _, _, rfl, rfl, hpa, rfl, _, _, rfl, rfl, w2, _, _, rfl, rfl, _, rfl, _, _, _, _, rfl, rfl, hpa, rfl, _, _, rfl, rfl, w3, _, rfl, _, _, _, _, rfl, rfl, hpb, rfl, _, _, rfl, rfl, w4, ?_⟩
      refine ⟨_, _, rfl, Int.mul_pos (Int.mul_pos (by decide) (den_pos a)) (den_pos b), Nat.lt_of_lt_of_le (mul_lt2 m3 (den_lt2 bb)) (two_le (by decide)), fun cp ncp => ?_⟩
      rw [amid_eq]
      have sC : Same H7 (upd H7 cp (.tup [.int (amid a b).num, .int ((amid a b).den : Int)])) := Same.new ncp
      refine ⟨_, rfl, v, .ref cp, m, W, dk, amid a b, much, 4489, rfl, LO7.mono sC, GW, ⟨cp, rfl, SqT.of upd_same⟩, (amid_bd ba bb).mono (by omega), by omega, (hm.mono (s03.tu.trans tu5)).mono (sx7.tu.trans sC.tu), hbm, fun H8 v8 sx8 LO8 ln8 => ?_⟩
      have sx78 := sx7.trans ((SX.of sC LO7.dT).trans sx8)
      have sx58 : SX dk H5 H8 := (SX.of sT LO5.dT).trans sx78
      have sx38 := sx5.trans sx58
      have fa8 : Fr K H8 (.ref pa) a := fa7.mono ((SX.of sC LO7.dT).trans sx8).tu
      have ln7' := ln7.mono ((SX.of sC LO7.dT).trans sx8).tu
      have hfo8 := sx58.at hfo (fun _ q => by cases q)
      have hfs8 := pr_mono hfs fun _ _ h => h.mono sx58.tu
      have hp28 := sx58.at hp2 (fun _ q => by cases q)
      have ez : (R.zip (R.drop 1)).take (i + 1) = (R.zip (R.drop 1)).take i ++ [(a, b)] := by rw [List.take_add_one, hzip]; rfl
      generalize hacc : (((R.zip (R.drop 1)).take i).map (rowAt (leftOf W much))).foldl rowAdd [] = acc at hfs8
      have er : (((R.zip (R.drop 1)).take (i + 1)).map (rowAt (leftOf W much))).foldl rowAdd [] = rowAdd acc (a, leftOf W much a, leftOf W much (amid a b)) := by
        rw [ez, List.map_append, List.foldl_append, hacc]
        rfl
      rw [er]
      refine ⟨_, rfl, by show 0 ≤ sizeLine; decide, fun ne nne => ?_⟩
      have s9 : Same H8 (upd H8 ne (.lst [])) := Same.new nne
      generalize hH9 : upd H8 ne (.lst []) = H9 at s9 ⊢
      refine ⟨.list (acc.map rowD), .list [], .lst (SqL.of (s9 _ _ hfo8)) (dpA_rows (pr_mono hfs8 fun _ _ h => h.mono s9.tu)), .lst (xs := []) (SqL.of (by rw [← hH9]; exact upd_same)) .nil, rows_sh _, nil_sh, _, rfl, ?_⟩
      rw [rows_nil]
      refine ifB (fun c => ?_) (fun c => ?_)
      · have c1 : acc = [] := of_decide_eq_true c
        have hfo9 := s9 _ _ hfo8
        refine ⟨_, rfl, .inl ⟨rfl, _, SqL.of hfo9⟩, _, rfl, _, rfl, _, rfl, (by show 3 ≤ sizeLine; decide), fun tp ntp => ?_⟩
        have sA : Same H8 (upd H9 tp (.tup [.ref pa, v7, v8])) := (s9).news ntp
        have hfoA := sA _ _ hfo8
        refine ⟨fo, _, _, rfl, rfl, hfoA, szl (by omega), ?_⟩
        have tuA := Tu.upd (o := .lst (fs ++ [.ref tp])) hfoA trivial
        have sx3A : SX dk H3 (upd H9 tp (.tup [.ref pa, v7, v8])) := sx38.trans (SX.of sA LO8.dT)
        have tt := sA.tu.trans tuA
        refine ⟨⟨_, _, _, _, rfl⟩, sx3A.mut nfo, LO3.mut (LO8.mono sA) sx3A nfo tuA, by rw [upd_ne npf]; exact sA _ _ hp28, fs ++ [.ref tp], upd_same, ?_, by rw [List.length_append, List.length_singleton]; omega⟩
        rw [show rowAdd acc (a, leftOf W much a, leftOf W much (amid a b)) = acc ++ [(a, leftOf W much a, leftOf W much (amid a b))] from if_pos (.inl c1)]
        exact pr_snoc ⟨tp, .ref pa, v7, v8, rfl, tuA.t _ _ upd_same, fa8.mono tt, ln7'.mono tt, ln8.mono tt⟩ (pr_mono hfs8 fun _ _ h => h.mono tt)
      · have c1 : acc ≠ [] := of_decide_eq_false c
        obtain ⟨fs', y, acc', r, efs, eacc, hyr⟩ := pr_last hfs8 c1
        obtain ⟨ty, ya, yb, yc, rfl, hty, _, _, hyc⟩ := id hyr
        have elb : lastB acc = r.2.2 := by
          unfold lastB
          rw [eacc]
          simp
        refine ⟨_, rfl, _, rfl, (by show 2 ≤ sizeLine; decide), fun t1 nt1 => ?_⟩
        have s10 : Same H8 (upd H9 t1 (.tup [v7, v8])) := s9.news nt1
        have ht1 : upd H9 t1 (.tup [v7, v8]) t1 = some (.tup [v7, v8]) := upd_same
        generalize hH10 : upd H9 t1 (.tup [v7, v8]) = H10 at s10 ht1 ⊢
        have hfo10 : H10 fo = some (.lst (fs' ++ [.ref ty])) := by
          rw [← efs]
          exact s10 _ _ hfo8
        refine ⟨_, rfl, _, rfl, _, _, _, _, rfl, rfl, SqL.of hfo10, atI_last _ _, _, _, _, _, rfl, rfl, SqT.of (s10 _ _ hty), rfl, _, rfl, _, rfl, _, _, _, _, rfl, rfl, SqL.of hfo10, atI_last _ _, _, _, _, _, rfl, rfl, SqT.of (s10 _ _ hty), rfl, (by show 2 ≤ sizeLine; decide), fun t2 nt2 => ?_⟩
        have s11 : Same H10 (upd H10 t2 (.tup [yc, yc])) := Same.new nt2
        have ht2 : upd H10 t2 (.tup [yc, yc]) t2 = some (.tup [yc, yc]) := upd_same
        generalize hH11 : upd H10 t2 (.tup [yc, yc]) = H11 at s11 ht2 ⊢
        have s811 := s10.trans s11
        refine ⟨twoD (leftOf W much a) (leftOf W much (amid a b)), twoD r.2.2 r.2.2, .tup (SqT.of (s11 _ _ ht1)) (.cons (lot_dp (ln7'.mono s811.tu).at) (.cons (lot_dp (ln8.mono s811.tu).at) .nil)), .tup (SqT.of ht2) (.cons (lot_dp (hyc.mono s811.tu).at) (.cons (lot_dp (hyc.mono s811.tu).at) .nil)), two_sh _ _, two_sh _ _, _, rfl, ?_⟩
        rw [two_eq]
        refine ifB (fun c2 => ?_) (fun c2 => ?_)
        · have c3 : ¬ (leftOf W much a = lastB acc ∧ leftOf W much (amid a b) = lastB acc) := fun z => by
            rw [elb] at z
            simp [z.1, z.2] at c2
          have hfo9 := s811 _ _ hfo8
          refine ⟨_, rfl, .inl ⟨rfl, _, SqL.of hfo9⟩, _, rfl, _, rfl, _, rfl, (by show 3 ≤ sizeLine; decide), fun tp ntp => ?_⟩
          have sA : Same H8 (upd H11 tp (.tup [.ref pa, v7, v8])) := (s811).news ntp
          have hfoA := sA _ _ hfo8
          refine ⟨fo, _, _, rfl, rfl, hfoA, szl (by omega), ?_⟩
          have tuA := Tu.upd (o := .lst (fs ++ [.ref tp])) hfoA trivial
          have sx3A : SX dk H3 (upd H11 tp (.tup [.ref pa, v7, v8])) := sx38.trans (SX.of sA LO8.dT)
          have tt := sA.tu.trans tuA
          refine ⟨⟨_, _, _, _, rfl⟩, sx3A.mut nfo, LO3.mut (LO8.mono sA) sx3A nfo tuA, by rw [upd_ne npf]; exact sA _ _ hp28, fs ++ [.ref tp], upd_same, ?_, by rw [List.length_append, List.length_singleton]; omega⟩
          rw [show rowAdd acc (a, leftOf W much a, leftOf W much (amid a b)) = acc ++ [(a, leftOf W much a, leftOf W much (amid a b))] from if_pos (.inr c3)]
          exact pr_snoc ⟨tp, .ref pa, v7, v8, rfl, tuA.t _ _ upd_same, fa8.mono tt, ln7'.mono tt, ln8.mono tt⟩ (pr_mono hfs8 fun _ _ h => h.mono tt)
        · have c3 : leftOf W much a = lastB acc ∧ leftOf W much (amid a b) = lastB acc := by
            rw [elb]
            simpa using c2
          refine ⟨⟨_, _, _, _, rfl⟩, sx38.trans (SX.of s811 LO8.dT), LO8.mono s811, s811 _ _ hp28, fs, s811 _ _ hfo8, ?_, by omega⟩
          rw [show rowAdd acc (a, leftOf W much a, leftOf W much (amid a b)) = acc from if_neg (fun z => z.elim c1 (fun h => h c3))]
          exact pr_mono hfs8 fun _ _ h => h.mono s811.tu
    · rintro σ H5 ⟨⟨c1, c2, c3, c4, rfl⟩, sx5, LO5, hp2, fs, hfo, hfs, hfl⟩
      have ez : (R.zip (R.drop 1)).take (min xs.length (xs.drop 1).length) = R.zip (R.drop 1) := by
        rw [List.take_of_length_le]
        rw [List.length_zip, List.length_drop, List.length_drop, lR]
        exact Nat.le_refl _
      rw [ez] at hfs
      have hsl5 := sx5.at hsl (fun _ q => by cases q)
      obtain ⟨xs', xe, R', re, exs, eR, hxe⟩ := pr_last hxs (turns_ne TR)
      have eEnd : endOf R = re := by
        unfold endOf
        rw [eR]
        simp
      have bre := hR re (by rw [eR]; simp)
      have hsl5' : H5 sl = some (.lst (xs' ++ [xe])) := by
        rw [← exs]
        exact hsl5
      have fe5 := hxe.mono sx5.tu
      refine ⟨_, rfl, _, rfl, _, rfl, _, _, _, _, rfl, rfl, SqL.of hsl5', atI_last _ _, ?_⟩
      refine ⟨_, rfl, _, rfl, _, rfl, _, _, _, _, rfl, rfl, SqL.of hsl5', atI_last _ _, _, rfl, v, xe, m, W, dk, re, much, 2243, rfl, LO5, GW, fe5, bre, by omega, hm.mono (s03.tu.trans sx5.tu), hbm, fun H6 v6 sx6 LO6 ln6 => ?_⟩
      have sx36 := sx5.trans sx6
      have hfo6 := sx6.at hfo (fun _ q => by cases q)
      refine ⟨(by show 3 ≤ sizeLine; decide), fun te nte => ?_⟩
      have s7 : Same H6 (upd H6 te (.tup [xe, v6, .non])) := Same.new nte
      have hte : upd H6 te (.tup [xe, v6, .non]) te = some (.tup [xe, v6, .non]) := upd_same
      generalize upd H6 te (.tup [xe, v6, .non]) = H7 at s7 hte ⊢
      refine ⟨(by show 1 ≤ sizeLine; decide), fun l1 nl1 => ?_⟩
      have s8 : Same H7 (upd H7 l1 (.lst [.ref te])) := Same.new nl1
      have hl1 : upd H7 l1 (.lst [.ref te]) l1 = some (.lst [.ref te]) := upd_same
      generalize upd H7 l1 (.lst [.ref te]) = H8 at s8 hl1 ⊢
      have s68 := s7.trans s8
      refine ⟨fo, l1, fs, [.ref te], rfl, rfl, s68 _ _ hfo6, hl1, ?_, fun p np => ?_⟩
      · have : (xs.drop 1).length ≤ xs.length := by rw [List.length_drop]; omega
        have := szL (n := fs.length + 1) (by omega)
        exact this
      · have s9 : Same H8 (upd H8 p (.lst (fs ++ [.ref te]))) := Same.new np
        have s69 := s68.trans s9
        have sH6 : Same H H6 := (sx36).same s03 ndk
        have sH9 := sH6.trans s69
        refine k _ p R sH9 ((sH6.trans s68).free np) TR hRl ⟨fs, .ref te, upd_same, pr_mono hfs fun _ _ h => h.mono (sx6.tu.trans s69.tu), te, xe, v6, rfl, (s8.trans s9) _ _ hte, ?_, ?_⟩
        · rw [eEnd]
          exact fe5.mono (sx6.tu.trans s69.tu)
        · rw [eEnd]
          exact ln6.mono s69.tu
abbrev s_lots_left : Stmt := topS 50
abbrev n_lots_left : List Str := ["plank", "weights", "weight", "some", "lots", "place", "at", "behind", "lot"]
theorem sc_lots_left : FnScope n_lots_left ["plank", "weights", "weight"] (defScope s_lots_left) := ⟨rfl, rfl, rfl, by decide +kernel, rfl, by decide +kernel, by decide +kernel⟩
theorem ok_lots_left {f : Addr} {fd : FuncData} (F : Fun K "lots_left" "lots_left" s_lots_left f fd) (T : Txt K mg aN aO tL tM tP) (G_mapped : Fn P w K mg base 9 "mapped" ["plank", "weights", "weight"] (spMapped K CPlank)) (G_by_size : Fn P w K mg base 1 "by_size" ["lot"] (spBySize K)) : FnOk P w K mg base CX0 10 f fd ["plank", "weights", "weight"] (spLotsLeft K CPlank) := by
  have sc := sc_lots_left
  refine F.ok sc (fun vs H Q E h => ?_) (fun cdv A outer s H vs Q E hr h => ?_)
  · (repeat (rcases h with ⟨_, h⟩))
    subst_vars
    rfl
  · obtain ⟨pq, m, wl, ws, W, much, rfl, PL, hwl, hws, GW, hm, hbm, h0, k⟩ := h
    refine ⟨_, (pss_cons (ps_set (i := 3) sc.nd rfl (Or.inl rfl) (pe_fn G_mapped hr (pa_cons (pv 0) (pa_cons (pv 1) (pa_cons (pv 2) pa_nil)))))
 (pss_cons (ps_setDc2 (i := 4) (e0 := .dT []) (own := [("place", 5), ("at", 6), ("behind", 7), ("lot", 8)]) (vs1 := [8]) (g := (gTup K 3 (gCons (gName 5) (gCons (gName 6) (gCons (gName 7) gNil))))) (g1 := (gName 8)) (.inr rfl) (hu_of hr) rfl sc.nd rfl rfl (sw_trueD rfl rfl rfl (by decide +kernel)) (piL K (pv 3)) (blkOk_by (N := n_lots_left) (sc := defScope s_lots_left) (own := [("place", 5), ("at", 6), ("behind", 7), ("lot", 8)]) (by decide +kernel)) (by decide) (fun _ _ _ _ _ => (pg_tup rfl (pgs_cons (pg_name (i := 5) sc.nd rfl (Or.inl rfl)) (pgs_cons (pg_name (i := 6) sc.nd rfl (Or.inl rfl)) (pgs_cons (pg_name (i := 7) sc.nd rfl (Or.inl rfl)) pgs_nil))))) (fun _ _ _ _ _ => pts_nil) (fun _ _ _ _ _ => (piT K (pe_tup (pa_cons (pv 6) (pa_cons (pv 7) pa_nil))))) (fun _ _ _ _ _ => (pg_name (i := 8) sc.nd rfl (Or.inl rfl))) (fun _ _ _ _ _ => pts_one (pt_cmpR op_notN (pv 8) pe_non (nomark _))) (fun _ _ _ _ _ => (pv 8)) (fun _ _ _ _ _ => pe_bl))
 (pss_one (ps_ret (pe_sortedBy G_by_size hr rfl (by rfl) T.bsorted (by rfl) (pv 4)))))), ?_⟩
    refine ⟨_, rfl, _, rfl, _, rfl, pq, m, wl, ws, W, much, rfl, PL, hwl, hws, GW, hm, hbm, h0, fun H1 p R s1 np TR hRl MA => ?_⟩
    obtain ⟨xs, ve, hp, hxs, hve⟩ := id MA
    have tri := tris_of hxs hve
    have ltr := pr_len tri
    generalize hts : tris (rowsOf (leftOf W much) R) (leftOf W much (endOf R)) = ts at tri ltr
    refine ⟨_, rfl, p, rfl, ⟨_, SqL.of hp⟩, fun D nD => ?_⟩
    refine gen_it walk_list (fun i H' => Same H1 H' ∧ DMap lotK RTrue H' D ((ts.take i).flatMap triL) (fun _ => ())) ⟨Same.new nD, DMap.nil upd_same⟩ (fun i H' _ q => q.1.seq (SqL.of hp)) (fun i x H2 H3 hi q y => ?_) (fun H2 q => ?_)
    · obtain ⟨rfl, hx⟩ := y
      obtain ⟨s2, dm⟩ := q
      obtain ⟨t, ht, ⟨tq, x1, y1, z1, rfl, htq, hy1, hz1⟩⟩ := pr_get' tri hx
      have hit : i < ts.length := by omega
      refine ⟨tq, _, rfl, SqT.of (s2 _ _ htq), rfl, _, _, rfl, _, _, rfl, _, _, rfl, rfl, rfl, ?_⟩
      refine ⟨_, rfl, _, rfl, (by show 2 ≤ sizeLine; decide), fun tp ntp => ?_⟩
      have et : ts.take (i + 1) = ts.take i ++ [t] := by rw [List.take_add_one, ht]; rfl
      have lfm := fm_len (f := triL) (b := 2) (xs := ts.take i) fun x _ => by unfold triL; cases x.2 <;> simp
      have ltk := List.length_take_le i ts
      have lts : ts.length ≤ 20001 := by
        rw [← hts]
        unfold tris
        rw [List.length_append, List.length_map, List.length_singleton]
        have := rows_len (leftOf W much) R
        omega
      have pre0 : DMap lotK RTrue (upd H3 tp (.tup [y1, z1])) D ((ts.take i).flatMap triL ++ (triL t).take 0) (fun _ => ()) := by
        rw [List.take_zero, List.append_nil]
        exact dm.same RTrue_mono (Same.new ntp)
      refine ⟨tp, rfl, ⟨_, SqT.of upd_same⟩, gen_it walk_tup (fun j H' => Same H1 H' ∧ H' tp = some (.tup [y1, z1]) ∧ DMap lotK RTrue H' D ((ts.take i).flatMap triL ++ (triL t).take j) (fun _ => ())) ⟨s2.trans (Same.new ntp), upd_same, pre0⟩ (fun j H' _ q => SqT.of q.2.1) (fun j x H4 H5 hj q y => ?_) (fun H4 q => ?_)⟩
      · obtain ⟨rfl, hx⟩ := y
        obtain ⟨s4, htp, dm4⟩ := q
        refine ⟨rfl, _, rfl, rfl, _, rfl, ?_⟩
        have put : ∀ (l : List Int), LotN H1 x l → (triL t)[j]? = some l → ∃ H6, DPut H5 D x (.bl true) H6 ∧ Same H1 H6 ∧ H6 tp = some (.tup [y1, z1]) ∧ DMap lotK RTrue H6 D ((ts.take i).flatMap triL ++ (triL t).take (j + 1)) (fun _ => ()) := fun l hl hj2 => by
          obtain ⟨b, rfl, hb⟩ := hl
          obtain ⟨kvs', dp, dm5⟩ := dm4.put (a := l) (v := .bl true) lotK_inj RTrue_mono (by rw [lotK_V]; exact s4 _ _ hb) rfl (by
            rw [List.length_append, List.length_take]
            have : (triL t).length ≤ 2 := by unfold triL; cases t.2 <;> simp
            omega)
          obtain ⟨kvs, hd⟩ := dm4.dT
          refine ⟨_, dp, s4.mut nD, by rw [upd_ne (ne_of htp hd (by intro q; cases q))]; exact htp, ?_⟩
          rw [List.take_add_one, hj2, ← List.append_assoc]
          exact dm5
        rcases j with _ | _ | j
        · have ex : y1 = x := Option.some.inj hx
          subst ex
          obtain ⟨b, rfl, hb⟩ := id hy1
          refine ifT (by simp) ⟨_, rfl, ?_⟩
          exact put t.1 hy1 (by unfold triL; rfl)
        · have ex : z1 = x := Option.some.inj hx
          subst ex
          cases ht2 : t.2 with
          | some L =>
            rw [ht2] at hz1
            have hz1' : LotN H1 z1 L := hz1
            obtain ⟨b, rfl, hb⟩ := id hz1'
            refine ifT (by simp) ⟨_, rfl, ?_⟩
            exact put L hz1' (by unfold triL; rw [ht2]; rfl)
          | none =>
            rw [ht2] at hz1
            have hz1' : z1 = .non := hz1
            subst hz1'
            refine ifF (by simp) ⟨s4, htp, ?_⟩
            have : (triL t).take 2 = (triL t).take 1 := by unfold triL; rw [ht2]; rfl
            rw [this]
            exact dm4
        · exact absurd hj (by show ¬ j + 2 < 2; omega)
      · obtain ⟨s4, htp, dm4⟩ := q
        refine ⟨s4, ?_⟩
        rw [et, List.flatMap_append, List.flatMap_singleton]
        have : (triL t).take [y1, z1].length = triL t := List.take_of_length_le (by unfold triL; cases t.2 <;> simp)
        rw [this] at dm4
        exact dm4
    · obtain ⟨s2, dm⟩ := q
      rw [List.take_of_length_le (by omega)] at dm
      obtain ⟨kvs, qs, hd, hkq, nd, mem, hql, _⟩ := dm.keys lotK_inj
      have hal : (ts.flatMap triL).length ≤ 45000 := by
        have := fm_len (f := triL) (b := 2) (xs := ts) fun x _ => by unfold triL; cases x.2 <;> simp
        have lts : ts.length ≤ 20001 := by
          rw [← hts]
          unfold tris
          rw [List.length_append, List.length_map, List.length_singleton]
          have := rows_len (leftOf W much) R
          omega
        omega
      refine ⟨_, rfl, D, kvs, qs, rfl, hd, hkq, by omega, fun p2 bs np2 hbs => ?_⟩
      obtain ⟨o1, o2⟩ := sorted_size nd
      have s3 : Same H2 (upd H2 p2 (.lst (bs.map V.ref))) := Same.new np2
      refine k _ p2 _ R _ ((s1.trans s2).trans s3) upd_same TR (pr_of (by rw [List.length_map]; exact Paired.length hbs) fun j v l e1 e2 => ?_) o1 fun l => ?_
      · rw [List.getElem?_map] at e1
        obtain ⟨b, eb, rfl⟩ := Option.map_eq_some_iff.mp e1
        obtain ⟨l', el', hl'⟩ := LiI.paired_get hbs eb
        rw [e2] at el'
        cases el'
        exact ⟨b, rfl, s3 _ _ hl'⟩
      · rw [o2, mem, ← tris_lots, hts]
end
end PF
end
section
set_option maxHeartbeats 4000000
set_option exponentiation.threshold 20000
namespace PF
open PySem L2
/-- small whole numbers, as the script's cells are spread -/
def Dig (ds : List Int) : Prop := ∀ d ∈ ds, 0 ≤ d ∧ d < 1009
def spCell (K : PySem.W.Frag) : Sp := fun vs H Q _ => ∃ (a : Addr) (ns : List Int) (k : Int), vs = [.ref a, .int k] ∧ SqL K H a (ns.map V.int) ∧ 0 ≤ k ∧ k ≤ 100 ∧ ∀ c : Int, Q (.int c) H
def spDigits : Sp := fun vs H Q _ => ∃ (c : Int) (n : Nat), vs = [.int c, .int (n : Int)] ∧ n ≤ 100 ∧ ∀ H' l ds, Same H H' → H' l = some (.lst (ds.map V.int)) → ds.length = n → Dig ds → Q (.ref l) H'
def spKeys : Sp := fun vs H Q _ => ∃ n : Nat, vs = [.int (n : Int)] ∧ n ≤ 12 ∧ ∀ H' l xs, Same H H' → H' l = some (.lst xs) → Paired (KyN H') xs (keys n) → Q (.ref l) H'
section
variable {P : Program} {w : World} {K : PySem.W.Frag} {mg : Str → Option Value} {base : Heap} {aN aO : Addr} {tL tM tP : Tok} {CPlank CLoads : Addr}
abbrev s_law_cell : Stmt := topS 53
abbrev n_law_cell : List Str := ["_law_script", "_law_k"]
theorem sc_law_cell : FnScope n_law_cell ["_law_script", "_law_k"] (defScope s_law_cell) := ⟨rfl, rfl, rfl, by decide +kernel, rfl, by decide +kernel, by decide +kernel⟩
theorem ok_law_cell {f : Addr} {fd : FuncData} (F : Fun K "_law_cell" "_law_cell" s_law_cell f fd) (T : Txt K mg aN aO tL tM tP)  : FnOk P w K mg base CX0 1 f fd ["_law_script", "_law_k"] (spCell K) := by
  have sc := sc_law_cell
  refine F.ok sc (fun vs H Q E h => ?_) (fun cdv A outer s H vs Q E hr h => ?_)
  · (repeat (rcases h with ⟨_, h⟩))
    subst_vars
    rfl
  · obtain ⟨a, ns, i, rfl, ha, h0, h1, k⟩ := h
    refine ⟨_, (pss_cons (ps_if (pt_cmpR op_lt (pv 1) (pe_callB (cLen K) (by rfl) T.blen (by decide +kernel) (pa_cons (pv 0) pa_nil)) (nomark _))
 (pss_one (ps_ret (pe_ix (ixL K) (pv 0) (pv 1) (fun _ _ => rfl))))
 pss_nil)
 (pss_one (ps_ret (pe_op op_add (pe_op op_mulW pe_int (pv 1)) pe_int)))), ?_⟩
    refine ⟨_, rfl, _, rfl, a, _, rfl, .inl ha, _, _, rfl, rfl, _, rfl, ?_⟩
    refine ifB (fun c => ?_) (fun c => ?_)
    · have hlt : i < ((ns.map V.int).length : Int) := of_decide_eq_true c
      rw [List.length_map] at hlt
      have hj : i.toNat < ns.length := by omega
      refine ⟨_, rfl, _, rfl, a, _, i, .int (ns[i.toNat]), rfl, rfl, ha, at_of (j := i.toNat) (by omega) (by rw [List.getElem?_map, List.getElem?_eq_getElem hj]; rfl), k _⟩
    · refine ⟨_, rfl, _, _, rfl, rfl, mulW (a := 2) (b := 7) (by decide) (by omega) (by decide), _, _, rfl, rfl, k _⟩
abbrev s_law_digits : Stmt := topS 54
abbrev n_law_digits : List Str := ["_law_cell_here", "_law_wanted", "_law_found", "_law_rest", "_law_number", "_law_k"]
theorem sc_law_digits : FnScope n_law_digits ["_law_cell_here", "_law_wanted"] (defScope s_law_digits) := ⟨rfl, rfl, rfl, by decide +kernel, rfl, by decide +kernel, by decide +kernel⟩
theorem ok_law_digits {f : Addr} {fd : FuncData} (F : Fun K "_law_digits" "_law_digits" s_law_digits f fd) (T : Txt K mg aN aO tL tM tP)  : FnOk P w K mg base CX0 1 f fd ["_law_cell_here", "_law_wanted"] spDigits := by
  have sc := sc_law_digits
  refine F.ok sc (fun vs H Q E h => ?_) (fun cdv A outer s H vs Q E hr h => ?_)
  · (repeat (rcases h with ⟨_, h⟩))
    subst_vars
    rfl
  · obtain ⟨c, n, rfl, hn, k⟩ := h
    refine ⟨_, (pss_cons (ps_set (i := 2) sc.nd rfl (Or.inl rfl) (pe_lst pa_nil))
 (pss_cons (ps_set (i := 3) sc.nd rfl (Or.inl rfl) pe_int)
 (pss_cons (ps_if (pt_cmpR op_ge (pv 0) (pe_op op_pow pe_int pe_int) (nomark _))
 (pss_one (ps_set (i := 3) sc.nd rfl (Or.inl rfl) (pv 0)))
 pss_nil)
 (pss_cons (ps_set (i := 4) sc.nd rfl (Or.inl rfl) (pe_op op_mod (pe_callTy call_int1 (by rfl) T.bint (by decide +kernel) (pa_cons (pv 0) pa_nil)) pe_int))
 (pss_cons (ps_for PassesOwn.never rfl (pi_range1 rfl T.brange (pa_cons (pv 1) pa_nil)) (pg_name (i := 5) sc.nd rfl (Or.inl rfl))
 (pss_cons (ps_set (i := 4) sc.nd rfl (Or.inl rfl) (pe_op op_mod (pe_callTy call_int1 (by rfl) T.bint (by decide +kernel) (pa_cons (pe_op op_add (pe_op op_add (pe_op op_mulW (pv 4) pe_int) (pe_op op_mulW pe_int (pv 5))) pe_int) pa_nil)) pe_int))
 (pss_cons (ps_set (i := 4) sc.nd rfl (Or.inl rfl) (pe_op op_mod (pe_callTy call_int1 (by rfl) T.bint (by decide +kernel) (pa_cons (pe_op op_mulW (pv 4) (pe_op op_add (pe_op op_fdivW (pv 4) pe_int) pe_int)) pa_nil)) pe_int))
 (pss_one (ps_if (pt_cmpR op_gt (pv 3) pe_int (nomark _))
 (pss_cons (ps_expr (pe_bm PySem.F.plainAttrs_list PySem.F.slot_list_append PySem.F.type_list_append mt_append (pv 2) (pa_cons (pe_op op_mod (pe_callTy call_int1 (by rfl) T.bint (by decide +kernel) (pa_cons (pv 3) pa_nil)) pe_int) pa_nil)))
 (pss_one (ps_set (i := 3) sc.nd rfl (Or.inl rfl) (pe_op op_fdivW (pv 3) pe_int))))
 (pss_one (ps_expr (pe_bm PySem.F.plainAttrs_list PySem.F.slot_list_append PySem.F.type_list_append mt_append (pv 2) (pa_cons (pe_op op_mod (pe_callTy call_int1 (by rfl) T.bint (by decide +kernel) (pa_cons (pe_op op_fdivW (pv 4) pe_int) pa_nil)) pe_int) pa_nil)))))))))
 (pss_one (ps_ret (pv 2)))))))), ?_⟩
    refine ⟨by show 0 ≤ sizeLine; decide, fun fo nfo => ?_⟩
    have s1 : Same H (upd H fo (.lst [])) := Same.new nfo
    refine ⟨_, rfl, _, _, rfl, rfl, ⟨by decide, by decide, by decide⟩, _, _, rfl, rfl, _, rfl, ?_⟩
    refine ifB (fun c0 => ?_) (fun c0 => ?_)
    · refine ⟨_, rfl, ?_⟩
      refine ⟨_, rfl, .inl ⟨_, rfl, ?_⟩⟩
      refine ⟨_, _, rfl, rfl, (by show (0 : Int) < 2147483629; decide), ?_⟩
      refine ⟨_, rfl, _, rfl, by omega, by omega, ?_⟩
      refine for_it walk_rg0 (fun i σ H' => (∃ (rest num : Int) (c1 : Option V), σ = [some (.int c), some (.int (n : Int)), some (.ref fo), some (.int rest), some (.int num), c1] ∧ 0 ≤ num ∧ num < 2147483629) ∧ Same H H' ∧ ∃ ds, H' fo = some (.lst (ds.map V.int)) ∧ ds.length = i ∧ Dig ds) ⟨⟨_, _, _, rfl, Int.emod_nonneg _ (by decide), Int.emod_lt_of_pos _ (by decide)⟩, s1, [], upd_same, rfl, fun d hd => by simp at hd⟩ (fun _ _ _ _ _ => trivial) ?_ ?_
      · rintro i x σ H1 H2 hi ⟨⟨rest, num, c1, rfl, n0, n1⟩, s2, ds, hfo, hl, hd⟩ ⟨rfl, rfl⟩
        have hi2 : i < 100 := Nat.lt_of_lt_of_le hi hn
        refine ⟨_, rfl, _, _, rfl, rfl, mulW (a := 32) (b := 17) (by omega) (by decide) (by decide), _, rfl, _, _, rfl, rfl, mulW (a := 16) (b := 7) (by decide) (by omega) (by decide), _, _, rfl, rfl, _, _, rfl, rfl, .inl ⟨_, rfl, _, _, rfl, rfl, (by show (0 : Int) < 2147483629; decide), ?_⟩⟩
        have a0 := Int.emod_nonneg (num * 69621 + 40503 * (i : Int) + 17) (show (2147483629 : Int) ≠ 0 by decide)
        have a1 := Int.emod_lt_of_pos (num * 69621 + 40503 * (i : Int) + 17) (show (0 : Int) < 2147483629 by decide)
        refine ⟨_, rfl, _, rfl, _, _, rfl, rfl, divW (b := 10) (by decide) (by decide) (by decide), _, _, rfl, rfl, _, _, rfl, rfl, mulW (a := 32) (b := 33) (by omega) (by omega) (by decide), .inl ⟨_, rfl, _, _, rfl, rfl, (by show (0 : Int) < 2147483587; decide), ?_⟩⟩
        have b0 := Int.emod_nonneg ((num * 69621 + 40503 * (i : Int) + 17) % 2147483629 * ((num * 69621 + 40503 * (i : Int) + 17) % 2147483629 / 907 + 30011)) (show (2147483587 : Int) ≠ 0 by decide)
        have b1 := Int.emod_lt_of_pos ((num * 69621 + 40503 * (i : Int) + 17) % 2147483629 * ((num * 69621 + 40503 * (i : Int) + 17) % 2147483629 / 907 + 30011)) (show (0 : Int) < 2147483587 by decide)
        refine ⟨_, rfl, _, _, rfl, rfl, _, rfl, ?_⟩
        have put : ∀ d : Int, 0 ≤ d → d < 1009 → Same H (upd H2 fo (.lst (ds.map V.int ++ [.int d]))) ∧ ∃ ds', upd H2 fo (.lst (ds.map V.int ++ [.int d])) fo = some (.lst (ds'.map V.int)) ∧ ds'.length = i + 1 ∧ Dig ds' := fun d h0 h1 => by
          refine ⟨s2.mut nfo, ds ++ [d], by rw [upd_same, List.map_append]; rfl, by rw [List.length_append, hl]; rfl, fun e he => ?_⟩
          rcases List.mem_append.mp he with he | he
          · exact hd e he
          · rw [List.mem_singleton.mp he]
            exact ⟨h0, h1⟩
        have hsz : (ds.map V.int).length < sizeLine := szl (by rw [List.length_map]; omega)
        refine ifB (fun cc => ?_) (fun cc => ?_)
        · refine ⟨_, rfl, .inl ⟨rfl, _, SqL.of hfo⟩, _, rfl, .inl ⟨_, rfl, _, _, rfl, rfl, (by show (0 : Int) < 1009; decide), fo, _, _, rfl, rfl, hfo, hsz, ?_⟩⟩
          refine ⟨_, rfl, _, _, rfl, rfl, divW (b := 10) (by decide) (by decide) (by decide), ⟨_, _, _, rfl, b0, by omega⟩, ?_⟩
          exact put _ (Int.emod_nonneg _ (by decide)) (Int.emod_lt_of_pos _ (by decide))
        · refine ⟨_, rfl, .inl ⟨rfl, _, SqL.of hfo⟩, _, rfl, _, _, rfl, rfl, divW (b := 4) (by decide) (by decide) (by decide), .inl ⟨_, rfl, _, _, rfl, rfl, (by show (0 : Int) < 1009; decide), fo, _, _, rfl, rfl, hfo, hsz, ?_⟩⟩
          exact ⟨⟨_, _, _, rfl, b0, by omega⟩, put _ (Int.emod_nonneg _ (by decide)) (Int.emod_lt_of_pos _ (by decide))⟩
      · rintro σ H1 ⟨⟨rest, num, c1, rfl, n0, n1⟩, s2, ds, hfo, hl, hd⟩
        exact ⟨_, rfl, k _ fo ds s2 hfo hl hd⟩
    · refine ⟨_, rfl, .inl ⟨_, rfl, ?_⟩⟩
      refine ⟨_, _, rfl, rfl, (by show (0 : Int) < 2147483629; decide), ?_⟩
      refine ⟨_, rfl, _, rfl, by omega, by omega, ?_⟩
      refine for_it walk_rg0 (fun i σ H' => (∃ (rest num : Int) (c1 : Option V), σ = [some (.int c), some (.int (n : Int)), some (.ref fo), some (.int rest), some (.int num), c1] ∧ 0 ≤ num ∧ num < 2147483629) ∧ Same H H' ∧ ∃ ds, H' fo = some (.lst (ds.map V.int)) ∧ ds.length = i ∧ Dig ds) ⟨⟨_, _, _, rfl, Int.emod_nonneg _ (by decide), Int.emod_lt_of_pos _ (by decide)⟩, s1, [], upd_same, rfl, fun d hd => by simp at hd⟩ (fun _ _ _ _ _ => trivial) ?_ ?_
      · rintro i x σ H1 H2 hi ⟨⟨rest, num, c1, rfl, n0, n1⟩, s2, ds, hfo, hl, hd⟩ ⟨rfl, rfl⟩
        have hi2 : i < 100 := Nat.lt_of_lt_of_le hi hn
        refine ⟨_, rfl, _, _, rfl, rfl, mulW (a := 32) (b := 17) (by omega) (by decide) (by decide), _, rfl, _, _, rfl, rfl, mulW (a := 16) (b := 7) (by decide) (by omega) (by decide), _, _, rfl, rfl, _, _, rfl, rfl, .inl ⟨_, rfl, _, _, rfl, rfl, (by show (0 : Int) < 2147483629; decide), ?_⟩⟩
        have a0 := Int.emod_nonneg (num * 69621 + 40503 * (i : Int) + 17) (show (2147483629 : Int) ≠ 0 by decide)
        have a1 := Int.emod_lt_of_pos (num * 69621 + 40503 * (i : Int) + 17) (show (0 : Int) < 2147483629 by decide)
        refine ⟨_, rfl, _, rfl, _, _, rfl, rfl, divW (b := 10) (by decide) (by decide) (by decide), _, _, rfl, rfl, _, _, rfl, rfl, mulW (a := 32) (b := 33) (by omega) (by omega) (by decide), .inl ⟨_, rfl, _, _, rfl, rfl, (by show (0 : Int) < 2147483587; decide), ?_⟩⟩
        have b0 := Int.emod_nonneg ((num * 69621 + 40503 * (i : Int) + 17) % 2147483629 * ((num * 69621 + 40503 * (i : Int) + 17) % 2147483629 / 907 + 30011)) (show (2147483587 : Int) ≠ 0 by decide)
        have b1 := Int.emod_lt_of_pos ((num * 69621 + 40503 * (i : Int) + 17) % 2147483629 * ((num * 69621 + 40503 * (i : Int) + 17) % 2147483629 / 907 + 30011)) (show (0 : Int) < 2147483587 by decide)
        refine ⟨_, rfl, _, _, rfl, rfl, _, rfl, ?_⟩
        have put : ∀ d : Int, 0 ≤ d → d < 1009 → Same H (upd H2 fo (.lst (ds.map V.int ++ [.int d]))) ∧ ∃ ds', upd H2 fo (.lst (ds.map V.int ++ [.int d])) fo = some (.lst (ds'.map V.int)) ∧ ds'.length = i + 1 ∧ Dig ds' := fun d h0 h1 => by
          refine ⟨s2.mut nfo, ds ++ [d], by rw [upd_same, List.map_append]; rfl, by rw [List.length_append, hl]; rfl, fun e he => ?_⟩
          rcases List.mem_append.mp he with he | he
          · exact hd e he
          · rw [List.mem_singleton.mp he]
            exact ⟨h0, h1⟩
        have hsz : (ds.map V.int).length < sizeLine := szl (by rw [List.length_map]; omega)
        refine ifB (fun cc => ?_) (fun cc => ?_)
        · refine ⟨_, rfl, .inl ⟨rfl, _, SqL.of hfo⟩, _, rfl, .inl ⟨_, rfl, _, _, rfl, rfl, (by show (0 : Int) < 1009; decide), fo, _, _, rfl, rfl, hfo, hsz, ?_⟩⟩
          refine ⟨_, rfl, _, _, rfl, rfl, divW (b := 10) (by decide) (by decide) (by decide), ⟨_, _, _, rfl, b0, by omega⟩, ?_⟩
          exact put _ (Int.emod_nonneg _ (by decide)) (Int.emod_lt_of_pos _ (by decide))
        · refine ⟨_, rfl, .inl ⟨rfl, _, SqL.of hfo⟩, _, rfl, _, _, rfl, rfl, divW (b := 4) (by decide) (by decide) (by decide), .inl ⟨_, rfl, _, _, rfl, rfl, (by show (0 : Int) < 1009; decide), fo, _, _, rfl, rfl, hfo, hsz, ?_⟩⟩
          exact ⟨⟨_, _, _, rfl, b0, by omega⟩, put _ (Int.emod_nonneg _ (by decide)) (Int.emod_lt_of_pos _ (by decide))⟩
      · rintro σ H1 ⟨⟨rest, num, c1, rfl, n0, n1⟩, s2, ds, hfo, hl, hd⟩
        exact ⟨_, rfl, k _ fo ds s2 hfo hl hd⟩
abbrev s_law_keys : Stmt := topS 63
abbrev n_law_keys : List Str := ["_law_many", "_law_found", "_law_prop", "_law_left_here", "_law_right_here"]
theorem sc_law_keys : FnScope n_law_keys ["_law_many"] (defScope s_law_keys) := ⟨rfl, rfl, rfl, by decide +kernel, rfl, by decide +kernel, by decide +kernel⟩
theorem ok_law_keys {f : Addr} {fd : FuncData} (F : Fun K "_law_keys" "_law_keys" s_law_keys f fd) (T : Txt K mg aN aO tL tM tP)  : FnOk P w K mg base CX0 1 f fd ["_law_many"] spKeys := by
  have sc := sc_law_keys
  refine F.ok sc (fun vs H Q E h => ?_) (fun cdv A outer s H vs Q E hr h => ?_)
  · (repeat (rcases h with ⟨_, h⟩))
    subst_vars
    rfl
  · obtain ⟨n, rfl, hn, k⟩ := h
    refine ⟨_, (pss_cons (ps_set (i := 1) sc.nd rfl (Or.inl rfl) (pe_lst pa_nil))
 (pss_cons (ps_for PassesOwn.never rfl (pi_range1 rfl T.brange (pa_cons (pv 0) pa_nil)) (pg_name (i := 2) sc.nd rfl (Or.inr rfl))
 (pss_one (ps_for PassesOwn.never rfl (pi_range2 rfl T.brange (pa_cons (pe_un un_neg pe_int) (pa_cons (pv 2) pa_nil))) (pg_name (i := 3) sc.nd rfl (Or.inr rfl))
 (pss_one (ps_expr (pe_bm PySem.F.plainAttrs_list PySem.F.slot_list_extend PySem.F.type_list_extend mt_extend (pv 1) (pa_cons (pe_lc (own := [("_law_right_here", 4)]) (g := (gName 4)) rfl sc.nd (pi_range2 rfl T.brange (pa_cons (pe_op op_add (pv 2) pe_int) (pa_cons (pe_op op_add (pv 0) pe_int) pa_nil))) (blkOk_by (N := n_law_keys) (sc := defScope s_law_keys) (own := [("_law_right_here", 4)]) (by decide +kernel)) (fun _ _ _ _ _ => (pg_name (i := 4) sc.nd rfl (Or.inl rfl))) (fun _ _ _ _ _ => pts_nil) (fun _ _ _ _ _ => (pe_tup (pa_cons (pv 3) (pa_cons (pv 2) (pa_cons (pv 4) pa_nil)))))) pa_nil)))))))
 (pss_one (ps_ret (pv 1))))), ?_⟩
    refine ⟨by show 0 ≤ sizeLine; decide, fun fo nfo => ?_⟩
    have s1 : Same H (upd H fo (.lst [])) := Same.new nfo
    refine ⟨_, rfl, _, rfl, by omega, by omega, ?_⟩
    refine for_it walk_rg0 (fun i σ H' => (∃ c1 c2 c3, σ = [some (.int (n : Int)), some (.ref fo), c1, c2, c3]) ∧ Same H H' ∧ ∃ xs, H' fo = some (.lst xs) ∧ Paired (KyN H') xs (kp1 n i) ∧ i ≤ n) ⟨⟨_, _, _, rfl⟩, s1, [], upd_same, .nil, Nat.zero_le _⟩ (fun _ _ _ _ _ => trivial) ?_ ?_
    · rintro i x σ H1 H2 hi ⟨⟨c1, c2, c3, rfl⟩, s2, xs, hfo, hxs, _⟩ ⟨rfl, rfl⟩
      have hi2 : i < n := hi
      refine ⟨_, rfl, _, rfl, _, _, rfl, ⟨by omega, by omega, by omega, by omega⟩, ?_⟩
      have en : ((i : Int) - -1).toNat = i + 1 := by omega
      rw [en]
      refine for_it walk_range (fun l σ H' => (∃ c2 c3, σ = [some (.int (n : Int)), some (.ref fo), some (.int (i : Int)), c2, c3]) ∧ Same H H' ∧ ∃ xs, H' fo = some (.lst xs) ∧ Paired (KyN H') xs (kp1 n i ++ kp2 n i l)) ⟨⟨_, _, rfl⟩, s2, xs, hfo, by simpa [kp2] using hxs⟩ (fun _ _ _ _ _ => trivial) ?_ ?_
      · rintro l x σ H3 H4 hl ⟨⟨c2, c3, rfl⟩, s3, ys, hys, hp⟩ ⟨rfl, rfl⟩
        refine ⟨_, rfl, .inl ⟨rfl, _, SqL.of hys⟩, ?_⟩
        refine ⟨_, rfl, _, _, rfl, rfl, _, rfl, _, _, rfl, rfl, _, _, rfl, ⟨by omega, by omega, by omega, by omega⟩, fun D nD => ?_⟩
        have er : ((n : Int) + 1 - ((i : Int) + 1)).toNat = n - i := by omega
        rw [er]
        refine lc_map walk_range (fun r => (((l : Int) - 1, (i : Int), (i : Int) + 1 + (r : Int)) : Ky)) KyN (fun _ _ _ _ u h => h.mono u) nD (by omega) (fun _ _ => trivial) (fun r x H5 H6 hr s5 yy => ?_) (fun H5 zs s5 hD hz => ?_)
        · obtain ⟨rfl, rfl⟩ := yy
          refine ⟨Same.refl _, fun Qk kk => ?_⟩
          refine ⟨rfl, _, rfl, _, rfl, _, rfl, (by show 3 ≤ sizeLine; decide), fun t nt => kk _ _ (Same.new nt) ⟨t, rfl, ?_⟩⟩
          rw [upd_same]
          have e1 : (-1 : Int) + (l : Int) = (l : Int) - 1 := by omega
          simp only [e1]
        · have hys5 := s5 _ _ hys
          refine ⟨fo, D, _, _, rfl, rfl, hys5, hD, ?_, ?_⟩
          · have h1 := pr_len hp
            have h2 := pr_len hz
            rw [List.length_map, List.length_range] at h2
            have h3 := kp_len (n := n) (p := i) (l := l) (r := 0) hn (by omega) (by omega) (by omega)
            have e3 : kp3 i l 0 = [] := rfl
            rw [e3, List.append_nil] at h3
            exact szL (by omega)
          · have tu := Tu.upd (o := .lst (ys ++ zs)) hys5 trivial
            refine ⟨⟨_, _, rfl⟩, (s3.trans s5).mut nfo, ys ++ zs, upd_same, ?_⟩
            rw [kp2_succ, ← List.append_assoc]
            exact pr_app (pr_mono hz fun _ _ h => h.mono tu) (pr_mono hp fun _ _ h => (h.mono s5.tu).mono tu)
      · rintro σ H3 ⟨⟨c2, c3, rfl⟩, s3, ys, hys, hp⟩
        rw [← kp1_succ] at hp
        exact ⟨⟨_, _, _, rfl⟩, s3, ys, hys, hp, hi2⟩
    · rintro σ H1 ⟨⟨c1, c2, c3, rfl⟩, s2, xs, hfo, hxs, _⟩
      exact ⟨_, rfl, k _ fo xs s2 hfo hxs⟩
end
end PF
end
section
set_option maxHeartbeats 4000000
set_option exponentiation.threshold 20000
namespace PF
open PySem L2
/-! ### the law's world in the heap: length and places -/
def WLS (H : Hp) (v : V) (W : Wd) : Prop := ∃ (d ls : Addr) (kvs : List (Key × V)), v = .ref d ∧ H d = some (.dK kvs) ∧ valV kvs (Sum.inr ("long" : Str)) = some (.int W.long) ∧ valV kvs (Sum.inr ("spots" : Str)) = some (.ref ls) ∧ H ls = some (.lst ((W.ss.map (·.1)).map V.int))
theorem WLS.mono {H H' : Hp} {v : V} {W : Wd} (s : Same H H') (h : WLS H v W) : WLS H' v W := by
  obtain ⟨d, ls, kvs, e, h1, h2, h3, h4⟩ := h
  exact ⟨d, ls, kvs, e, s _ _ h1, h2, h3, s _ _ h4⟩
theorem places_get {long : Int} {ss : List (Int × Rat)} {r : Int} (h1 : -1 ≤ r) (h2 : r ≤ (ss.length : Int)) :
    (([V.int 0] ++ (ss.map (·.1)).map V.int) ++ [V.int long])[(r + 1).toNat]? = some (.int (placeOf long ss r)) := by
  unfold placeOf
  by_cases c1 : r = -1
  · subst c1
    rfl
  · rw [if_neg c1]
    obtain ⟨m, rfl⟩ : ∃ m : Nat, r = (m : Int) := ⟨r.toNat, by omega⟩
    have em : ((m : Int) + 1).toNat = m + 1 := by omega
    rw [em]
    by_cases c2 : (m : Int) = (ss.length : Int)
    · rw [if_pos c2]
      have : m = ss.length := by omega
      subst this
      rw [List.getElem?_append_right (by simp)]
      simp
    · rw [if_neg c2]
      have hm : m < ss.length := by omega
      rw [List.getElem?_append_left (by simp; omega)]
      have : ((m : Int)).toNat = m := rfl
      rw [this]
      simp [List.getElem?_eq_getElem hm]
theorem den_ne (x : Rat) : ((x.den : Int) : Rat) ≠ 0 := by
  intro e
  have := Rat.intCast_eq_zero_iff.mp e
  have := x.den_nz
  omega
theorem x_parts (x : Rat) : (x.num : Rat) = x * ((x.den : Int) : Rat) := by
  have h : (x.num : Rat) / ((x.den : Int) : Rat) = x := by
    rw [← Rat.divInt_eq_div]
    exact Rat.num_divInt_den x
  have n := den_ne x
  rw [Rat.div_def] at h
  generalize ((x.den : Int) : Rat) = d at h n ⊢
  generalize (x.num : Rat) = m at h ⊢
  rw [← h]
  grind
theorem share_cut1 {x : Rat} {lo he : Int} (h : lo < he) : Rat.divInt (x.num - lo * x.den) (x.den * (he - lo)) = (x - (lo : Rat)) / ((he - lo : Int) : Rat) := by
  rw [Rat.divInt_eq_div, Rat.intCast_sub, Rat.intCast_mul, Rat.intCast_mul, x_parts x]
  have n1 := sub_ne h
  have n2 : ((x.den : Int) : Rat) ≠ 0 := by
    intro e
    have := Rat.intCast_eq_zero_iff.mp e
    have := x.den_nz
    omega
  generalize ((x.den : Int) : Rat) = d at n2 ⊢
  generalize ((he - lo : Int) : Rat) = g at n1 ⊢
  grind
theorem share_cut2 {x : Rat} {he hi : Int} (h : he < hi) : Rat.divInt (hi * x.den - x.num) (x.den * (hi - he)) = ((hi : Rat) - x) / ((hi - he : Int) : Rat) := by
  rw [Rat.divInt_eq_div, Rat.intCast_sub, Rat.intCast_mul, Rat.intCast_mul, x_parts x]
  have n1 := sub_ne h
  have n2 : ((x.den : Int) : Rat) ≠ 0 := by
    intro e
    have := Rat.intCast_eq_zero_iff.mp e
    have := x.den_nz
    omega
  generalize ((x.den : Int) : Rat) = d at n2 ⊢
  generalize ((hi - he : Int) : Rat) = g at n1 ⊢
  grind
def KeyAt (K : PySem.W.Frag) (H : Hp) (v : V) (k : Ky) : Prop := ∃ t, v = .ref t ∧ SqT K H t [.int k.1, .int k.2.1, .int k.2.2]
theorem KyN.at {K : PySem.W.Frag} {H : Hp} {v : V} {k : Ky} (h : KyN H v k) : KeyAt K H v k := by
  obtain ⟨t, e, h⟩ := h
  exact ⟨t, e, SqT.of h⟩
def spLawShare (K : PySem.W.Frag) : Sp := fun vs H Q _ => ∃ (v u t : V) (W : Wd) (k : Ky) (x : Rat) (n : Nat), vs = [v, t, u] ∧ WLS H v W ∧ KeyAt K H t k ∧ GoodP W.long W.ss ∧ GoodKey W.ss.length k ∧ Fr K H u x ∧ Bd n x ∧ n ≤ 8000 ∧ ∀ H' v', Same H H' → Fr K H' v' (share W k x) → Q v' H'
def spLawLoad (K : PySem.W.Frag) : Sp := fun vs H Q _ => ∃ (v t : V) (wl : Addr) (ws : List V) (W : Wd) (k : Ky), vs = [v, .ref wl, t] ∧ WLS H v W ∧ H wl = some (.lst ws) ∧ Paired (Hvy K H) ws W.heavy ∧ KeyAt K H t k ∧ GoodW W ∧ GoodKey W.ss.length k ∧ ∀ H' v', Same H H' → Fr K H' v' (loadOf W k) → Q v' H'
def spAmid (K : PySem.W.Frag) : Sp := fun vs H Q _ => ∃ (u v : V) (a b : Rat) (n : Nat), vs = [u, v] ∧ Fr K H u a ∧ Fr K H v b ∧ Bd n a ∧ Bd n b ∧ n ≤ 3000 ∧ ∀ H' v', Same H H' → Fr K H' v' (amid a b) → Q v' H'
def spLawRising (K : PySem.W.Frag) : Sp := fun vs H Q _ => ∃ (l : Addr) (xs : List V) (qs : List Rat) (b : Nat), vs = [.ref l] ∧ H l = some (.lst xs) ∧ Paired (Fr K H) xs qs ∧ (∀ q ∈ qs, Bd b q) ∧ b ≤ 4400 ∧ qs.length ≤ 20000 ∧
  ∀ (H' : Hp) (p : Addr) (ys : List V) (R : List Rat), Same H H' → H' p = some (.lst ys) → Paired (Fr K H') ys R → R.Pairwise (· < ·) → (∀ x, x ∈ R ↔ x ∈ qs) → R.length ≤ qs.length → Q (.ref p) H'
theorem gd_mono {H H' : Hp} {d : Addr} {s : Str} {o : Option V} (g : DGet H d (kV (Sum.inr s)) o) (s1 : Same H H') : DGet H' d (.str s) o := by
  rcases g with ⟨kvs, k, e, ey, r⟩ | ⟨kvs, k, b, e, ey, eb, r⟩
  · exact .inl ⟨kvs, k, s1.rd e, ey, r⟩
  · cases ey
section
variable {P : Program} {w : World} {K : PySem.W.Frag} {mg : Str → Option Value} {base : Heap} {aN aO : Addr} {tL tM tP : Tok} {CPlank CLoads : Addr}
abbrev s_law_share : Stmt := topS 61
abbrev n_law_share : List Str := ["_law_world_here", "_law_key", "_law_spot", "_law_places", "_law_low", "_law_here", "_law_high", "_law_rest"]
theorem sc_law_share : FnScope n_law_share ["_law_world_here", "_law_key", "_law_spot"] (defScope s_law_share) := ⟨rfl, rfl, rfl, by decide +kernel, rfl, by decide +kernel, by decide +kernel⟩
theorem ok_law_share {f : Addr} {fd : FuncData} (F : Fun K "_law_share" "_law_share" s_law_share f fd) (T : Txt K mg aN aO tL tM tP) (G_law_is_below : Fn P w K mg base 1 "_law_is_below" ["_law_one", "_law_other"] (spBelow K)) (G_law_cut : Fn P w K mg base 1 "_law_cut" ["_law_top", "_law_bottom"] spCut) : FnOk P w K mg base CX0 2 f fd ["_law_world_here", "_law_key", "_law_spot"] (spLawShare K) := by
  have sc := sc_law_share
  refine F.ok sc (fun vs H Q E h => ?_) (fun cdv A outer s H vs Q E hr h => ?_)
  · (repeat (rcases h with ⟨_, h⟩))
    subst_vars
    rfl
  · obtain ⟨v, u, t, W, ky, x, n, rfl, ⟨d, ls, kvs, rfl, hd, hlong, hspots, hls⟩, ⟨kt, rfl, hkt⟩, GP, gk, hu, hb, hn, k⟩ := h
    have gL := DGet.k (k := Sum.inr ("long" : Str)) hd
    rw [hlong] at gL
    have gS := DGet.k (k := Sum.inr ("spots" : Str)) hd
    rw [hspots] at gS
    obtain ⟨g1, g2, g3, g4, g5⟩ := id gk
    have few := GP.few
    refine ⟨_, (pss_cons (ps_set (i := 3) sc.nd rfl (Or.inr rfl) (pe_op op_cat (pe_op op_cat (pe_lst (pa_cons pe_int pa_nil)) (pe_dget (hu_of hr) (pv 0) pe_str (fun _ _ => rfl))) (pe_lst (pa_cons (pe_dget (hu_of hr) (pv 0) pe_str (fun _ _ => rfl)) pa_nil))))
 (pss_cons (ps_asg (pe_lc (own := [("_law_rest", 7)]) (g := (gName 7)) rfl sc.nd (piT K (pv 1)) (blkOk_by (N := n_law_share) (sc := defScope s_law_share) (own := [("_law_rest", 7)]) (by decide +kernel)) (fun _ _ _ _ _ => (pg_name (i := 7) sc.nd rfl (Or.inl rfl))) (fun _ _ _ _ _ => pts_nil) (fun _ _ _ _ _ => (pe_ix (ixL K) (pv 3) (pe_op op_add (pv 7) pe_int) (fun _ _ => rfl)))) (pg_unl rfl (pgs_cons (pg_name (i := 4) sc.nd rfl (Or.inl rfl)) (pgs_cons (pg_name (i := 5) sc.nd rfl (Or.inl rfl)) (pgs_cons (pg_name (i := 6) sc.nd rfl (Or.inl rfl)) pgs_nil)))))
 (pss_cons (ps_if (PW.pt (pw_and (pt_val (pe_fn G_law_is_below hr (pa_cons (pe_tup (pa_cons (pv 4) (pa_cons pe_int pa_nil))) (pa_cons (pv 2) pa_nil)))) (pw_and1 (pt_not (pt_val (pe_fn G_law_is_below hr (pa_cons (pe_tup (pa_cons (pv 5) (pa_cons pe_int pa_nil))) (pa_cons (pv 2) pa_nil))))))))
 (pss_one (ps_ret (pe_fn G_law_cut hr (pa_cons (pe_op op_sub (pe_ix (ixT K) (pv 2) pe_int (fun _ _ => rfl)) (pe_op op_mulW (pv 4) (pe_ix (ixT K) (pv 2) pe_int (fun _ _ => rfl)))) (pa_cons (pe_op op_mulW (pe_ix (ixT K) (pv 2) pe_int (fun _ _ => rfl)) (pe_op op_sub (pv 5) (pv 4))) pa_nil)))))
 pss_nil)
 (pss_cons (ps_if (PW.pt (pw_and (pt_val (pe_fn G_law_is_below hr (pa_cons (pe_tup (pa_cons (pv 5) (pa_cons pe_int pa_nil))) (pa_cons (pv 2) pa_nil)))) (pw_and1 (pt_val (pe_fn G_law_is_below hr (pa_cons (pv 2) (pa_cons (pe_tup (pa_cons (pv 6) (pa_cons pe_int pa_nil))) pa_nil)))))))
 (pss_one (ps_ret (pe_fn G_law_cut hr (pa_cons (pe_op op_sub (pe_op op_mulW (pv 6) (pe_ix (ixT K) (pv 2) pe_int (fun _ _ => rfl))) (pe_ix (ixT K) (pv 2) pe_int (fun _ _ => rfl))) (pa_cons (pe_op op_mulW (pe_ix (ixT K) (pv 2) pe_int (fun _ _ => rfl)) (pe_op op_sub (pv 6) (pv 5))) pa_nil)))))
 pss_nil)
 (pss_one (ps_ret (pe_tup (pa_cons pe_int (pa_cons pe_int pa_nil))))))))), ?_⟩
    refine ⟨(by show 1 ≤ sizeLine; decide), fun l0 nl0 => ?_⟩
    have s1 : Same H (upd H l0 (.lst [.int 0])) := Same.new nl0
    have hl0 : upd H l0 (.lst [.int 0]) l0 = some (.lst [.int 0]) := upd_same
    generalize upd H l0 (.lst [.int 0]) = H1 at s1 hl0 ⊢
    refine ⟨_, rfl, d, _, rfl, gd_mono gS s1, l0, ls, _, _, rfl, rfl, hl0, s1 _ _ hls, (by show _ ≤ sizeLine; refine szL ?_; simp; omega), fun l1 nl1 => ?_⟩
    have s2 : Same H (upd H1 l1 (.lst ([.int 0] ++ (W.ss.map (·.1)).map V.int))) := s1.news nl1
    have hl1 : upd H1 l1 (.lst ([.int 0] ++ (W.ss.map (·.1)).map V.int)) l1 = some (.lst ([.int 0] ++ (W.ss.map (·.1)).map V.int)) := upd_same
    generalize upd H1 l1 (.lst ([.int 0] ++ (W.ss.map (·.1)).map V.int)) = H2 at s2 hl1 ⊢
    refine ⟨_, rfl, d, _, rfl, gd_mono gL s2, (by show 1 ≤ sizeLine; decide), fun l2 nl2 => ?_⟩
    have s3 : Same H2 (upd H2 l2 (.lst [.int W.long])) := Same.new nl2
    have hl2 : upd H2 l2 (.lst [.int W.long]) l2 = some (.lst [.int W.long]) := upd_same
    generalize upd H2 l2 (.lst [.int W.long]) = H3 at s3 hl2 ⊢
    refine ⟨l1, l2, _, _, rfl, rfl, s3 _ _ hl1, hl2, (by show _ ≤ sizeLine; refine szL ?_; simp; omega), fun pl npl => ?_⟩
    have s4 : Same H (upd H3 pl (.lst (([.int 0] ++ (W.ss.map (·.1)).map V.int) ++ [.int W.long]))) := (s2.trans s3).news npl
    have hpl : upd H3 pl (.lst (([.int 0] ++ (W.ss.map (·.1)).map V.int) ++ [.int W.long])) pl = some (.lst (([.int 0] ++ (W.ss.map (·.1)).map V.int) ++ [.int W.long])) := upd_same
    generalize upd H3 pl (.lst (([.int 0] ++ (W.ss.map (·.1)).map V.int) ++ [.int W.long])) = H4 at s4 hpl ⊢
    refine ⟨_, rfl, kt, rfl, ⟨_, s4.sqT hkt⟩, fun D nD => lc_map walk_tup (fun j => (([W.place ky.1, W.place ky.2.1, W.place ky.2.2] : List Int)[j]?).getD 0) (fun _ v a => v = V.int a) (fun _ _ _ _ _ h => h) nD (by show 3 ≤ 90000; decide) (fun H' s => s.sqT (s4.sqT hkt)) (fun j y H5 H6 hj s5 yy => ?_) (fun H5 ys s5 hD hys => ?_)⟩
    · obtain ⟨rfl, hy⟩ := yy
      refine ⟨Same.refl _, fun Qk kk => ?_⟩
      have hjr : ∃ r : Int, y = .int r ∧ -1 ≤ r ∧ r ≤ (W.ss.length : Int) ∧ ((([W.place ky.1, W.place ky.2.1, W.place ky.2.2] : List Int)[j]?).getD 0) = W.place r := by
        rcases j with _ | _ | _ | j
        · exact ⟨ky.1, (Option.some.inj hy).symm, by omega, by omega, rfl⟩
        · exact ⟨ky.2.1, (Option.some.inj hy).symm, by omega, by omega, rfl⟩
        · exact ⟨ky.2.2, (Option.some.inj hy).symm, by omega, by omega, rfl⟩
        · exact absurd hj (by show ¬ j + 3 < 3; omega)
      obtain ⟨r', rfl, hr1, hr2, hr3⟩ := hjr
      refine ⟨rfl, _, rfl, _, rfl, _, _, rfl, rfl, pl, _, _, _, rfl, rfl, SqL.of (s5 _ _ hpl), at_of (j := (r' + 1).toNat) (by omega) (places_get hr1 hr2), ?_⟩
      refine kk _ _ (Same.refl _) ?_
      rw [hr3]
      rfl
    · have e := ints_pr hys
      have e3 : ys = [V.int (W.place ky.1), V.int (W.place ky.2.1), V.int (W.place ky.2.2)] := e
      subst e3
      have s05 := s4.trans s5
      have hu5 := hu.mono s05.tu
      obtain ⟨xu, rfl, hxu⟩ := id hu5
      have a1 := place_bd GP g1 (by omega)
      have a2 := place_lt GP g1 g2 (by omega)
      have a3 := place_lt GP (by omega) g3 g4
      have a4 := place_bd GP (r := ky.2.2) (by omega) g4
      have gh := GP.hi
      have el : W.place ky.1 = placeOf W.long W.ss ky.1 := rfl
      have eh : W.place ky.2.1 = placeOf W.long W.ss ky.2.1 := rfl
      have er : W.place ky.2.2 = placeOf W.long W.ss ky.2.2 := rfl
      rw [← el] at a1 a2
      rw [← eh] at a2 a3
      rw [← er] at a3 a4
      have esh : share W ky x = shareAt (W.place ky.1) (W.place ky.2.1) (W.place ky.2.2) x := rfl
      generalize W.place ky.1 = lo at a1 a2 esh hD ⊢
      generalize W.place ky.2.1 = he at a2 a3 esh hD ⊢
      generalize W.place ky.2.2 = hi at a3 a4 esh hD ⊢
      have bl := bd10 (i := lo) (by omega) (by omega)
      have bh := bd10 (i := he) (by omega) (by omega)
      have br := bd10 (i := hi) (by omega) (by omega)
      refine ⟨D, _, rfl, SqL.of hD, rfl, _, _, rfl, _, _, rfl, _, _, rfl, rfl, ?_⟩
      have new2 : ∀ {H6 : Hp} {t : Addr} (z : Int), H6 t = none → FrN (upd H6 t (.tup [.int z, .int 1])) (.ref t) (z : Rat) := fun z _ => ⟨_, rfl, upd_same⟩
      refine ⟨_, rfl, (by show 2 ≤ sizeLine; decide), fun t1 nt1 => ?_⟩
      have s6 : Same H5 (upd H5 t1 (.tup [.int lo, .int 1])) := Same.new nt1
      refine ⟨_, rfl, _, _, (lo : Rat), x, 10, n, rfl, (new2 lo nt1).fr, hu5.mono s6.tu, bl, hb, by omega, _, rfl, ?_⟩
      generalize upd H5 t1 (.tup [.int lo, .int 1]) = H6 at s6 ⊢
      have second : ∀ (H7 : Hp), Same H5 H7 → ¬ ((lo : Rat) < x ∧ ¬ (he : Rat) < x) → True := fun _ _ _ => trivial
      refine ifB (fun c1 => ?_) (fun c1 => ?_)
      · refine ⟨_, rfl, (by show 2 ≤ sizeLine; decide), fun t2 nt2 => ?_⟩
        have s7 : Same H5 (upd H6 t2 (.tup [.int he, .int 1])) := s6.news nt2
        refine ⟨_, rfl, _, _, (he : Rat), x, 10, n, rfl, (new2 he nt2).fr, hu5.mono s7.tu, bh, hb, by omega, _, rfl, ?_⟩
        generalize upd H6 t2 (.tup [.int he, .int 1]) = H7 at s7 ⊢
        refine ifB (fun c2 => ?_) (fun c2 => ?_)
        · have d1 : (lo : Rat) < x := of_decide_eq_true c1
          have d2 : ¬ (he : Rat) < x := by simpa using c2
          have hxu7 := s7.sqT hxu
          refine ⟨_, rfl, _, _, _, _, rfl, rfl, hxu7, rfl, _, rfl, _, rfl, _, _, _, _, rfl, rfl, hxu7, rfl, _, _, rfl, rfl, mulW bl.1 (den_lt2 hb) (by omega), _, _, rfl, rfl, _, rfl, _, _, _, _, rfl, rfl, hxu7, rfl, _, rfl, _, rfl, _, _, rfl, rfl, _, _, rfl, rfl, mulW (b := 10) (den_lt2 hb) (by omega) (by omega), ?_⟩
          refine ⟨_, _, rfl, Int.mul_pos (den_pos x) (by omega), Nat.lt_of_lt_of_le (mul_lt2 (m := 10) (den_lt2 hb) (by omega)) (two_le (by omega)), fun q nq => ?_⟩
          refine k _ _ ((s05.trans s7).news nq) ⟨q, rfl, ?_⟩
          rw [esh]
          unfold shareAt
          rw [if_pos ⟨d1, d2⟩, ← share_cut1 a2]
          exact SqT.of upd_same
        · have d0 : ¬ ((lo : Rat) < x ∧ ¬ (he : Rat) < x) := fun z => z.2 (by simpa using c2)
          refine ⟨_, rfl, (by show 2 ≤ sizeLine; decide), fun t3 nt3 => ?_⟩
          have s8 : Same H5 (upd H7 t3 (.tup [.int he, .int 1])) := s7.news nt3
          refine ⟨_, rfl, _, _, (he : Rat), x, 10, n, rfl, (new2 he nt3).fr, hu5.mono s8.tu, bh, hb, by omega, _, rfl, ?_⟩
          generalize upd H7 t3 (.tup [.int he, .int 1]) = H8 at s8 ⊢
          have zero : ¬ ((he : Rat) < x ∧ x < (hi : Rat)) → ∀ (H9 : Hp) (q : Addr), Same H5 H9 → H9 q = none → Q (.ref q) (upd H9 q (.tup [.int 0, .int 1])) := fun e0 H9 q s9 nq => by
            refine k _ _ ((s05.trans s9).news nq) ⟨q, rfl, ?_⟩
            rw [esh]
            unfold shareAt
            rw [if_neg d0, if_neg e0]
            exact SqT.of upd_same
          refine ifB (fun c3 => ?_) (fun c3 => ?_)
          · refine ⟨_, rfl, _, rfl, (by show 2 ≤ sizeLine; decide), fun t4 nt4 => ?_⟩
            have s9 : Same H5 (upd H8 t4 (.tup [.int hi, .int 1])) := s8.news nt4
            refine ⟨_, _, x, (hi : Rat), n, 10, rfl, hu5.mono s9.tu, (new2 hi nt4).fr, hb, br, by omega, _, rfl, ?_⟩
            generalize upd H8 t4 (.tup [.int hi, .int 1]) = H9 at s9 ⊢
            refine ifB (fun c4 => ?_) (fun c4 => ?_)
            · have e1 : (he : Rat) < x := of_decide_eq_true c3
              have e2 : x < (hi : Rat) := of_decide_eq_true c4
              have hxu9 := s9.sqT hxu
              refine ⟨_, rfl, _, rfl, _, _, _, _, rfl, rfl, hxu9, rfl, _, _, rfl, rfl, mulW br.1 (den_lt2 hb) (by omega), _, rfl, _, _, _, _, rfl, rfl, hxu9, rfl, _, _, rfl, rfl, _, rfl, _, _, _, _, rfl, rfl, hxu9, rfl, _, rfl, _, rfl, _, _, rfl, rfl, _, _, rfl, rfl, mulW (b := 10) (den_lt2 hb) (by omega) (by omega), ?_⟩
              refine ⟨_, _, rfl, Int.mul_pos (den_pos x) (by omega), Nat.lt_of_lt_of_le (mul_lt2 (m := 10) (den_lt2 hb) (by omega)) (two_le (by omega)), fun q nq => ?_⟩
              refine k _ _ ((s05.trans s9).news nq) ⟨q, rfl, ?_⟩
              rw [esh]
              unfold shareAt
              rw [if_neg d0, if_pos ⟨e1, e2⟩, ← share_cut2 a3]
              exact SqT.of upd_same
            · exact ⟨(by show 2 ≤ sizeLine; decide), fun q nq => zero (fun z => (of_decide_eq_false c4) z.2) _ q s9 nq⟩
          · exact ⟨(by show 2 ≤ sizeLine; decide), fun q nq => zero (fun z => (of_decide_eq_false c3) z.1) _ q s8 nq⟩
      · have d0 : ¬ ((lo : Rat) < x ∧ ¬ (he : Rat) < x) := fun z => (of_decide_eq_false c1) z.1
        refine ⟨_, rfl, (by show 2 ≤ sizeLine; decide), fun t3 nt3 => ?_⟩
        have s8 : Same H5 (upd H6 t3 (.tup [.int he, .int 1])) := s6.news nt3
        refine ⟨_, rfl, _, _, (he : Rat), x, 10, n, rfl, (new2 he nt3).fr, hu5.mono s8.tu, bh, hb, by omega, _, rfl, ?_⟩
        generalize upd H6 t3 (.tup [.int he, .int 1]) = H8 at s8 ⊢
        have zero : ¬ ((he : Rat) < x ∧ x < (hi : Rat)) → ∀ (H9 : Hp) (q : Addr), Same H5 H9 → H9 q = none → Q (.ref q) (upd H9 q (.tup [.int 0, .int 1])) := fun e0 H9 q s9 nq => by
          refine k _ _ ((s05.trans s9).news nq) ⟨q, rfl, ?_⟩
          rw [esh]
          unfold shareAt
          rw [if_neg d0, if_neg e0]
          exact SqT.of upd_same
        refine ifB (fun c3 => ?_) (fun c3 => ?_)
        · refine ⟨_, rfl, _, rfl, (by show 2 ≤ sizeLine; decide), fun t4 nt4 => ?_⟩
          have s9 : Same H5 (upd H8 t4 (.tup [.int hi, .int 1])) := s8.news nt4
          refine ⟨_, _, x, (hi : Rat), n, 10, rfl, hu5.mono s9.tu, (new2 hi nt4).fr, hb, br, by omega, _, rfl, ?_⟩
          generalize upd H8 t4 (.tup [.int hi, .int 1]) = H9 at s9 ⊢
          refine ifB (fun c4 => ?_) (fun c4 => ?_)
          · have e1 : (he : Rat) < x := of_decide_eq_true c3
            have e2 : x < (hi : Rat) := of_decide_eq_true c4
            have hxu9 := s9.sqT hxu
            refine ⟨_, rfl, _, rfl, _, _, _, _, rfl, rfl, hxu9, rfl, _, _, rfl, rfl, mulW br.1 (den_lt2 hb) (by omega), _, rfl, _, _, _, _, rfl, rfl, hxu9, rfl, _, _, rfl, rfl, _, rfl, _, _, _, _, rfl, rfl, hxu9, rfl, _, rfl, _, rfl, _, _, rfl, rfl, _, _, rfl, rfl, mulW (b := 10) (den_lt2 hb) (by omega) (by omega), ?_⟩
            refine ⟨_, _, rfl, Int.mul_pos (den_pos x) (by omega), Nat.lt_of_lt_of_le (mul_lt2 (m := 10) (den_lt2 hb) (by omega)) (two_le (by omega)), fun q nq => ?_⟩
            refine k _ _ ((s05.trans s9).news nq) ⟨q, rfl, ?_⟩
            rw [esh]
            unfold shareAt
            rw [if_neg d0, if_pos ⟨e1, e2⟩, ← share_cut2 a3]
            exact SqT.of upd_same
          · exact ⟨(by show 2 ≤ sizeLine; decide), fun q nq => zero (fun z => (of_decide_eq_false c4) z.2) _ q s9 nq⟩
        · exact ⟨(by show 2 ≤ sizeLine; decide), fun q nq => zero (fun z => (of_decide_eq_false c3) z.1) _ q s8 nq⟩
end
end PF
end
section
set_option maxHeartbeats 4000000
set_option exponentiation.threshold 20000
namespace PF
open PySem L2
theorem fr_new {H : Hp} {t : Addr} {q : Rat} : FrN (upd H t (.tup [.int q.num, .int (q.den : Int)])) (.ref t) q := ⟨t, rfl, upd_same⟩
def frsD (R : List Rat) : PyData := .list (R.map frD)
theorem dpA_frs {K : PySem.W.Frag} {H : Hp} : ∀ {vs : List V} {R : List Rat}, Paired (Fr K H) vs R → DpAll K H vs (R.map frD)
  | _, _, .nil => .nil
  | _, _, .cons h t => .cons (fr_dp h) (dpA_frs t)
theorem frs_sh (R : List Rat) : SeqAt.shaped (.list (R.map frD)) = true := lst_sh fun d hd => by
  obtain ⟨r, _, rfl⟩ := List.mem_map.mp hd
  exact ⟨(frD_can r).1, by rw [(frD_can r).2]; omega⟩
theorem frs_any (R : List Rat) (q : Rat) : ((R.map frD).any fun z => PyData.eqv z (frD q)) = decide (q ∈ R) := by
  rw [Bool.eq_iff_iff, List.any_eq_true, decide_eq_true_eq]
  constructor
  · rintro ⟨d, hd, e⟩
    obtain ⟨r, hr, rfl⟩ := List.mem_map.mp hd
    rw [frD_eq, decide_eq_true_eq] at e
    rw [← e]
    exact hr
  · intro h
    exact ⟨frD q, List.mem_map.mpr ⟨q, h, rfl⟩, by rw [frD_eq]; simp⟩
section
variable {P : Program} {w : World} {K : PySem.W.Frag} {mg : Str → Option Value} {base : Heap} {aN aO : Addr} {tL tM tP : Tok} {CPlank CLoads : Addr}
abbrev s_law_load : Stmt := topS 62
abbrev n_law_load : List Str := ["_law_world_here", "_law_heavy_here", "_law_key", "_law_found", "_law_spot", "_law_much"]
theorem sc_law_load : FnScope n_law_load ["_law_world_here", "_law_heavy_here", "_law_key"] (defScope s_law_load) := ⟨rfl, rfl, rfl, by decide +kernel, rfl, by decide +kernel, by decide +kernel⟩
theorem ok_law_load {f : Addr} {fd : FuncData} (F : Fun K "_law_load" "_law_load" s_law_load f fd) (T : Txt K mg aN aO tL tM tP) (G_law_plus : Fn P w K mg base 2 "_law_plus" ["_law_one", "_law_other"] (sp2 K (fun a b => a + b) (fun _ _ => True))) (G_law_by : Fn P w K mg base 2 "_law_by" ["_law_one", "_law_other"] (sp2 K (fun a b => a * b) (fun _ _ => True))) (G_law_share : Fn P w K mg base 2 "_law_share" ["_law_world_here", "_law_key", "_law_spot"] (spLawShare K)) : FnOk P w K mg base CX0 3 f fd ["_law_world_here", "_law_heavy_here", "_law_key"] (spLawLoad K) := by
  have sc := sc_law_load
  refine F.ok sc (fun vs H Q E h => ?_) (fun cdv A outer s H vs Q E hr h => ?_)
  · (repeat (rcases h with ⟨_, h⟩))
    subst_vars
    rfl
  · obtain ⟨v, t, wl, ws, W, ky, rfl, WL, hwl, hws, KA, GW, gk, k⟩ := h
    obtain ⟨d, ls, kvs, rfl, hd, hlong, hspots, hls⟩ := id WL
    have el := pr_len hws
    refine ⟨_, (pss_cons (ps_set (i := 3) sc.nd rfl (Or.inl rfl) (pe_tup (pa_cons pe_int (pa_cons pe_int pa_nil))))
 (pss_cons (ps_for PassesOwn.never rfl (piL K (pv 1)) (pg_tup rfl (pgs_cons (pg_name (i := 4) sc.nd rfl (Or.inl rfl)) (pgs_cons (pg_name (i := 5) sc.nd rfl (Or.inl rfl)) pgs_nil)))
 (pss_one (ps_set (i := 3) sc.nd rfl (Or.inl rfl) (pe_fn G_law_plus hr (pa_cons (pv 3) (pa_cons (pe_fn G_law_by hr (pa_cons (pv 5) (pa_cons (pe_fn G_law_share hr (pa_cons (pv 0) (pa_cons (pv 2) (pa_cons (pv 4) pa_nil)))) pa_nil))) pa_nil))))))
 (pss_one (ps_ret (pv 3))))), ?_⟩
    refine ⟨(by show 2 ≤ sizeLine; decide), fun f0 nf0 => ?_⟩
    have s1 : Same H (upd H f0 (.tup [.int 0, .int 1])) := Same.new nf0
    refine ⟨_, rfl, wl, rfl, ⟨_, SqL.of (s1 _ _ hwl)⟩, for_it walk_list (fun i σ H' => Same H H' ∧ ∃ u c1 c2, σ = [some (.ref d), some (.ref wl), some t, some u, c1, c2] ∧ Fr K H' u (((W.heavy.map fun h => h.2 * share W ky h.1).take i).foldl (· + ·) 0)) ⟨s1, .ref f0, _, _, rfl, ⟨f0, rfl, SqT.of upd_same⟩⟩ (fun i σ H' _ p => SqL.of (p.1 _ _ hwl)) ?_ ?_⟩
    · rintro i x σ H1 H2 hi ⟨s2, u, c1, c2, rfl, hu⟩ ⟨rfl, hx⟩
      obtain ⟨hv, hhv, ⟨tq, x1, x2, rfl, ht, hx1, hx2⟩⟩ := pr_get' hws hx
      have gh := GW.each hv (List.mem_of_getElem? hhv)
      have hi2 : i < W.heavy.length := by omega
      have few := GW.few
      have b1 := foldl_bd (b := 241) ((W.heavy.map fun h => h.2 * share W ky h.1).take i) 0 1 bd0 fun z hz => term_bd GW gk z (List.mem_of_mem_take hz)
      have ln : ((W.heavy.map fun h => h.2 * share W ky h.1).take i).length = i := by rw [List.length_take, List.length_map]; omega
      rw [ln] at b1
      refine ⟨tq, _, rfl, s2.tu.sqT ht, rfl, _, _, rfl, _, _, rfl, rfl, ?_⟩
      refine ⟨_, rfl, _, rfl, _, rfl, _, rfl, _, rfl, .ref d, x1, t, W, ky, hv.1, 110, rfl, WL.mono s2, ?_, GW.p, gk, hx1.mono s2.tu, gh.1, by decide, fun H3 v3 s3 f3 => ?_⟩
      · obtain ⟨kt, e, hkt⟩ := KA
        exact ⟨kt, e, s2.sqT hkt⟩
      have sb := share_bd GW.p gk gh.1
      refine ⟨_, _, hv.2, _, 110, 131, rfl, (hx2.mono s2.tu).mono s3.tu, f3, gh.2.1, sb.mono (by decide), by decide, trivial, fun H4 v4 s4 f4 => ?_⟩
      have bt := gh.2.1.mul (sb.mono (show 110 + 21 ≤ 131 by decide))
      refine ⟨_, _, _, _, _, 241, rfl, (hu.mono s3.tu).mono s4.tu, f4.fr, b1, bt, by omega, trivial, fun H5 v5 s5 f5 => ?_⟩
      refine ⟨((s2.trans s3).trans s4).trans s5, v5, _, _, rfl, ?_⟩
      rw [List.take_add_one, List.getElem?_map, hhv]
      simpa using f5.fr
    · rintro σ H1 ⟨s2, u, c1, c2, rfl, hu⟩
      rw [el, List.take_of_length_le (by rw [List.length_map]; exact Nat.le_refl _)] at hu
      exact ⟨_, rfl, k _ _ s2 hu⟩
abbrev s_law_amid : Stmt := topS 71
abbrev n_law_amid : List Str := ["_law_one", "_law_other"]
theorem sc_law_amid : FnScope n_law_amid ["_law_one", "_law_other"] (defScope s_law_amid) := ⟨rfl, rfl, rfl, by decide +kernel, rfl, by decide +kernel, by decide +kernel⟩
theorem ok_law_amid {f : Addr} {fd : FuncData} (F : Fun K "_law_amid" "_law_amid" s_law_amid f fd) (T : Txt K mg aN aO tL tM tP) (G_law_part_of : Fn P w K mg base 2 "_law_part_of" ["_law_one", "_law_other"] (sp2 K (fun a b => a / b) (fun _ b => 0 < b))) (G_law_plus : Fn P w K mg base 2 "_law_plus" ["_law_one", "_law_other"] (sp2 K (fun a b => a + b) (fun _ _ => True))) : FnOk P w K mg base CX0 3 f fd ["_law_one", "_law_other"] (spAmid K) := by
  have sc := sc_law_amid
  refine F.ok sc (fun vs H Q E h => ?_) (fun cdv A outer s H vs Q E hr h => ?_)
  · (repeat (rcases h with ⟨_, h⟩))
    subst_vars
    rfl
  · obtain ⟨u, v, a, b, n, rfl, ha, hb, ba, bb, hn, k⟩ := h
    refine ⟨_, (pss_one (ps_ret (pe_fn G_law_part_of hr (pa_cons (pe_fn G_law_plus hr (pa_cons (pv 0) (pa_cons (pv 1) pa_nil))) (pa_cons (pe_tup (pa_cons pe_int (pa_cons pe_int pa_nil))) pa_nil))))), ?_⟩
    refine ⟨_, rfl, _, rfl, _, _, a, b, n, n, rfl, ha, hb, ba, bb, by omega, trivial, fun H1 v1 s1 f1 => ?_⟩
    refine ⟨(by show 2 ≤ sizeLine; decide), fun t nt => ?_⟩
    have s2 : Same H1 (upd H1 t (.tup [.int 2, .int 1])) := Same.new nt
    have f2 : FrN (upd H1 t (.tup [.int 2, .int 1])) (.ref t) 2 := ⟨t, rfl, upd_same⟩
    refine ⟨_, _, a + b, 2, n + n + 1, 2, rfl, f1.fr.mono s2.tu, f2.fr, ba.add bb, ⟨by decide, by decide⟩, by omega, (show (0 : Rat) < 2 by decide), fun H3 v3 s3 f3 => ?_⟩
    exact k _ _ ((s1.trans s2).trans s3) f3.fr
abbrev s_law_rising : Stmt := topS 70
abbrev n_law_rising : List Str := ["_law_some", "_law_found", "_law_one", "_law_at_here", "_law_other"]
theorem sc_law_rising : FnScope n_law_rising ["_law_some"] (defScope s_law_rising) := ⟨rfl, rfl, rfl, by decide +kernel, rfl, by decide +kernel, by decide +kernel⟩
theorem ok_law_rising {f : Addr} {fd : FuncData} (F : Fun K "_law_rising" "_law_rising" s_law_rising f fd) (T : Txt K mg aN aO tL tM tP) (G_law_is_below : Fn P w K mg base 1 "_law_is_below" ["_law_one", "_law_other"] (spBelow K)) : FnOk P w K mg base CX0 2 f fd ["_law_some"] (spLawRising K) := by
  have sc := sc_law_rising
  refine F.ok sc (fun vs H Q E h => ?_) (fun cdv A outer s H vs Q E hr h => ?_)
  · (repeat (rcases h with ⟨_, h⟩))
    subst_vars
    rfl
  · obtain ⟨l, xs, qs, b, rfl, hl, hs, hb, hb4, hz, k⟩ := h
    have el := pr_len hs
    refine ⟨_, (pss_cons (ps_set (i := 1) sc.nd rfl (Or.inl rfl) (pe_lst pa_nil))
 (pss_cons (ps_for PassesOwn.never rfl (piL K (pv 0)) (pg_name (i := 2) sc.nd rfl (Or.inr rfl))
 (pss_one (ps_if (pt_cmpR (oNotInD K (hru65 hr)) (pv 2) (pv 1) (by rfl))
 (pss_cons (ps_set (i := 3) sc.nd rfl (Or.inl rfl) (pe_callB (cLen K) (by rfl) T.blen (by decide +kernel) (pa_cons (pe_lc (own := [("_law_other", 4)]) (g := (gName 4)) rfl sc.nd (piL K (pv 1)) (blkOk_by (N := n_law_rising) (sc := defScope s_law_rising) (own := [("_law_other", 4)]) (by decide +kernel)) (fun _ _ _ _ _ => (pg_name (i := 4) sc.nd rfl (Or.inl rfl))) (fun _ _ _ _ _ => pts_one (pt_val (pe_fn G_law_is_below hr (pa_cons (pv 4) (pa_cons (pv 2) pa_nil))))) (fun _ _ _ _ _ => (pv 4))) pa_nil)))
 (pss_one (ps_set (i := 1) sc.nd rfl (Or.inl rfl) (pe_op op_cat (pe_op op_cat (pe_slice (slL K) (pv 1) po_none (po_some (pv 3))) (pe_lst (pa_cons (pv 2) pa_nil))) (pe_slice (slL K) (pv 1) (po_some (pv 3)) po_none)))))
 pss_nil)))
 (pss_one (ps_ret (pv 1))))), ?_⟩
    refine ⟨by show 0 ≤ sizeLine; decide, fun fo nfo => ?_⟩
    have s1 : Same H (upd H fo (.lst [])) := Same.new nfo
    refine ⟨_, rfl, l, rfl, ⟨_, SqL.of (s1 _ _ hl)⟩, for_it walk_list (fun i σ H' => Same H H' ∧ ∃ (fp : Addr) (c1 c2 c3 : Option V) (ys : List V) (R : List Rat), σ = [some (.ref l), some (.ref fp), c1, c2, c3] ∧ H' fp = some (.lst ys) ∧ Paired (Fr K H') ys R ∧ R.Pairwise (· < ·) ∧ (∀ x, x ∈ R ↔ x ∈ qs.take i) ∧ R.length ≤ i) ⟨s1, fo, _, _, _, [], [], rfl, upd_same, .nil, .nil, by simp, Nat.le_refl _⟩ (fun i σ H' _ p => p.1.seq (SqL.of hl)) ?_ ?_⟩
    · rintro i x σ H1 H2 hi ⟨s2, fp, c1, c2, c3, ys, R, rfl, hfo, hys, hR, hmem, hRl⟩ ⟨rfl, hx⟩
      obtain ⟨q, hq, fq⟩ := pr_get' hs hx
      have fq2 := fq.mono s2.tu
      have hyl := pr_len hys
      have et : ∀ y, y ∈ qs.take (i + 1) ↔ y = q ∨ y ∈ R := fun y => by
        rw [hmem, List.take_add_one, hq]
        simp
        exact Or.comm
      refine ⟨_, rfl, _, rfl, frD q, R.map frD, fr_dp fq2, .lst (SqL.of hfo) (dpA_frs hys), frD_sh q, frs_sh R, _, rfl, ?_⟩
      rw [frs_any]
      refine ifB (fun c => ?_) (fun c => ?_)
      · have hn : q ∉ R := by simpa using c
        refine ⟨_, rfl, fp, rfl, ⟨_, SqL.of hfo⟩, fun D nD => lc_filt walk_list (fun i => (R[i]?).getD 0) (fun a => decide (a < q)) (Fr K) (fun _ _ _ _ u h => h.mono u) nD (by omega) (fun H' s => s.seq (SqL.of hfo)) (fun j y H3 H4 hj s3 yy => ?_) (fun H3 zs s3 hD hz2 => ?_)⟩
        · obtain ⟨rfl, hy⟩ := yy
          refine ⟨Same.refl _, fun Qk Qn k1 k2 => ?_⟩
          obtain ⟨r, hr1, fr1⟩ := pr_get' hys hy
          have er : (R[j]?).getD 0 = r := by rw [hr1]; rfl
          have memr := (hmem r).mp (List.mem_of_getElem? hr1)
          refine ⟨rfl, _, rfl, _, rfl, _, _, r, q, b, b, rfl, fr1.mono s3.tu, fq2.mono s3.tu, hb r (List.mem_of_mem_take memr), hb q (List.mem_of_getElem? hq), by omega, _, rfl, ?_⟩
          refine ifB (fun c => ?_) (fun c => ?_)
          · exact ⟨_, rfl, k1 (by rw [er]; exact c) _ _ (Same.refl _) (by rw [er]; exact fr1.mono s3.tu)⟩
          · exact k2 (by rw [er]; exact c) _ (Same.refl _)
        · have eR : (List.range ys.length).map (fun i => (R[i]?).getD 0) = R := by
            rw [hyl]
            refine List.ext_getElem (by simp) fun i h1 h2 => ?_
            simp [List.getElem?_eq_getElem h2]
          rw [eR] at hz2
          have hbl : zs.length = below R q := pr_len hz2
          have hble := below_le R q
          have hfo3 := s3 _ _ hfo
          refine ⟨D, _, rfl, .inl (SqL.of hD), ?_⟩
          rw [hbl]
          refine ⟨_, rfl, _, rfl, _, rfl, fp, _, rfl, SqL.of hfo3, fun p1 np1 => ?_⟩
          rw [cut_to]
          have s4 : Same H3 (upd H3 p1 (.lst (ys.take (below R q)))) := Same.new np1
          have h1 : upd H3 p1 (.lst (ys.take (below R q))) p1 = some (.lst (ys.take (below R q))) := upd_same
          generalize upd H3 p1 (.lst (ys.take (below R q))) = H4 at s4 h1 ⊢
          refine ⟨_, rfl, (by show 1 ≤ sizeLine; decide), fun p2 np2 => ?_⟩
          have s5 : Same H4 (upd H4 p2 (.lst [x])) := Same.new np2
          have h2 : upd H4 p2 (.lst [x]) p2 = some (.lst [x]) := upd_same
          generalize upd H4 p2 (.lst [x]) = H5 at s5 h2 ⊢
          refine ⟨p1, p2, _, _, rfl, rfl, s5 _ _ h1, h2, szL (by rw [List.length_take]; simp; omega), fun p3 np3 => ?_⟩
          have s6 : Same H5 (upd H5 p3 (.lst (ys.take (below R q) ++ [x]))) := Same.new np3
          have h3 : upd H5 p3 (.lst (ys.take (below R q) ++ [x])) p3 = some (.lst (ys.take (below R q) ++ [x])) := upd_same
          generalize upd H5 p3 (.lst (ys.take (below R q) ++ [x])) = H6 at s6 h3 ⊢
          have s36 := (s4.trans s5).trans s6
          refine ⟨_, rfl, _, rfl, _, rfl, fp, _, rfl, SqL.of (s36 _ _ hfo3), fun p4 np4 => ?_⟩
          rw [cut_from]
          have s7 : Same H6 (upd H6 p4 (.lst (ys.drop (below R q)))) := Same.new np4
          have h4 : upd H6 p4 (.lst (ys.drop (below R q))) p4 = some (.lst (ys.drop (below R q))) := upd_same
          generalize upd H6 p4 (.lst (ys.drop (below R q))) = H7 at s7 h4 ⊢
          refine ⟨p3, p4, _, _, rfl, rfl, s7 _ _ h3, h4, szL (by rw [List.length_append, List.length_take, List.length_drop]; simp; omega), fun p5 np5 => ?_⟩
          have s8 : Same H7 (upd H7 p5 (.lst (ys.take (below R q) ++ [x] ++ ys.drop (below R q)))) := Same.new np5
          have s38 := (s36.trans s7).trans s8
          refine ⟨(s2.trans s3).trans s38, p5, _, _, _, _, insQ R q, rfl, upd_same, ?_, insQ_rise hR hn, fun y => (insQ_mem).trans (et y).symm, by rw [insQ_len]; omega⟩
          have hys3 := pr_mono hys fun _ _ h => (h.mono s3.tu).mono s38.tu
          exact pr_app (pr_drop _ hys3) (pr_app (.cons ((fq2.mono s3.tu).mono s38.tu) .nil) (pr_take _ hys3))
      · have hn : q ∈ R := by simpa using c
        refine ⟨s2, fp, _, _, _, ys, R, rfl, hfo, hys, hR, fun y => ?_, by omega⟩
        rw [et]
        constructor
        · exact .inr
        · rintro (rfl | h)
          · exact hn
          · exact h
    · rintro σ H1 ⟨s2, fp, c1, c2, c3, ys, R, rfl, hfo, hys, hR, hmem, hRl⟩
      refine ⟨_, rfl, k _ fp _ R s2 hfo hys hR (fun x => ?_) (by omega)⟩
      rw [hmem, List.take_of_length_le (by omega)]
end
end PF
end
section
set_option maxHeartbeats 4000000
namespace PF
open PySem PySem.Spec PyProof.Rows L2 DT
open PySem.Sem (wp)
section
variable {prog : Program} {w : World} {A : Around} {E : Value → Shared → Prop} {s : Shared}
theorem meetsVals {d : Addr} {es : Array DictEntry} {ep : Nat} (hd : (d == sysModules) = false) :
    MeetsIn prog w (Builtin.«dict.values» ⟨[.ref d], []⟩) (fun _ R s => Raw s.heap d es ep ∧
      R (.ok (.ret (.ref s.heap.objs.size))) { s with heap := s.heap.push { cls := .type "dict_values", data := .fields #[.ref d] } }) :=
  .of_wp fun A R s ⟨hm, h⟩ => by
    unfold Builtin.«dict.values»
    refine wpAny_bind ?_
    unfold Builtin.Dict.noArgs
    refine wpAny_bind (wpAny_notOrdered_dict hm.typeIs ?_)
    show wpAny _ _ (pure d) _ _ s
    refine wpAny_pure ?_
    show wpAny _ _ (Builtin.Dict.showsAll d >>= _) _ _ s
    unfold Builtin.Dict.showsAll
    rw [if_neg (by rw [hd]; exact Bool.false_ne_true)]
    refine wpAny_bind (wpAny_pure ?_)
    exact wpAny_bind (wpAny_newObj_type (wpAny_pure ⟨_, rfl, h⟩))
theorem iterV {v d : Addr} {es : Array DictEntry} {ep : Nat} {Q : Value → Shared → Prop} (hv : s.heap.IsValuesView v d) (hm : Raw s.heap d es ep)
    (hQ : Q (.ref s.heap.objs.size) { s with heap := s.heap.push { cls := .type "dict_valueiterator", data := .fields #[.ref d, .int 0 0, .int es.size 0, .int ep 0] } }) :
    wpAny (model prog w) A (pyIter (.ref v)) Q E s := by
  obtain ⟨ov, hov, hcv, hdv⟩ := id hv
  obtain ⟨o, ho, hc, hdat⟩ := id hm
  refine wpAny_pyIter_slot hv.typeIs PySem.F.slot_dict_values_iter (wpAny_call_entry PySem.F.slot_dict_values_iter hv.typeIs PySem.F.entry_dict_values_iter ?_ (F.args_dict_values_iter_1 _))
  unfold Builtin.«dict_values.__iter__»
  refine wpAny_bind (wpAny_pure ?_)
  refine wpAny_bind ?_
  unfold Builtin.Dict_items.dictOf
  refine wpAny_bind (wpAny_field hov hdv (x := .ref d) rfl (wpAny_pure ?_))
  refine wpAny_bind ?_
  unfold Builtin.Dict_items.newIterator
  refine wpAny_bind (wpAny_dictEntries ho hdat ?_)
  refine wpAny_bind (wpAny_dictEpoch ho hdat ?_)
  have hown : Builtin.Dict_items.ownsTuple "dict_valueiterator" = false := by decide
  simp only [hown, Bool.false_eq_true, if_false]
  refine wpAny_newObj_type (wpAny_pure ⟨_, rfl, "dict_valueiterator", _, ⟨_, Heap.get?_push_size _ rfl, rfl⟩, PySem.F.slot_dict_valueiterator_next.lookup, ?_⟩)
  simpa [rawInt] using hQ
theorem next_val_item {it d : Addr} {i n ep : Nat} {od : Obj} {es : Array DictEntry} {en : DictEntry} {Q : Option Value → Shared → Prop} (hit : s.heap.IsValIter it d i n ep) (hod : s.heap.get? d = some od) (hdd : od.data = .dict es ep)
    (hsz : es.size = n) (hx : es[i]? = some en) (hQ : ∀ h', h'.IsValIter it d (i + 1) n ep → Heap.SameBut it s.heap h' → Q (some en.val) { s with heap := h' }) : wpAny (model prog w) A (pyNext (.ref it)) Q E s := by
  obtain ⟨o, ho, hc, hd⟩ := id hit
  unfold pyNext
  refine wpAny_bind (wpAny_attempt (wpAny_callSpecial?_slot (name := Str.ofString "__next__") hit.typeIs PySem.F.slot_dict_valueiterator_next
    (wpAny_call_entry PySem.F.slot_dict_valueiterator_next hit.typeIs PySem.F.entry_dict_valueiterator_next ?_ (PySem.F.args_dict_valueiterator_next_1 _))))
  refine wpAny_bind (wpAny_pure ?_)
  refine wpAny_bind ?_
  refine wpAny_bind ?_
  first | refine wpAny_bind (wpAny_typeNameOfWhole_valiter hit.typeIs (wpAny_pure ?_)) | refine wpAny_bind (wpAny_typeNameOf_valiter hit.typeIs (wpAny_pure ?_))
  refine wpAny_bind (wpAny_fieldsOf ho hd ?_)
  have hown : Builtin.Dict_items.ownsTuple "dict_valueiterator" = false := by decide
  simp only [hown, Bool.false_eq_true, if_false]
  show wpAny _ _ (if (Value.ref d == Value.none) = true then _ else _) _ _ s
  rw [if_neg (show ¬ ((Value.ref d == Value.none) = true) from Bool.false_ne_true)]
  refine wpAny_bind (wpAny_pure ?_)
  refine wpAny_bind (wpAny_dictEntries hod hdd ?_)
  rw [if_neg (by rw [hsz]; simp)]
  refine wpAny_bind (wpAny_pure ?_)
  refine wpAny_bind (wpAny_dictEpoch hod hdd ?_)
  rw [if_neg (by simp)]
  refine wpAny_pure ?_
  obtain ⟨hlt', hen⟩ := Array.getElem?_eq_some_iff.mp hx
  simp only [show ¬ ((i : Int) < 0) from by omega, if_false, Int.toNat_natCast, Array.getElem?_eq_getElem hlt']
  refine wpAny_bind ?_
  first | refine wpAny_bind (wpAny_typeNameOfWhole_valiter hit.typeIs (wpAny_pure ?_)) | refine wpAny_bind (wpAny_typeNameOf_valiter hit.typeIs (wpAny_pure ?_))
  refine wpAny_bind (wpAny_isOneOf_valiter hit.typeIs ?_)
  show wpAny _ _ (setField (.ref it) 1 (rawInt ((i : Int) + 1)) >>= _) _ _ s
  refine wpAny_bind (wpAny_setField ho hd (by simp) ?_)
  have hit' : (s.heap.update it (Obj.mapFields (·.setIfInBounds 1 (rawInt ((i : Int) + 1))))).IsValIter it d (i + 1) n ep :=
    ⟨_, Heap.get?_update_self _ ho (Obj.isFreed_of_fields (Obj.data_mapFields hd _)), (Obj.cls_mapFields ..).trans hc, by rw [Obj.data_mapFields hd]; simp [rawInt]⟩
  refine wpAny_bind (wpAny_holding ?_)
  refine wpAny_bind (wpAny_isOneOf_valiter (s := { s with heap := s.heap.update it (Obj.mapFields (·.setIfInBounds 1 (rawInt ((i : Int) + 1)))) }) hit'.typeIs ?_)
  refine wpAny_bind (wpAny_isOneOf_valiter (s := { s with heap := s.heap.update it (Obj.mapFields (·.setIfInBounds 1 (rawInt ((i : Int) + 1)))) }) hit'.typeIs ?_)
  show wpAny _ _ (pure es[i].val) _ _ _
  rw [hen]
  exact wpAny_pure (wpAny_pure ⟨_, rfl, wpAny_pure (hQ _ hit' (Heap.SameBut.update ..))⟩)
theorem next_val_end {it d : Addr} {i n ep : Nat} {od : Obj} {es : Array DictEntry} {Q : Option Value → Shared → Prop} (hh : A.handled = none) (hit : s.heap.IsValIter it d i n ep) (hod : s.heap.get? d = some od) (hdd : od.data = .dict es ep)
    (hsz : es.size = n) (hge : n ≤ i) (hQ : ∀ h', Heap.ExtBut it s.heap h' → Q none { s with heap := h' }) : wpAny (model prog w) A (pyNext (.ref it)) Q E s := by
  obtain ⟨o, ho, hc, hd⟩ := id hit
  unfold pyNext
  refine wpAny_bind (wpAny_attempt (wpAny_callSpecial?_slot (name := Str.ofString "__next__") hit.typeIs PySem.F.slot_dict_valueiterator_next
    (wpAny_call_entry PySem.F.slot_dict_valueiterator_next hit.typeIs PySem.F.entry_dict_valueiterator_next ?_ (PySem.F.args_dict_valueiterator_next_1 _))))
  refine wpAny_bind (wpAny_pure ?_)
  refine wpAny_bind ?_
  refine wpAny_bind ?_
  first | refine wpAny_bind (wpAny_typeNameOfWhole_valiter hit.typeIs (wpAny_pure ?_)) | refine wpAny_bind (wpAny_typeNameOf_valiter hit.typeIs (wpAny_pure ?_))
  refine wpAny_bind (wpAny_fieldsOf ho hd ?_)
  have hown : Builtin.Dict_items.ownsTuple "dict_valueiterator" = false := by decide
  simp only [hown, Bool.false_eq_true, if_false]
  show wpAny _ _ (if (Value.ref d == Value.none) = true then _ else _) _ _ s
  rw [if_neg (show ¬ ((Value.ref d == Value.none) = true) from Bool.false_ne_true)]
  refine wpAny_bind (wpAny_pure ?_)
  refine wpAny_bind (wpAny_dictEntries hod hdd ?_)
  rw [if_neg (by rw [hsz]; simp)]
  refine wpAny_bind (wpAny_pure ?_)
  refine wpAny_bind (wpAny_dictEpoch hod hdd ?_)
  rw [if_neg (by simp)]
  refine wpAny_pure ?_
  have hge' : es.size ≤ i := by rw [hsz]; exact hge
  simp only [show ¬ ((i : Int) < 0) from by omega, if_false, Int.toNat_natCast, Array.getElem?_eq_none hge']
  refine wpAny_bind ?_
  first | refine wpAny_bind (wpAny_typeNameOfWhole_valiter hit.typeIs (wpAny_pure ?_)) | refine wpAny_bind (wpAny_typeNameOf_valiter hit.typeIs (wpAny_pure ?_))
  show wpAny _ _ (setField (.ref it) 0 .none >>= _) _ _ s
  refine wpAny_bind (wpAny_setField ho hd (by simp) ?_)
  show wpAny _ _ (newExc (.type "StopIteration") [] >>= _) _ _ _
  refine wpAny_bind ?_
  simp only [newExc, newTuple]
  refine wpAny_bind (wpAny_newObj_type ?_ (by size_fits))
  refine wpAny_bind (m := firstArgMember _ _) (wpAny_of_eq (a := Value.none) (by first | rfl | (simp only [firstArgMember]; rfl)) ?_)
  refine wpAny_newObj_type ?_ (by size_fits)
  simp only [raiseNew]
  refine wpAny_bind (wpAny_handled ?_)
  rw [show A.in1.handled = none from hh]
  refine wpAny_bind (wpAny_pure (wpAny_throw ?_))
  refine wpAny_bind (wpAny_isInstance (T := "StopIteration") (b := true) ⟨_, Heap.get?_push_size _ rfl, rfl⟩ isSubtype_stop ?_)
  exact wpAny_pure (hQ _ (((Heap.SameBut.update ..).extBut.push _).push _))
end
section
variable {X : Cx} {pins : List (Addr × Obj)} {σ : L2.St} {H : Hp} {s : Shared} {d : Addr} {o : Obj}
theorem frzV {kvs : List (List Key × V)} (I : L2.Inv X pins σ H s) (h : H d = some (.frz o (.dT kvs))) :
    (d == sysModules) = false ∧ s.heap.get? d = some o ∧ o.ExactDict ∧ ∃ (es : Array DictEntry) (ep : Nat), o.data = .dict es ep ∧ es.size = kvs.length ∧
      ∀ (i : Nat) (k : List Key) (v : V), kvs[i]? = some (k, v) → ∃ (en : DictEntry) (q : Addr), es[i]? = some en ∧ en.key = .ref q ∧ H q = some (.tup (k.map kV)) ∧ RelV v en.val := by
  obtain ⟨hd, z, hs, xs, pr, o', es, ep, ho, hx, hdt, he, _⟩ := (show ObjOk X.prog X.w H s.heap d (.frz o (.dT kvs)) from I.hok d _ h)
  have eo : o = o' := Option.some.inj (hd.symm.trans ho)
  subst eo
  refine ⟨hs, hd, hx, es, ep, hdt, ?_, fun i k v e => ?_⟩
  · have l1 : es.size = xs.length := size_of_entries he
    rw [l1, Paired.length pr]
  · obtain ⟨b, hb, e1, e2, e3⟩ := LiI.paired_get pr e
    have q := entry_at he i
    rw [hb] at q
    exact ⟨_, b.2.1, q, rfl, e2, e3⟩
end
def Idt (d : Addr) (o : Obj) (kvs : List (List Key × V)) : It :=
  ⟨fun i H => H d = some (.frz o (.dT kvs)) ∧ i < kvs.length, fun i H x H' => H' = H ∧ ∃ k, kvs[i]? = some (k, x), fun i H => H d = some (.frz o (.dT kvs)) ∧ kvs.length ≤ i⟩
def Iit (d : Addr) (o : Obj) (kvs : List (List Key × V)) : It :=
  ⟨fun i H => H d = some (.frz o (.dT kvs)) ∧ i < kvs.length, fun i H x H' => ∃ T k v q, kvs[i]? = some (k, v) ∧ x = .ref T ∧ H T = none ∧ H q = some (.tup (k.map kV)) ∧ H' = upd H T (.tup [.ref q, v]), fun i H => H d = some (.frz o (.dT kvs)) ∧ kvs.length ≤ i⟩
section
variable {P : Program} {w : World} {K : PySem.W.Frag} {tg : Expr} {d : Addr} {o : Obj} {es : Array DictEntry} {ep : Nat}
theorem turn_valsT {kvs : List (List Key × V)} (it : Addr) (hod : o.data = .dict es ep) : Turn P w K tg (Idt d o kvs) [it] it (fun i h => h.IsValIter it d i kvs.length ep) where
  mem := by simp
  obj := fun i h st b hb => by
    obtain rfl : b = it := by simpa using hb
    obtain ⟨oi, e, c, dd⟩ := st
    exact ⟨oi, e, fun v z => by rw [dd] at z; cases z⟩
  keep := fun i h h' st k => st.at fun oi e => k it (by simp) oi e
  item := by
    intro X hP hw hK hc i pins s σ H E I hf st hg
    subst hP hw hK
    obtain ⟨hd, hi⟩ := hg
    obtain ⟨f0, f1, f2, f3, f4, f5⟩ := hf it (by simp)
    obtain ⟨hs, hgd, hx, es', ep', hdt, hsz, ent⟩ := frzV I hd
    obtain ⟨rfl, rfl⟩ := dict_ep hod hdt
    obtain ⟨⟨k, v⟩, hkv⟩ : ∃ p, kvs[i]? = some p := ⟨kvs[i], List.getElem?_eq_getElem hi⟩
    obtain ⟨en, q, hen, _, _, rv⟩ := ent i k v hkv
    refine next_val_item st hgd hdt hsz hen fun h' st' sb => ?_
    have I1 : L2.Inv X pins σ H { s with heap := h' } := I.turned (t' := s.toks) (fun b ob hb e => (sb.2 b hb).trans e) f0 f1 f3 f4 f5
    obtain ⟨oi, e, c, dd⟩ := id st'
    exact ⟨en.val, rfl, go_of (s := { s with heap := h' }) e c dd (by decide) ⟨v, H, I1, rv, ⟨rfl, k, hkv⟩, st', fun b hb => (hf b hb).1⟩⟩
  done := by
    intro X hP hw hK hc i pins s σ H E I hf st hg
    subst hP hw hK
    obtain ⟨hd, hi⟩ := hg
    obtain ⟨f0, f1, f2, f3, f4, f5⟩ := hf it (by simp)
    obtain ⟨hs, hgd, hx, es', ep', hdt, hsz, ent⟩ := frzV I hd
    obtain ⟨rfl, rfl⟩ := dict_ep hod hdt
    exact next_val_end (I.ok.hd hc) st hgd hdt hsz hi fun h' eb => ⟨rfl, I.turned (t' := s.toks) (fun b ob hb e => eb b ob hb e) f0 f1 f3 f4 f5⟩
  self := fun A i s Q E st h => wpAny_pyIter_valiter st h
theorem turn_itemsT {kvs : List (List Key × V)} {elts : List Expr} {kk : Nat} {tpos : Pos} (it : Addr) (hod : o.data = .dict es ep) :
    Turn P w K (.Tuple elts kk tpos) (Iit d o kvs) [it] it (fun i h => ∃ ok ov, IsItemIter h it d i kvs.length ep ok ov) where
  mem := by simp
  obj := fun i h st b hb => by
    obtain rfl : b = it := by simpa using hb
    obtain ⟨ok, ov, e⟩ := st
    exact ⟨_, e, fun v z => nomatch z⟩
  keep := fun i h h' st k => let ⟨ok, ov, e⟩ := st; ⟨ok, ov, k it (by simp) _ e⟩
  item := by
    intro X hP hw hK hc i pins s σ H E I hf st hg
    subst hP hw hK
    obtain ⟨hd, hi⟩ := hg
    obtain ⟨hs, hgd, hx, es', ep', hdt, hsz, ent⟩ := frzV I hd
    obtain ⟨rfl, rfl⟩ := dict_ep hod hdt
    obtain ⟨⟨k, v⟩, hkv⟩ : ∃ p, kvs[i]? = some p := ⟨kvs[i], List.getElem?_eq_getElem hi⟩
    obtain ⟨en, q, hen, hkey, hq, rv⟩ := ent i k v hkv
    obtain ⟨ok, ov, he⟩ := st
    rw [← hsz] at he
    obtain ⟨hi2, een⟩ := Array.getElem?_eq_some_iff.mp hen
    have hlt : it < s.heap.objs.size := Heap.lt_size he
    refine nextI he ⟨o, hgd, hx, hdt⟩ hi2 fun h' ho hT hz hk => ?_
    rw [een, hkey] at ho hT
    refine ⟨_, rfl, wpAny_letOwnedTupleGo_items (s := { s with heap := h' }) ho fun h'' he' sb => ?_⟩
    have hT2 : h''.get? s.heap.objs.size = some { cls := .type "tuple", data := .seq #[.ref q, en.val] } := (sb.2 _ (Nat.ne_of_gt hlt)).trans hT
    have new : ObjOk X.prog X.w (upd H s.heap.objs.size (.tup [.ref q, v])) h'' s.heap.objs.size (.tup [.ref q, v]) :=
      ⟨by show 2 ≤ sizeLine; decide, [.ref q, en.val], .cons rfl (.cons rv .nil), ⟨_, hT2, rfl, _, rfl⟩⟩
    have I1 : L2.Inv X pins σ (upd H s.heap.objs.size (.tup [.ref q, v])) { s with heap := h'' } :=
      I.turnedNew (t' := s.toks) (ch := [it]) (fun b ob hb e => (sb.2 b (by simpa using hb)).trans (hk b ob (by simpa using hb) e)) hf (Nat.le_refl _) new
    refine ⟨.ref s.heap.objs.size, _, I1, rfl, ⟨_, k, v, q, hkv, rfl, I.hok.fresh (Nat.le_refl _), hq, rfl⟩, ⟨.ref q, en.val, ?_⟩, fun b hb => ?_⟩
    · rw [← hsz]
      exact he'
    · obtain rfl : b = it := by simpa using hb
      rw [upd_ne (Nat.ne_of_lt hlt)]
      exact (hf b (by simp)).1
  done := by
    intro X hP hw hK hc i pins s σ H E I hf st hg
    subst hP hw hK
    obtain ⟨hd, hi⟩ := hg
    obtain ⟨f0, f1, f2, f3, f4, f5⟩ := hf it (by simp)
    obtain ⟨hs, hgd, hx, es', ep', hdt, hsz, ent⟩ := frzV I hd
    obtain ⟨rfl, rfl⟩ := dict_ep hod hdt
    obtain ⟨ok, ov, he⟩ := st
    rw [← hsz] at he
    exact endI (I.ok.hd hc) he ⟨o, hgd, hx, hdt⟩ (by omega) fun h' eb => ⟨rfl, I.turned (t' := s.toks) (fun b ob hb e => eb b ob hb e) f0 f1 f3 f4 f5⟩
  self := fun A i s Q E st h => let ⟨_, _, e⟩ := st; PySem.W.kcp_self e h
end
def iValsT (td : TE) : TI := fun σ H R => td σ H fun x H1 => ∃ d o kvs, x = .ref d ∧ H1 d = some (.frz o (.dT kvs)) ∧ R (Idt d o kvs) H1
def iItemsT (td : TE) : TI := fun σ H R => td σ H fun x H1 => ∃ d o kvs, x = .ref d ∧ H1 d = some (.frz o (.dT kvs)) ∧ R (Iit d o kvs) H1
section
variable {X : Cx} {tg e : Expr} {td : TE} {apos cpos : Pos}
theorem pi_valuesT (he : PE X e td) (hbase : attributeBase e "values" X.env (eval e X.env) = eval e X.env := by rfl) (hline : (apos.endLine == cpos.line) = true := by rfl) : PI X tg (.Call (.Attribute e "values" apos) [] [] cpos) (iValsT td) := by
  refine ⟨fun pins s σ H R I h => ?_⟩
  refine wpAny_Call_method (T := "dict") (id := "dict.values") hbase rfl hline PySem.F.plainAttrs_dict PySem.F.slot_dict_values PySem.F.type_dict_values (thn (he.run pins s σ H _ I h) fun u s1 ⟨x, H1, I1, rx, d, o, kvs, ex, hd, q⟩ => ?_)
  subst ex
  obtain rfl : u = Value.ref d := rx
  obtain ⟨hs, hgd, hx, es, ep, hdt, hsz, ent⟩ := frzV I1 hd
  have hraw : Raw s1.heap d es ep := ⟨o, hgd, hx, hdt⟩
  refine ⟨hraw.typeIs, (fun b e => by cases e; exact ⟨o, hgd, hx.2.1⟩), ?_⟩
  have I2 : L2.Inv X pins σ H1 { s1 with heap := s1.heap.push { cls := .type "dict_values", data := .fields #[.ref d] } } := I1.kept (t' := s1.toks) fun b ob q => Heap.get?_push_of_some _ q
  have fin : wpAny (model X.prog X.w) X.A (pyIter (.ref s1.heap.objs.size)) (PIE X pins σ tg R) X.xe { s1 with heap := s1.heap.push { cls := .type "dict_values", data := .fields #[.ref d] } } := by
    refine iterV (d := d) ⟨_, Heap.get?_push_size _ rfl, rfl, rfl⟩ (hraw.push _) (pi_one (tk := s1.toks) I2 _ (turn_valsT _ hdt) ⟨_, Heap.get?_push_size _ rfl, rfl, ?_⟩ q)
    rw [hsz] <;> rfl
  show wpAny _ _ (callWith cpos (.builtin "dict.values") [.ref d] [] []) _ X.xe s1
  exact method_meetsIn PySem.F.slot_dict_values PySem.F.entry_dict_values rfl (PySem.evalArgs_none ⟨rfl, hraw.typeIs, PySem.F.args_dict_values_1 _, _, meetsVals hs, ⟨hraw, fin⟩⟩)
theorem pi_itemsT {elts : List Expr} {kk : Nat} {tpos : Pos} (he : PE X e td) (hbase : attributeBase e "items" X.env (eval e X.env) = eval e X.env := by rfl) (hline : (apos.endLine == cpos.line) = true := by rfl) :
    PI X (.Tuple elts kk tpos) (.Call (.Attribute e "items" apos) [] [] cpos) (iItemsT td) := by
  refine ⟨fun pins s σ H R I h => ?_⟩
  refine wpAny_Call_method (T := "dict") (id := "dict.items") hbase rfl hline PySem.F.plainAttrs_dict PySem.F.slot_dict_items PySem.F.type_dict_items (thn (he.run pins s σ H _ I h) fun u s1 ⟨x, H1, I1, rx, d, o, kvs, ex, hd, q⟩ => ?_)
  subst ex
  obtain rfl : u = Value.ref d := rx
  obtain ⟨hs, hgd, hx, es, ep, hdt, hsz, ent⟩ := frzV I1 hd
  have hraw : Raw s1.heap d es ep := ⟨o, hgd, hx, hdt⟩
  refine ⟨hraw.typeIs, (fun b e => by cases e; exact ⟨o, hgd, hx.2.1⟩), ?_⟩
  have I2 : L2.Inv X pins σ H1 { s1 with heap := s1.heap.push { cls := .type "dict_items", data := .fields #[.ref d] } } := I1.kept (t' := s1.toks) fun b ob q => Heap.get?_push_of_some _ q
  have fin : wpAny (model X.prog X.w) X.A (pyIter (.ref s1.heap.objs.size)) (PIE X pins σ (.Tuple elts kk tpos) R) X.xe { s1 with heap := s1.heap.push { cls := .type "dict_items", data := .fields #[.ref d] } } := by
    refine iterI (d := d) ⟨_, Heap.get?_push_size _ rfl, rfl, rfl⟩ (hraw.push _) (pi_one (tk := s1.toks) I2 _ (turn_itemsT _ hdt) ⟨.none, .none, ?_⟩ q)
    rw [← hsz]
    exact Heap.get?_push_size _ rfl
  show wpAny _ _ (callWith cpos (.builtin "dict.items") [.ref d] [] []) _ X.xe s1
  exact method_meetsIn PySem.F.slot_dict_items PySem.F.entry_dict_items rfl (PySem.evalArgs_none ⟨rfl, hraw.typeIs, PySem.F.args_dict_items_1 _, _, meetsItems hs, ⟨hraw, fin⟩⟩)
/-- what e gives is locked for good -/
def tFrz (te : TE) : TE := fun σ H Q => te σ H fun x H1 => ∃ d u, x = .ref d ∧ H1 d = some u ∧ Mut (some u) ∧ ∀ od, Q x (upd H1 d (.frz od u))
theorem pe_frz {te : TE} (he : PE X e te) : PE X e (tFrz te) := by
  refine ⟨fun pins s σ H Q I h => ?_⟩
  refine thn (he.run pins s σ H _ I h) fun u s1 ⟨x, H1, I1, rx, d, o, ex, hd, mu, q⟩ => ?_
  obtain ⟨od, I2⟩ := I1.lock hd mu
  exact ⟨x, _, I2, rx, q od⟩
end
section
variable {d : Addr} {o : Obj} {kvs : List (List Key × V)}
theorem walk_valsT : L2.Walk (Idt d o kvs) kvs.length (fun H => H d = some (.frz o (.dT kvs))) (fun i H x H' => H' = H ∧ ∃ k, kvs[i]? = some (k, x)) :=
  ⟨fun _ _ hi q => ⟨q, hi⟩, fun _ q => ⟨q, Nat.le_refl _⟩, fun _ _ _ _ _ _ y => y⟩
theorem walk_itemsT : L2.Walk (Iit d o kvs) kvs.length (fun H => H d = some (.frz o (.dT kvs))) (fun i H x H' => ∃ T k v q, kvs[i]? = some (k, v) ∧ x = .ref T ∧ H T = none ∧ H q = some (.tup (k.map kV)) ∧ H' = upd H T (.tup [.ref q, v])) :=
  ⟨fun _ _ hi q => ⟨q, hi⟩, fun _ q => ⟨q, Nat.le_refl _⟩, fun _ _ _ _ _ _ y => y⟩
end
end PF
end
section
set_option maxHeartbeats 4000000
namespace PF
open PySem PySem.Spec PyProof.Rows L2
open PySem.Sem (wp)
/-! ### dict(l) of a list of pairs whose keys are tuples -/
abbrev Tr := List Key × Addr × Value
def mergedT (acc : List Tr) (rest : List Tr) : List Tr := rest.foldl (fun a q => storedH a q.1 q.2.1 q.2.2) acc
theorem storedT_len (xs : List Tr) (k : List Key) (a : Addr) (v : Value) : (storedH xs k a v).length ≤ xs.length + 1 := by
  unfold storedH
  split
  · rw [List.length_map]; omega
  · rw [List.length_append]; exact Nat.le_refl _
theorem dh_move {P : Program} {w : World} {h h' : Heap} {S : Addr} {xs : List Tr} (D : h.DictOfH (tupleKind (mixKind P w)) S xs) (k : ∀ o, h.get? S = some o → h'.get? S = some o) (ks : ∀ x ∈ xs, ∀ o, h.get? x.2.1 = some o → h'.get? x.2.1 = some o) : h'.DictOfH (tupleKind (mixKind P w)) S xs := by
  obtain ⟨o, es, ep, h1, h2, h3, h4, h5, h6⟩ := D
  refine ⟨o, es, ep, k _ h1, h2, h3, h4, fun x hx => ?_, h6⟩
  obtain ⟨ob, its, n, q1, q2, q3, q4⟩ := h5 x hx
  exact ⟨ob, its, n, ks x hx _ q1, q2, q3, q4⟩
section
variable {prog : Program} {w : World} {A : Around} {E : Value → Shared → Prop}
theorem is_move {h h' : Heap} {k : List Key} {b : Addr} (x : (tupleKind (mixKind prog w)).is h k b) (ks : ∀ o, h.get? b = some o → h'.get? b = some o) : (tupleKind (mixKind prog w)).is h' k b := by
  obtain ⟨ob, its, n, q1, q2, q3, q4⟩ := x
  exact ⟨ob, its, n, ks _ q1, q2, q3, q4⟩
theorem updT_loop {R : Result → Shared → Prop} {S I l N : Addr} {items : Array Value} {res : Value} (hu : A.in1.units < cLine) (hh : A.handled = none) (hlN : l < N) (hNS : N ≤ S) (hNI : N ≤ I) (hSI : S ≠ I) :
    ∀ (rest : List Tr) (i : Nat) (acc : List Tr) (ix : Int) (t : Tok) (s : Shared), items.size = i + rest.length → acc.length + rest.length ≤ sizeLine →
      (∀ (j : Nat) (q : Tr), rest[j]? = some q → ∃ b : Addr, items[i + j]? = some (.ref b) ∧ b < N ∧ IsTup s.heap b #[.ref q.2.1, q.2.2] ∧ q.2.1 < N ∧ (tupleKind (mixKind prog w)).is s.heap q.1 q.2.1) → (∀ q ∈ acc, q.2.1 < N) →
      s.heap.IsListIter I l i → s.heap.IsList l items → s.heap.DictOfH (tupleKind (mixKind prog w)) S acc →
      (∀ h' tk, h'.DictOfH (tupleKind (mixKind prog w)) S (mergedT acc rest) → (∀ b o, b < N → s.heap.get? b = some o → h'.get? b = some o) → R (.ok (.ret res)) { s with heap := h', toks := tk }) →
      codeAny (model prog w) A (.builtin "dict.update.loop" ⟨[.ref S, .ref I, .int ix t, res], []⟩) R s := by
  have neS : ∀ {b : Addr}, b < N → b ≠ S := fun {b} h => Nat.ne_of_lt (Nat.lt_of_lt_of_le h hNS)
  have neI : ∀ {b : Addr}, b < N → b ≠ I := fun {b} h => Nat.ne_of_lt (Nat.lt_of_lt_of_le h hNI)
  intro rest
  induction rest with
  | nil =>
    intro i acc ix t s hsz hln ht hacc hit hl hm hR
    refine codeAny_builtin ud_entry ?_
    rw [Around.under_plainId ud_plain _]
    show wpAny _ A.in1 (pyNext (.ref I) >>= _) _ _ s
    refine wpAny_bind (wpAny_pyNext_list_end (A := A.in1) hh hit hl (Array.getElem?_eq_none (Nat.le_of_eq hsz)) fun h' he => ?_)
    show wpAny _ A.in1 (Builtin.Dict.addKeywords S [] >>= _) _ _ _
    refine wpAny_bind (wpAny_pure (wpAny_pure ?_))
    exact hR h' s.toks (dh_move hm (fun o e => he S o hSI e) fun x hx o e => he _ o (neI (hacc x hx)) e) fun b o hb e => he b o (neI hb) e
  | cons q rest ih =>
    intro i acc ix t s hsz hln ht hacc hit hl hm hR
    obtain ⟨b, hb, hbN, htup, hqN, hk⟩ := ht 0 q rfl
    rw [List.length_cons] at hsz hln
    refine codeAny_builtin ud_entry ?_
    rw [Around.under_plainId ud_plain _]
    show wpAny _ A.in1 (pyNext (.ref I) >>= _) _ _ s
    refine wpAny_bind (wpAny_pyNext_list_item (x := .ref b) hit hl (by simpa using hb) fun h1 hit1 hs1 => ?_)
    have ht1 : IsTup h1 b #[.ref q.2.1, q.2.2] := htup.extBut hs1.extBut (neI hbN)
    have hl1 : h1.IsList l items := hl.extBut hs1.extBut (neI hlN)
    have k1 : ∀ c o, c ≠ I → s.heap.get? c = some o → h1.get? c = some o := fun c o hc e => hs1.extBut c o hc e
    have hm1 := dh_move hm (fun o e => k1 S o hSI e) fun x hx o e => k1 _ o (neI (hacc x hx)) e
    have hk1 := is_move hk fun o e => k1 _ o (neI hqN) e
    obtain ⟨o, ho, hc, n, hd⟩ := id ht1
    show wpAny _ A.in1 (holding [Value.ref b] _ >>= _) _ _ _
    refine wpAny_bind (wpAny_holding ?_)
    refine wpAny_bind (wpAny_tryCatch ?_)
    unfold Builtin.Dict.pairItems
    refine wpAny_bind (wpAny_typeOf (T := "tuple") ⟨o, ho, hc⟩ ?_)
    rw [if_pos (by first | decide | rfl | simp)]
    refine wpAny_bind (wpAny_seqItems ho hd (wpAny_pure ?_))
    show wpAny _ A.in1 (holding [Value.ref q.2.1, q.2.2] (dictSet S (.ref q.2.1) q.2.2)) _ _ _
    refine wpAny_holding (wpAny_dictSet_heap (knd := tupleKind (mixKind prog w)) (k := q.1) hu hk1 hm1 (fun h2 hm2 hs2 => ?_) (by omega))
    have k2 : ∀ c o, c ≠ I → c ≠ S → s.heap.get? c = some o → h2.get? c = some o := fun c o h3 h4 e => hs2.extBut c o h4 (k1 c o h3 e)
    have zl := storedT_len acc q.1 q.2.1 q.2.2
    refine wpAny_pure ⟨plainId_quiet ud_plain _, ih (i + 1) (storedH acc q.1 q.2.1 q.2.2) (ix + 1) 0 _ (by omega) (by omega) (fun j q' e => ?_) (fun x hx => ?_) (hit1.at fun o' e => hs2.extBut I o' (Ne.symm hSI) e) (hl1.extBut hs2.extBut (neS hlN)) hm2 fun h' tk hd' kk => ?_⟩
    · obtain ⟨b', hb', hbN', htup', hqN', hk'⟩ := ht (j + 1) q' (by simpa using e)
      refine ⟨b', ?_, hbN', (htup'.extBut hs1.extBut (neI hbN')).extBut hs2.extBut (neS hbN'), hqN', is_move hk' fun o e => k2 _ o (neI hqN') (neS hqN') e⟩
      rw [show i + 1 + j = i + (j + 1) by omega]
      exact hb'
    · unfold storedH at hx
      split at hx
      · obtain ⟨y, hy, rfl⟩ := List.mem_map.mp hx
        unfold putAt
        split
        · exact hacc y hy
        · exact hacc y hy
      · rcases List.mem_append.mp hx with hx | hx
        · exact hacc x hx
        · rw [List.mem_singleton.mp hx]
          exact hqN
    · exact hR h' tk hd' fun c oc hcN e => kk c oc hcN (k2 c oc (neI hcN) (neS hcN) e)
theorem callT_pairs {s : Shared} {l : Addr} {ol : Obj} {items : Array Value} {n : Nat} {prs : List Tr} {Q : Value → Shared → Prop} (hu : A.in1.in1.units < cLine) (hh : A.handled = none) (hl : s.heap.get? l = some ol) (hc : ol.cls = .type "list") (hd : ol.dict = none)
    (hdat : ol.data = .seq items n) (hsz : items.size = prs.length) (hln : prs.length ≤ sizeLine)
    (ht : ∀ (j : Nat) (q : Tr), prs[j]? = some q → ∃ b : Addr, items[j]? = some (.ref b) ∧ IsTup s.heap b #[.ref q.2.1, q.2.2] ∧ (tupleKind (mixKind prog w)).is s.heap q.1 q.2.1)
    (h : ∀ h' tk, h'.DictOfH (tupleKind (mixKind prog w)) s.heap.objs.size (mergedT [] prs) → (∀ b o, s.heap.get? b = some o → h'.get? b = some o) → Q (.ref s.heap.objs.size) { s with heap := h', toks := tk }) :
    wpAny (model prog w) A (call (.type "dict") [.ref l]) Q E s := by
  refine callType_codes (Q₁ := fun obj s₁ => obj = .ref s.heap.objs.size ∧ s₁ = { s with heap := s.heap.push { cls := .type "dict", data := .dict #[] } }) PySem.F.kt_called_dict (PySem.F.kt_typeCall_dict_1 _) PySem.F.entry_dict_init (kt_code_dict_new _ ⟨rfl, rfl⟩) ?_
  rintro obj s₁ ⟨rfl, rfl⟩
  have hS : (s.heap.push { cls := .type "dict", data := .dict #[] }).get? s.heap.objs.size = some { cls := .type "dict", data := .dict #[] } := Heap.get?_push_size _ rfl
  have hnew : (s.heap.push { cls := .type "dict", data := .dict #[] }).DictOfH (tupleKind (mixKind prog w)) s.heap.objs.size [] := ⟨_, _, _, hS, ⟨rfl, rfl, rfl⟩, rfl, rfl, fun x hx => by simp at hx, List.nodup_nil⟩
  have k0 : ∀ b o, s.heap.get? b = some o → (s.heap.push { cls := .type "dict", data := .dict #[] }).get? b = some o := fun b o e => Heap.get?_push_of_some _ e
  refine ⟨hnew.typeIs, PySem.F.args_dict_init_2 _ _, ?_⟩
  unfold Builtin.«dict.__init__»
  refine wpAny_bind ?_
  unfold Builtin.Dict.selfAndRest
  refine wpAny_bind (wpAny_notOrdered_dict hnew.typeIs ?_)
  show wpAny _ _ (pure (s.heap.objs.size, [Value.ref l])) _ _ _
  refine wpAny_pure ?_
  show wpAny _ _ (Builtin.Dict.updateFrom "dict.__init__" s.heap.objs.size (.ref l) [] .none) _ _ _
  unfold Builtin.Dict.updateFrom
  refine wpAny_bind (wpAny_typeOf (T := "list") ⟨ol, k0 _ _ hl, hc⟩ ?_)
  rw [if_pos (by first | decide | rfl | simp)]
  refine wpAny_bind (miss_list (k0 _ _ hl) hc hdat hd hh fun h1 tk1 hk1 => ?_)
  rw [if_pos (show (none : Option Value).isNone = true from rfl)]
  refine wpAny_bind (wpAny_rule ?_)
  have hl1 : h1.IsList l items := ⟨ol, hk1 _ _ (k0 _ _ hl), hc, n, hdat⟩
  have hS1 : s.heap.objs.size < h1.objs.size := Heap.lt_size (hk1 _ _ hS)
  refine wpAny_bind (wpAny_pyIter_list hl1 ?_)
  have k2 : ∀ b o, s.heap.get? b = some o → (h1.push { cls := .type "list_iterator", data := .fields #[.ref l, .int 0 0] }).get? b = some o := fun b o e => Heap.get?_push_of_some _ (hk1 _ _ (k0 _ _ e))
  have key := updT_loop (prog := prog) (w := w) (A := A.in1) (R := wants (fun r s₂ => r = .none ∧ Q (.ref s.heap.objs.size) s₂) E) (S := s.heap.objs.size) (I := h1.objs.size) (l := l) (N := s.heap.objs.size) (items := items) (res := Value.none) hu hh
    (Heap.lt_size hl) (Nat.le_refl _) (Nat.le_of_lt hS1) (Nat.ne_of_lt hS1) prs 0 [] 0 0
    { s with heap := h1.push { cls := .type "list_iterator", data := .fields #[.ref l, .int 0 0] }, toks := tk1 } (by rw [hsz, Nat.zero_add]) (by rw [List.length_nil, Nat.zero_add]; exact hln)
    (fun j q e => by
      obtain ⟨b, e1, e2, e3⟩ := ht j q e
      have hq : q.2.1 < s.heap.objs.size := by
        obtain ⟨_, _, _, q1, _⟩ := e3
        exact Heap.lt_size q1
      exact ⟨b, by rw [Nat.zero_add]; exact e1, e2.lt, e2.keeps fun c o z => k2 _ _ z, hq, is_move e3 fun o z => k2 _ _ z⟩)
    (fun q hq => by simp at hq) ⟨_, Heap.get?_push_size _ rfl, rfl, rfl⟩ (hl1.at fun o e => Heap.get?_push_of_some _ e) (dh_move hnew (fun o e => Heap.get?_push_of_some _ (hk1 _ _ e)) fun x hx => by simp at hx)
    (fun h' tk hd' kk => ⟨rfl, h h' tk hd' fun b o e => kk b o (Heap.lt_size e) (k2 _ _ e)⟩)
  first
    | exact wpAny_pure ⟨plainId_quiet ud_plain _, key⟩
    | exact wpAny_bind (wpAny_pure (wpAny_pure ⟨plainId_quiet ud_plain _, key⟩))
end
def mergeT (kvs more : List (List Key × V)) : List (List Key × V) := more.foldl (fun acc kv => putK acc kv.1 kv.2) kvs
theorem mergeT_len : ∀ (more kvs : List (List Key × V)), (mergeT kvs more).length ≤ kvs.length + more.length
  | [], kvs => Nat.le_refl _
  | kv :: more, kvs => by
    have h1 := mergeT_len more (putK kvs kv.1 kv.2)
    have h2 := length_putK kvs kv.1 kv.2
    show (mergeT (putK kvs kv.1 kv.2) more).length ≤ _
    rw [List.length_cons]
    omega
theorem KT_merge {H : Hp} : ∀ {more : List (List Key × V)} {prs : List Tr} {kvs : List (List Key × V)} {acc : List Tr}, KT H more prs → KT H kvs acc → KT H (mergeT kvs more) (mergedT acc prs)
  | _, _, _, _, .nil, h => h
  | _, _, kvs, acc, .cons (a := p) (b := q) r t, h => by
    obtain ⟨e1, e2, e3⟩ := r
    have := h.put p.1 (b := q.2.1) e2 e3
    show KT H (mergeT (putK kvs p.1 p.2) _) (mergedT (storedH acc q.1 q.2.1 q.2.2) _)
    rw [← e1]
    exact KT_merge t this
section
variable {X : Cx}
/-- dict(xs), xs new pairs of a key tuple and a value -/
theorem call_dictT (hcalm : X.calm = true) (hu : X.A.units + 64 < cLine) : CallR X (.type "dict") (fun xs H Q => ∃ (a : Addr) (ps : List Addr) (kvs : List (List Key × V)), xs = [.ref a] ∧ H a = some (.lst (ps.map V.ref)) ∧
    Paired (fun p (kv : List Key × V) => ∃ b, H p = some (.tup [.ref b, kv.2]) ∧ H b = some (.tup (kv.1.map kV))) ps kvs ∧ ∀ p, H p = none → Q (.ref p) (upd H p (.dT (mergeT [] kvs)))) := by
  intro pins s σ H xs us Q I r q
  obtain ⟨a, ps, kvs, rfl, hq, hp, q⟩ := q
  obtain ⟨u, rfl, rx⟩ := r.one
  cases rx
  obtain ⟨hz, its, n, rv, hobj⟩ := (show ObjOk X.prog X.w H s.heap a (.lst (ps.map V.ref)) from I.hok a _ hq)
  have ei := refs_at rv
  subst ei
  rw [List.length_map] at hz
  obtain ⟨prs, hkt, hpl, hpr⟩ : ∃ prs : List Tr, KT H kvs prs ∧ prs.length = ps.length ∧ ∀ (j : Nat) (q : Tr), prs[j]? = some q → ∃ b : Addr, ps[j]? = some b ∧ IsTup s.heap b #[.ref q.2.1, q.2.2] ∧ (tupleKind (mixKind X.prog X.w)).is s.heap q.1 q.2.1 := by
    clear rv hobj hq q hz
    induction hp with
    | nil => exact ⟨[], .nil, rfl, fun j q e => by simp at e⟩
    | @cons p kv ps kvs h t ih =>
      obtain ⟨prs, r, hl, hpq⟩ := ih
      obtain ⟨b, h1, h2⟩ := h
      obtain ⟨_, its2, rv2, ht⟩ := (show ObjOk X.prog X.w H s.heap p (.tup [.ref b, kv.2]) from I.hok p _ h1)
      obtain ⟨u, y, rfl, ru, ry⟩ := vals2 rv2
      cases ru
      refine ⟨(kv.1, b, y) :: prs, .cons ⟨rfl, h2, ry⟩ r, by rw [List.length_cons, List.length_cons, hl], fun j q e => ?_⟩
      cases j with
      | zero =>
        have e' : (kv.1, b, y) = q := Option.some.inj e
        subst e'
        exact ⟨p, rfl, ht, key_of I.hok h2⟩
      | succ j =>
        obtain ⟨b', e1, e2, e3⟩ := hpq j q (by simpa using e)
        exact ⟨b', by simpa using e1, e2, e3⟩
  refine callT_pairs (prs := prs) (show X.A.units + 2 < cLine by omega) (I.ok.hd hcalm) hobj rfl rfl rfl (by simp [hpl]) (by rw [hpl]; exact hz) (fun j q' e => ?_) fun h' tk hd' k => ?_
  · obtain ⟨b, e1, e2, e3⟩ := hpr j q' e
    exact ⟨b, by simp [e1], e2, e3⟩
  · have hm : (s.heap.objs.size == sysModules) = false := beq_eq_false_iff_ne.mpr (Nat.ne_of_gt I.big)
    have hlen : (mergeT [] kvs).length ≤ sizeLine := by
      refine Nat.le_trans (mergeT_len kvs []) ?_
      rw [List.length_nil, Nat.zero_add, Paired.length hkt, hpl]
      exact hz
    have hn : H s.heap.objs.size = none := I.hok.fresh (Nat.le_refl _)
    obtain ⟨o, es, ep, h1, h2, h3, h4, _, h5⟩ := hd'
    refine ⟨.ref s.heap.objs.size, upd H s.heap.objs.size (.dT (mergeT [] kvs)), I.laid (t' := tk) k (Nat.le_refl _) (show ObjOk X.prog X.w _ _ _ (.dT (mergeT [] kvs)) from ⟨hlen, hm, mergedT [] prs, (KT_merge hkt .nil).keeps fun b ys e => ?_, o, es, ep, h1, h2, h3, h4, h5⟩), rfl, q _ hn⟩
    exact (upd_ne (ne_of_none e hn)).trans e
end
end PF
end
section
set_option maxHeartbeats 4000000
namespace L2
open PySem PySem.Spec PyProof.Rows
section
variable {P : Program} {w : World} {A : Around} {E : Value → Shared → Prop} {s : Shared}
theorem call_set_listI {l : Addr} {items : Array Value} (ns : List Int) {Q : Value → Shared → Prop} (hh : A.handled = none) (hl : s.heap.IsList l items) (hit : IntsAre items.toList ns) (hb : ns.length + 1 < scanBound)
    (h : ∀ (h' : Heap) (tk c : Nat), SetR w h' s.heap.objs.size (fun j => decide (j ∈ ns)) c → c ≤ ns.length → (∀ b o, s.heap.get? b = some o → h'.get? b = some o) → Q (.ref s.heap.objs.size) { s with heap := h', toks := tk }) :
    wpAny (model P w) A (call (.type "set") [.ref l]) Q E s := by
  have hisz : items.size = ns.length := by
    have q := IntsAre.length hit
    rw [Array.length_toList] at q
    exact q
  obtain ⟨c, tl, hmro⟩ := F.called_set.mro
  have hmade := F.called_set.made
  have hsub := F.called_set.sub
  refine wpAny_call (codeAny_of_tree ?_)
  show wpAny _ _ (callAny (.type "set") _) _ _ _
  refine wpAny_pure ⟨Code.quiet_builtin _ (by decide +kernel), codeAny_builtin F.entry_type_call ?_⟩
  rw [Around.under_plain (weight_type_call_type "set" [.ref l] []) rfl]
  have h1 := F.called_set.notType
  have h2 := F.called_set.canCreate
  have hct := F.typeCall_set_1 (.ref l)
  repeat (any_goals (first | assumption | wp_step))
  refine codeAny_mono (code_set_led1 (.ref l) (E := E) (Q₁ := fun obj s₁ => obj = .ref s.heap.objs.size ∧ s₁ = { s with heap := s.heap.push { cls := .type "set", dict := none, data := .set #[] 0 (.fresh 0 0 (!w.params.followText "set-order")) } }) ⟨rfl, rfl⟩) fun r s₁ hr => ?_
  cases r with
  | error e => exact hr
  | ok fl =>
    cases fl with
    | ret obj =>
      obtain ⟨rfl, rfl⟩ := hr
      have hS : (s.heap.push { cls := .type "set", dict := none, data := .set #[] 0 (.fresh 0 0 (!w.params.followText "set-order")) }).get? s.heap.objs.size = some { cls := .type "set", dict := none, data := .set #[] 0 (.fresh 0 0 (!w.params.followText "set-order")) } := Heap.get?_push_size _ rfl
      have hT : Shared.TypeIs { s with heap := s.heap.push { cls := .type "set", dict := none, data := .set #[] 0 (.fresh 0 0 (!w.params.followText "set-order")) } } (.ref s.heap.objs.size) "set" := ⟨_, hS, rfl⟩
      have hli := F.called_set.init.lookup
      have hbi := F.called_set.init.bind (.ref s.heap.objs.size)
      repeat (any_goals (first | assumption | wp_step))
      refine codeAny_mono (codeAny_call_builtin (R := wants (fun r s₂ => r = .none ∧ ∃ h' tk c, s₂ = { s with heap := h', toks := tk } ∧ SetR w h' s.heap.objs.size (fun j => decide (j ∈ ns)) c ∧ c ≤ ns.length ∧
          (∀ b o, s.heap.get? b = some o → h'.get? b = some o)) E) F.called_set.init.plain F.entry_set_init (check_set_init_1 hT ?_)) fun r₂ s₂ hr₂ => ?_
      · obtain ⟨ol, hol, hcl, nl, hdl⟩ := hl
        obtain ⟨ocls, odict, odata, oslots⟩ := ol
        simp only at hcl hdl
        subst hcl; subst hdl
        have hol' : (s.heap.push { cls := .type "set", dict := none, data := .set #[] 0 (.fresh 0 0 (!w.params.followText "set-order")) }).get? l = some { cls := .type "list", dict := odict, data := .seq items nl, slots := oslots } := Heap.get?_push_of_some _ hol
        have hsls := F.sub_list_set
        have hslf := F.sub_list_frozenset
        have hne : (Value.type "list" == Value.type "dict") = false := by decide
        have hl1 : (s.heap.push { cls := .type "set", dict := none, data := .set #[] 0 (.fresh 0 0 (!w.params.followText "set-order")) }).IsList l items := ⟨_, hol', rfl, nl, rfl⟩
        unfold Builtin.«set.__init__» noKeywords Builtin.Frozenset.updateFrom
        generalize hPI : pyIter = PI
        wp_walk
        subst hPI
        refine wpAny_pyIter_list hl1 ?_
        refine wpAny_bind (wpAny_runValue ?_)
        have hlS : l < s.heap.objs.size := Heap.lt_size hol
        have hh3 : A.in1.in1.in1.handled = none := by simp [hh]
        have hz1 : (s.heap.push { cls := .type "set", dict := none, data := .set #[] 0 (.fresh 0 0 (!w.params.followText "set-order")) }).objs.size = s.heap.objs.size + 1 := Heap.size_push ..
        have hneI : l ≠ (s.heap.push { cls := .type "set", dict := none, data := .set #[] 0 (.fresh 0 0 (!w.params.followText "set-order")) }).objs.size := by
          rw [Heap.size_push]; exact Nat.ne_of_lt (Nat.lt_succ_of_lt hlS)
        have hSf : s.heap.objs.size ∉ [(s.heap.push { cls := .type "set", dict := none, data := .set #[] 0 (.fresh 0 0 (!w.params.followText "set-order")) }).objs.size, l] := by
          rw [Heap.size_push]; simp only [List.mem_cons, List.mem_singleton, List.not_mem_nil, or_false, not_or]
          exact ⟨Nat.ne_of_lt (Nat.lt_succ_self _), Nat.ne_of_gt hlS⟩
        have hval : ∀ (i : Nat) (v : Value), items[i]? = some v → ∃ k t, ns[i]? = some k ∧ v = .int k t := fun i v hv => by
          have hi : i < ns.length := by rw [← hisz]; exact (Array.getElem?_eq_some_iff.mp hv).1
          obtain ⟨t, e⟩ := PyProof.Rows.IntsAre.int_at hit i v (by rw [Array.getElem?_toList]; exact hv)
          refine ⟨ns[i], t, List.getElem?_eq_getElem hi, ?_⟩
          rw [e, List.getD_eq_getElem?_getD, List.getElem?_eq_getElem hi] <;> rfl
        refine set_update_ints ((Walks.list hh3 _ l hneI items).toS) s.heap.objs.size
          hSf ns hisz hb hval (items.size - 0) 0 _ (by omega) (Nat.zero_le _)
          ⟨⟨_, Heap.get?_push_size _ rfl, rfl, rfl⟩, (hl1.push _)⟩ ?hS0 ?hR
        case hS0 =>
          have hget : ((s.heap.push { cls := .type "set", dict := none, data := .set #[] 0 (.fresh 0 0 (!w.params.followText "set-order")) }).push { cls := .type "list_iterator", data := .fields #[.ref l, .int 0 0] }).get? s.heap.objs.size
              = some { cls := .type "set", dict := none, data := .set #[] 0 (.fresh 0 0 (!w.params.followText "set-order")) } := Heap.get?_push_of_some _ hS
          exact ⟨0, Nat.le_refl 0, setR_new_at hget⟩
        case hR =>
          intro s' c' hm hc' hS'
          obtain ⟨h', g2, d', tk', os'⟩ := s'
          have eg : g2 = s.gens := hm.gens
          have ed : d' = s.drawn := hm.drawn
          have eo : os' = s.os := hm.os
          subst eg; subst ed; subst eo
          show wpAny _ _ _ _ _ _
          refine wpAny_pure ?_
          show wpAny _ _ (ret Value.none) _ _ _
          rw [hisz] at hc'
          refine wpAny_pure ⟨rfl, h', tk', c', rfl, hS', hc', fun b o e => ?_⟩
          have hb0 : b < s.heap.objs.size := Heap.lt_size e
          have hb1 : b ≠ s.heap.objs.size := Nat.ne_of_lt hb0
          have hb2 : b ≠ (s.heap.push { cls := .type "set", dict := none, data := .set #[] 0 (.fresh 0 0 (!w.params.followText "set-order")) }).objs.size := by
            rw [Heap.size_push]; exact Nat.ne_of_lt (Nat.lt_succ_of_lt hb0)
          exact hm.heap b o (by simp only [List.mem_cons, List.mem_singleton, List.not_mem_nil, or_false, not_or]; exact ⟨hb1, hb2⟩) (Heap.get?_push_of_some _ (Heap.get?_push_of_some _ e))
      · cases r₂ with
        | error e => exact hr₂
        | ok fl₂ =>
          cases fl₂ with
          | ret r =>
            obtain ⟨rfl, h', tk, c', rfl, hS', hc', hk'⟩ := hr₂
            repeat (any_goals (first | assumption | wp_step))
            exact h _ _ _ hS' hc' hk'
          | _ => exact hr₂.elim
    | _ => exact hr.elim
theorem set_update_tupsW {I : Addr} {fp wr : List Addr} {G : Array GenState → Array GenState → Prop} {n : Nat} {Pv : Nat → Value → Prop} {St : Nat → Shared → Prop} {R : Result → Shared → Prop}
    (W : WalksS P w A.in1 I fp wr G n Pv St) (S : Addr) (hSf : S ∉ fp) (ks : List (Addr × List Int)) (hn : n = ks.length) (hD : ∀ L : List (Addr × List Int), (L.map (·.2)).Nodup → (∀ p ∈ L, p ∈ ks) → L.length + 1 < 64) (hval : ∀ i v, Pv i v → ∃ p, ks[i]? = some p ∧ v = .ref p.1)
    (h0 : Heap) (hk : ∀ p ∈ ks, IsT P w h0 p.2 p.1) (hS0 : h0.get? S = none) (hw0 : ∀ b ∈ wr, h0.get? b = none) (hu : A.in1.units < cLine) :
    ∀ (k i : Nat) (s : Shared), n - i = k → i ≤ n → St i s → (∀ b o, h0.get? b = some o → s.heap.get? b = some o) → (∃ L es ep t, SetTR P w s.heap S L es ep t ∧ Got ks i L) →
      (∀ s' L es ep t, Moved (S :: wr) G s s' → SetTR P w s'.heap S L es ep t → Got ks n L → (∀ b o, h0.get? b = some o → s'.heap.get? b = some o) → R (.ok (.ret .none)) s') →
      codeAny (model P w) A (.builtin "set.update.loop" ⟨[.ref S, .ref I], []⟩) R s := by
  have hSw : S ∉ wr := fun h => hSf (W.sub _ h)
  have hsub : ∀ b ∈ wr, b ∈ S :: wr := fun b hb => List.mem_cons_of_mem _ hb
  have keepM : ∀ {s s' : Shared}, Moved wr G s s' → (∀ b o, h0.get? b = some o → s.heap.get? b = some o) → ∀ b o, h0.get? b = some o → s'.heap.get? b = some o := fun hm hkp b o e =>
    hm.heap b o (fun hb => by rw [hw0 b hb] at e; cases e) (hkp b o e)
  intro k
  induction k with
  | zero =>
    intro i s hk' hi hst hkp ⟨L, es, ep, t, hS, g⟩ hR
    have hin : i = n := by omega
    subst hin
    refine codeAny_builtin F.entry_set_update_loop ?_
    rw [Around.under_plainId F.plain_set_update_loop _]
    show wpAny _ A.in1 (pyNext (.ref I) >>= _) _ _ s
    refine wpAny_bind (W.done s _ _ hst fun s' hm => ?_)
    show wpAny _ A.in1 (ret Value.none) _ _ s'
    have hkp' := keepM hm hkp
    have sub : ∀ p ∈ L, p ∈ ks := fun p hp => List.mem_of_mem_take (g.sub p hp)
    exact wpAny_pure (hR s' L es ep t (hm.mono hsub) (hS.keep (fun o e => hm.heap S o hSw e) fun p hp => isT_keep (hk p (sub p hp)) hkp') g hkp')
  | succ k ih =>
    intro i s hk' hi hst hkp ⟨L, es, ep, t, hS, g⟩ hR
    have hlt : i < n := by omega
    refine codeAny_builtin F.entry_set_update_loop ?_
    rw [Around.under_plainId F.plain_set_update_loop _]
    show wpAny _ A.in1 (pyNext (.ref I) >>= _) _ _ s
    refine wpAny_bind (W.item i s _ _ hlt hst fun v s' hP hst' hm => ?_)
    obtain ⟨p, hp, rfl⟩ := hval i v hP
    have hkp' := keepM hm hkp
    have sub : ∀ p ∈ L, p ∈ ks := fun p hp => List.mem_of_mem_take (g.sub p hp)
    have hS' : SetTR P w s'.heap S L es ep t := hS.keep (fun o e => hm.heap S o hSw e) fun q hq => isT_keep (hk q (sub q hq)) hkp'
    have hx : IsT P w s'.heap p.2 p.1 := isT_keep (hk p (List.mem_of_getElem? hp)) hkp'
    show wpAny _ A.in1 (holding [Value.ref p.1] (setAdd S (.ref p.1)) >>= _) _ _ s'
    refine wpAny_bind (wpAny_holding ?_)
    unfold setAdd
    refine wpAny_holding ?_
    refine wpAny_bind (wpAny_pyHash_tuple hu hx ?_)
    refine add_at (s := { s' with toks := s'.toks + (p.2.length + 1) }) hS' hx hu (hD L hS.nd sub) fun b h' L' es' ep' t' hsb hS2 c1 c2 => ?_
    have g' : Got ks (i + 1) L' := by
      rcases Classical.em (p.2 ∈ L.map (·.2)) with c | c
      · rw [c1 c]; exact g.same hp c
      · exact g.more hp (c2 c)
    have hkp2 : ∀ b o, h0.get? b = some o → h'.get? b = some o := fun b o e => (hsb.2 b (fun z => by rw [z, hS0] at e; cases e)).trans (hkp' b o e)
    refine wpAny_pure ⟨plainId_quiet F.plain_set_update_loop _, ih (i + 1) _ (by omega) hlt (W.frame _ s' _ _ hst' (Nat.le_add_right _ _) fun b hb o e => ?_) hkp2 ⟨L', es', ep', t', hS2, g'⟩ fun s'' L2 es2 ep2 t2 hm'' hS'' g'' hkp'' => ?_⟩
    · rw [hsb.2 b (fun h : b = S => hSf (by rw [← h]; exact hb))]; exact e
    · refine hR s'' L2 es2 ep2 t2 (Moved.trans W.gtrans ((hm.mono hsub).then_heap (Nat.le_add_right _ _) fun b o hb e => ?_) hm'') hS'' g'' hkp''
      rw [hsb.2 b (fun h : b = S => hb (by rw [h]; exact List.mem_cons_self))]; exact e
set_option maxRecDepth 100000 in
set_option maxHeartbeats 3200000 in
/-- set(xs) -/
theorem call_set_tupsW {l : Addr} {items : Array Value} (ks : List (Addr × List Int)) {Q : Value → Shared → Prop} (hh : A.handled = none) (hl : s.heap.IsList l items) (hit : items.toList = ks.map fun p => Value.ref p.1)
    (hk : ∀ p ∈ ks, IsT P w s.heap p.2 p.1) (hD : ∀ L : List (Addr × List Int), (L.map (·.2)).Nodup → (∀ p ∈ L, p ∈ ks) → L.length + 1 < 64) (hu : A.units + 3 < cLine)
    (h : ∀ (h' : Heap) (tk : Nat) L es ep t, SetTR P w h' s.heap.objs.size L es ep t → Got ks ks.length L → (∀ b o, s.heap.get? b = some o → h'.get? b = some o) → Q (.ref s.heap.objs.size) { s with heap := h', toks := tk }) :
    wpAny (model P w) A (call (.type "set") [.ref l]) Q E s := by
  have hisz : items.size = ks.length := by
    have q := congrArg List.length hit
    rw [Array.length_toList, List.length_map] at q
    exact q
  obtain ⟨c, tl, hmro⟩ := F.called_set.mro
  have hmade := F.called_set.made
  have hsub := F.called_set.sub
  refine wpAny_call (codeAny_of_tree ?_)
  show wpAny _ _ (callAny (.type "set") _) _ _ _
  refine wpAny_pure ⟨Code.quiet_builtin _ (by decide +kernel), codeAny_builtin F.entry_type_call ?_⟩
  rw [Around.under_plain (weight_type_call_type "set" [.ref l] []) rfl]
  have h1 := F.called_set.notType
  have h2 := F.called_set.canCreate
  have hct := F.typeCall_set_1 (.ref l)
  repeat (any_goals (first | assumption | wp_step))
  refine codeAny_mono (code_set_led1 (.ref l) (E := E) (Q₁ := fun obj s₁ => obj = .ref s.heap.objs.size ∧ s₁ = { s with heap := s.heap.push { cls := .type "set", dict := none, data := .set #[] 0 (.fresh 0 0 (!w.params.followText "set-order")) } }) ⟨rfl, rfl⟩) fun r s₁ hr => ?_
  cases r with
  | error e => exact hr
  | ok fl =>
    cases fl with
    | ret obj =>
      obtain ⟨rfl, rfl⟩ := hr
      have hS : (s.heap.push { cls := .type "set", dict := none, data := .set #[] 0 (.fresh 0 0 (!w.params.followText "set-order")) }).get? s.heap.objs.size = some { cls := .type "set", dict := none, data := .set #[] 0 (.fresh 0 0 (!w.params.followText "set-order")) } := Heap.get?_push_size _ rfl
      have hT : Shared.TypeIs { s with heap := s.heap.push { cls := .type "set", dict := none, data := .set #[] 0 (.fresh 0 0 (!w.params.followText "set-order")) } } (.ref s.heap.objs.size) "set" := ⟨_, hS, rfl⟩
      have hli := F.called_set.init.lookup
      have hbi := F.called_set.init.bind (.ref s.heap.objs.size)
      repeat (any_goals (first | assumption | wp_step))
      refine codeAny_mono (codeAny_call_builtin (R := wants (fun r s₂ => r = .none ∧ ∃ h' tk L es ep t, s₂ = { s with heap := h', toks := tk } ∧ SetTR P w h' s.heap.objs.size L es ep t ∧ Got ks ks.length L ∧
          (∀ b o, s.heap.get? b = some o → h'.get? b = some o)) E) F.called_set.init.plain F.entry_set_init (check_set_init_1 hT ?_)) fun r₂ s₂ hr₂ => ?_
      · obtain ⟨ol, hol, hcl, nl, hdl⟩ := hl
        obtain ⟨ocls, odict, odata, oslots⟩ := ol
        simp only at hcl hdl
        subst hcl; subst hdl
        have hol' : (s.heap.push { cls := .type "set", dict := none, data := .set #[] 0 (.fresh 0 0 (!w.params.followText "set-order")) }).get? l = some { cls := .type "list", dict := odict, data := .seq items nl, slots := oslots } := Heap.get?_push_of_some _ hol
        have hsls := F.sub_list_set
        have hslf := F.sub_list_frozenset
        have hne : (Value.type "list" == Value.type "dict") = false := by decide
        have hl1 : (s.heap.push { cls := .type "set", dict := none, data := .set #[] 0 (.fresh 0 0 (!w.params.followText "set-order")) }).IsList l items := ⟨_, hol', rfl, nl, rfl⟩
        unfold Builtin.«set.__init__» noKeywords Builtin.Frozenset.updateFrom
        generalize hPI : pyIter = PI
        wp_walk
        subst hPI
        refine wpAny_pyIter_list hl1 ?_
        refine wpAny_bind (wpAny_runValue ?_)
        have hlS : l < s.heap.objs.size := Heap.lt_size hol
        have hh3 : A.in1.in1.in1.handled = none := by simp [hh]
        have hz1 : (s.heap.push { cls := .type "set", dict := none, data := .set #[] 0 (.fresh 0 0 (!w.params.followText "set-order")) }).objs.size = s.heap.objs.size + 1 := Heap.size_push ..
        have hneI : l ≠ (s.heap.push { cls := .type "set", dict := none, data := .set #[] 0 (.fresh 0 0 (!w.params.followText "set-order")) }).objs.size := by
          rw [Heap.size_push]; exact Nat.ne_of_lt (Nat.lt_succ_of_lt hlS)
        have hSf : s.heap.objs.size ∉ [(s.heap.push { cls := .type "set", dict := none, data := .set #[] 0 (.fresh 0 0 (!w.params.followText "set-order")) }).objs.size, l] := by
          rw [Heap.size_push]; simp only [List.mem_cons, List.mem_singleton, List.not_mem_nil, or_false, not_or]
          exact ⟨Nat.ne_of_lt (Nat.lt_succ_self _), Nat.ne_of_gt hlS⟩
        have hval : ∀ (i : Nat) (v : Value), items[i]? = some v → ∃ p, ks[i]? = some p ∧ v = .ref p.1 := fun i v hv => by
          have q : items.toList[i]? = some v := by rw [Array.getElem?_toList]; exact hv
          rw [hit, List.getElem?_map] at q
          cases hq : ks[i]? with
          | none => rw [hq] at q; cases q
          | some p =>
            rw [hq] at q
            exact ⟨p, rfl, (Option.some.inj q).symm⟩
        have none_of : ∀ b, s.heap.objs.size ≤ b → s.heap.get? b = none := fun b hb => by
          cases q : s.heap.get? b with
          | none => rfl
          | some o => exact absurd (Nat.lt_of_lt_of_le (Heap.lt_size q) hb) (Nat.lt_irrefl _)
        refine set_update_tupsW ((Walks.list hh3 _ l hneI items).toS) s.heap.objs.size
          hSf ks hisz hD hval s.heap hk (none_of _ (Nat.le_refl _)) (fun b hb => none_of b (by
            rw [List.mem_singleton.mp hb, Heap.size_push]
            exact Nat.le_succ _)) hu (items.size - 0) 0 _ (by omega) (Nat.zero_le _)
          ⟨⟨_, Heap.get?_push_size _ rfl, rfl, rfl⟩, (hl1.push _)⟩ (fun b o e => Heap.get?_push_of_some _ (Heap.get?_push_of_some _ e)) ?hS0 ?hR
        case hS0 =>
          have hget : ((s.heap.push { cls := .type "set", dict := none, data := .set #[] 0 (.fresh 0 0 (!w.params.followText "set-order")) }).push { cls := .type "list_iterator", data := .fields #[.ref l, .int 0 0] }).get? s.heap.objs.size
              = some { cls := .type "set", dict := none, data := .set #[] 0 (.fresh 0 0 (!w.params.followText "set-order")) } := Heap.get?_push_of_some _ hS
          exact ⟨[], #[], 0, _, setTR_fresh hget, Got.zero ks⟩
        case hR =>
          intro s' L es ep t hm hS' g' hkp
          obtain ⟨h', g2, d', tk', os'⟩ := s'
          have eg : g2 = s.gens := hm.gens
          have ed : d' = s.drawn := hm.drawn
          have eo : os' = s.os := hm.os
          subst eg; subst ed; subst eo
          show wpAny _ _ _ _ _ _
          refine wpAny_pure ?_
          show wpAny _ _ (ret Value.none) _ _ _
          rw [hisz] at g'
          exact wpAny_pure ⟨rfl, h', tk', L, es, ep, t, rfl, hS', g', hkp⟩
      · cases r₂ with
        | error e => exact hr₂
        | ok fl₂ =>
          cases fl₂ with
          | ret r =>
            obtain ⟨rfl, h', tk, L, es, ep, t, rfl, hS', g', hk'⟩ := hr₂
            repeat (any_goals (first | assumption | wp_step))
            exact h _ _ _ _ _ _ hS' g' hk'
          | _ => exact hr₂.elim
    | _ => exact hr.elim
end
end L2
end
section
set_option maxHeartbeats 4000000
namespace PF
open PySem PySem.Spec PyProof.Rows L2
open PySem.W (EachIs SortsAt dataKind)
theorem alike_lots (a b : List Int) : PySem.W.alike (lotD a) (lotD b) = true := by
  unfold lotD
  rw [PySem.W.alike]
  exact PySem.W.alike_ints a b
theorem readsAll_intsI {h : Heap} : ∀ {L : List Int} {us : List Value}, IntsAre us L → ReadsAll h us (L.map .int) []
  | _, _, .nil => .nil
  | _, _, .cons n t r => ReadsAll.cons (as := []) (bs := []) (.int n t) (readsAll_intsI r)
theorem each_eq {L : List (Addr × List Int)} : ∀ {out : List Value}, EachIs (fun v (q : Addr × List Int) => v = Value.ref q.1) out L → out = L.map fun q => Value.ref q.1
  | _, .nil => rfl
  | _, .cons h t => by rw [h, each_eq t]; rfl
theorem lots_le : PySem.W.dataLe false (fun q : Addr × List Int => lotD q.2) = fun a b => !decide (b.2 < a.2) := by
  rw [PySem.W.dataLe_eq]
  funext a b
  show (!PySem.W.dataLt (lotD b.2) (lotD a.2)) = _
  unfold lotD
  rw [PySem.W.dataLt_tuple]
  show (!PySem.W.rowLt (b.2.map .int) (a.2.map .int)) = _
  rw [PySem.W.dataLt_ints]
theorem each_get {α β : Type} {R : α → β → Prop} : ∀ {vs : List α} {bs : List β}, EachIs R vs bs → ∀ {i : Nat} {v : α}, vs[i]? = some v → ∃ b, bs[i]? = some b ∧ R v b
  | _, _, .nil, i, v, h => by simp at h
  | _, _, .cons (b := b) r t, 0, v, h => ⟨b, rfl, by simp at h; rw [← h]; exact r⟩
  | _, _, .cons r t, i + 1, v, h => each_get t (by simpa using h)
section
variable {prog : Program} {w : World} {A : Around} {E : Value → Shared → Prop} {s : Shared}
theorem call_tuple_ltA {Q : Value → Shared → Prop} {l b : Addr} {items items2 : Array Value} {e r : Nat → Bool} (hl : s.heap.IsTuple l items) (hb : s.heap.IsTuple b items2)
    (he : ∀ j (h1 : j < items.size) (h2 : j < items2.size), SeqAt.EqAt A.in1 s items[j] items2[j] (e j)) (hr : ∀ j (h1 : j < items.size) (h2 : j < items2.size), e j = false → SeqAt.RcLt A.in1 s items[j] items2[j] (r j))
    (h : Q (.bool (SeqAt.firstLt e r (decide (items.size < items2.size)) (List.range (min items.size items2.size)))) s) : wpAny (model prog w) A (call (.builtin "tuple.__lt__") [.ref l, .ref b]) Q E s := by
  obtain ⟨⟨cls, dd, data, sl⟩, ho, hc, n, hd⟩ := id hl
  obtain ⟨⟨cls2, dd2, data2, sl2⟩, ho2, hc2, n2, hd2⟩ := id hb
  simp only at hc hd hc2 hd2
  subst hc hd hc2 hd2
  exact call_meets PySem.F.slot_tuple_lt ⟨_, ho, rfl⟩ PySem.F.entry_tuple_lt (PySem.F.args_tuple_lt_2 _ _) (SeqAt.tuple_ltAt l b items items2 n n2 dd dd2 sl sl2 e r) ⟨ho, ho2, he, hr, h⟩
/-- the sort's own compare of two tuples -/
theorem oneLt_tup {x y : List Int} {a b : Value} {as bs : List Addr} {f : Bool} {Q : Bool → Shared → Prop} (ra : Reads s.heap a (lotD x) as) (rb : Reads s.heap b (lotD y) bs) (hu : A.units + 1 < cLine) (hq : Q (PySem.W.dataLt (lotD x) (lotD y)) s) : wpAny (model prog w) A (oneLt' f a b) Q E s := by
  have hd : ∀ z : List Int, (lotD z).depth = 1 := fun z => (lotD_can z).2
  have hm : A.units + min (lotD x).depth (lotD y).depth < cLine := by rw [hd, hd]; exact hu
  cases f with
  | false => exact PySem.W.oneLt_alike (fun z => by cases z) ra rb (alike_lots x y) (fun z => by cases z) hm hq
  | true =>
    have hal := PySem.W.alike_ints x y
    unfold lotD at ra rb hq hm
    cases ra with
    | @tuple l o vs n _ as₁ h1 h2 h3 h4 =>
      cases rb with
      | @tuple l' o' vs' n' _ bs₁ k1 k2 k3 k4 =>
        have n1 : vs.size = (x.map PyData.int).length := by simpa using SeqAt.ReadsAll.length _ _ _ h4
        have n2 : vs'.size = (y.map PyData.int).length := by simpa using SeqAt.ReadsAll.length _ _ _ k4
        rw [PySem.W.dataLt_tuple, ← PySem.W.firstLt_toks _ _ hal, ← n1, ← n2] at hq
        rw [oneLt'_eq]
        simp only [if_true]
        refine wpAny_bind (wpAny_cRoomFor (SeqAt.room_here hm) ?_)
        refine wpAny_bind (wpAny_callSpecialIfBound?_slot (T := "tuple") ⟨_, h1, h2⟩ PySem.F.slot_tuple_lt (call_tuple_ltA (e := SeqAt.pairEq (x.map PyData.int) (y.map PyData.int)) (r := fun j => PySem.W.dataLt ((x.map PyData.int).getD j .none) ((y.map PyData.int).getD j .none)) ⟨_, h1, h2, _, h3⟩ ⟨_, k1, k2, _, k3⟩ (fun j j1 j2 => ?_) (fun j j1 j2 hj => ?_) ?_))
        · have := PySem.W.eqAt_alikeAll _ _ A.in1 s vs.toList vs'.toList _ _ h4 k4 hal (SeqAt.room_in hm) j (by simpa using j1) (by simpa using j2)
          simpa using this
        · have := PySem.W.rcLt_alikeAll _ _ A.in1 s vs.toList vs'.toList _ _ h4 k4 hal (SeqAt.room_in hm) j (by simpa using j1) (by simpa using j2) hj
          simpa using this
        · exact wpAny_truthy_bool hq
theorem first_lots : ∀ {vs : List Value} {qs : List (List Int)}, EachIs (fun v d => ∃ as, Reads s.heap v d as) vs (qs.map lotD) → ∀ {Q : List (Option Value) → Shared → Prop}, (∀ fs : List (Option Value), fs.length = qs.length → (∀ (i : Nat) (q : List Int), qs[i]? = some q → q = [] → fs[i]? = some none) → (∀ (i : Nat) (q : List Int), qs[i]? = some q → q ≠ [] → ∃ v, fs[i]? = some (some v)) → Q fs s) → wpAny (model prog w) A (vs.mapM firstOfTuple') Q E s
  | vs, [], e, Q, h => by
    cases e
    rw [List.mapM_nil]
    exact wpAny_pure (h [] rfl (fun i q hq => by simp at hq) fun i q hq => by simp at hq)
  | vs, q :: qs, e, Q, h => by
    have e' : EachIs (fun v d => ∃ as, Reads s.heap v d as) vs (lotD q :: qs.map lotD) := e
    cases e' with
    | @cons v _ vs' _ r t =>
      obtain ⟨as, r⟩ := r
      rw [List.mapM_cons]
      unfold lotD at r
      cases r with
      | @tuple a o xs n _ _ ho hc hd hr =>
        refine wpAny_bind ?_
        rw [PySem.W.kas_first_eq]
        refine wpAny_bind (wpAny_typeOf (T := "tuple") ⟨o, ho, hc⟩ ?_)
        rw [if_neg (by decide)]
        unfold Builtin.List.listItems
        refine wpAny_bind (wpAny_bind (wpAny_seqItems ho hd (wpAny_pure ?_)))
        refine wpAny_pure (wpAny_bind (first_lots t fun fs h1 h2 h3 => wpAny_pure (h _ (by rw [List.length_cons, List.length_cons, h1]) (fun i p hp hn => ?_) fun i p hp hn => ?_)))
        · cases i with
          | zero =>
            have : q = p := Option.some.inj hp
            subst this
            subst hn
            have hr' : ReadsAll s.heap xs.toList [] _ := hr
            have ex : xs.toList = [] := by
              cases hx : xs.toList with
              | nil => rfl
              | cons z zs => rw [hx] at hr'; cases hr'
            show some xs[0]? = some none
            rw [← Array.getElem?_toList, ex]
            rfl
          | succ i => exact h2 i p (by simpa using hp) hn
        · cases i with
          | zero =>
            have : q = p := Option.some.inj hp
            subst this
            cases hx : xs.toList with
            | nil =>
              rw [hx] at hr
              cases q with
              | nil => exact absurd rfl hn
              | cons z zs => cases hr
            | cons z zs =>
              refine ⟨z, ?_⟩
              show some xs[0]? = some (some z)
              rw [← Array.getElem?_toList, hx]
              rfl
          | succ i => exact h3 i p (by simpa using hp) hn
/-- tuples of ints, of any lengths, can be sorted -/
theorem sortsAt_lots {vs : List Value} {qs : List (List Int)} (e : EachIs (fun v d => ∃ as, Reads s.heap v d as) vs (qs.map lotD)) (hu : A.units + 2 < cLine) : SortsAt prog w A s (dataKind s.heap (qs.map lotD)) vs := by
  have hal : PySem.W.AllAlike (qs.map lotD) := PySem.W.AllAlike.of alike_lots
  have hd : ∀ z : List Int, (lotD z).depth = 1 := fun z => (lotD_can z).2
  by_cases hne : ∀ q ∈ qs, q ≠ []
  · refine SortsAt.data e hal (.inl fun d hd2 => ?_) fun d hd2 => ?_
    · obtain ⟨q, hq, rfl⟩ := List.mem_map.mp hd2
      cases q with
      | nil => exact absurd rfl (hne _ hq)
      | cons x r => exact ⟨_, _, rfl⟩
    · obtain ⟨q, hq, rfl⟩ := List.mem_map.mp hd2
      rw [hd]
      omega
  · refine ⟨fun v hv => ?_, ?_⟩
    · obtain ⟨d, hd2, as, r⟩ := e.left v hv
      exact ⟨_, PySem.W.dataKind_some hal hd2 r⟩
    · have lt : ∀ (f : Bool) (E : Value → Shared → Prop) (x y : Value) (a b : List (Int ⊕ List Nat)) (Q : Bool → Shared → Prop), (dataKind s.heap (qs.map lotD)).keyOf x = some a → (dataKind s.heap (qs.map lotD)).keyOf y = some b → Q (PyProof.Rows.lexLt itemOrd a b) s → wpAny (model prog w) A (oneLt' f x y) Q E s := fun f E x y a b Q ha hb hq => by
        obtain ⟨d, as, hd1, ra, rfl⟩ := PySem.W.dataKind_inv ha
        obtain ⟨d', as', hd2, rb, rfl⟩ := PySem.W.dataKind_inv hb
        obtain ⟨p, hp, rfl⟩ := List.mem_map.mp hd1
        obtain ⟨p', hp', rfl⟩ := List.mem_map.mp hd2
        exact oneLt_tup ra rb (by omega) hq
      have hlen : vs.length = qs.length := by
        have := e.length
        rw [List.length_map] at this
        exact this
      have hk : ∀ (kd : SortKind), (kd = general' ∨ kd = oneType') → True := fun _ _ => trivial
      cases qs with
      | nil => exact absurd (fun q hq => by simp at hq) hne
      | cons q0 qs0 =>
        have allT : ∀ v ∈ vs, ∃ o a, v = .ref a ∧ s.heap.get? a = some o ∧ o.cls = .type "tuple" := fun v hv => by
          obtain ⟨d, hd2, as, r⟩ := e.left v hv
          obtain ⟨q, hq, rfl⟩ := List.mem_map.mp hd2
          unfold lotD at r
          cases r with
          | tuple ho hc hd hr => exact ⟨_, _, rfl, ho, hc⟩
        by_cases h0 : q0 = []
        · refine ⟨oneType', fun E x y a b Q ha hb hq => lt true E x y a b Q ha hb hq, fun h2 E Q hq => ?_⟩
          rw [keyKind'_eq, List.mapM_toArray, map_eq_pure_bind]
          refine wpAny_bind (wpAny_bind (first_lots e fun fs f1 f2 f3 => wpAny_pure ?_))
          have z0 := f2 0 q0 rfl h0
          have hall : (fs.toArray.all fun x => x.isSome) = false := by
            rw [Bool.eq_false_iff]
            intro hx
            rw [List.all_toArray, List.all_eq_true] at hx
            have := hx none (List.mem_of_getElem? z0)
            cases this
          rw [if_neg (by rw [hall]; exact Bool.false_ne_true)]
          have e0 : (fs.toArray[0]?.bind id).isSome = false := by
            rw [List.getElem?_toArray, z0]
            rfl
          rw [if_neg (by rw [e0]; exact Bool.false_ne_true)]
          rw [oneTypeOnly'_eq, List.mapM_toArray, map_eq_pure_bind]
          refine wpAny_bind (wpAny_bind (wpAny_bind (PySem.W.kas_mapM (r := Value.type "tuple") _ (fun v hv Q' hq' => ?_) (wpAny_pure ?_))))
          · obtain ⟨o, a, rfl, ho, hc⟩ := allT v hv
            exact wpAny_typeOf (T := "tuple") ⟨o, ho, hc⟩ hq'
          · cases vs with
            | nil => exact absurd h2 (by simp)
            | cons v0 vs0 =>
              have hall2 : ((List.map (fun _ => Value.type "tuple") (v0 :: vs0)).toArray.all fun x => x == Value.type "tuple") = true := by
                simp only [List.all_toArray, List.all_map, List.all_eq_true]
                intro _ _
                rfl
              have h00 : (List.map (fun _ => Value.type "tuple") (v0 :: vs0)).toArray[0]? = some (Value.type "tuple") := by simp
              rw [h00]
              simp only [hall2, if_true]
              exact wpAny_pure (wpAny_pure hq)
        · refine ⟨general', fun E x y a b Q ha hb hq => lt false E x y a b Q ha hb hq, fun h2 E Q hq => ?_⟩
          rw [keyKind'_eq, List.mapM_toArray, map_eq_pure_bind]
          refine wpAny_bind (wpAny_bind (first_lots e fun fs f1 f2 f3 => wpAny_pure ?_))
          have hall : (fs.toArray.all fun x => x.isSome) = false := by
            rw [Bool.eq_false_iff]
            intro hx
            rw [List.all_toArray, List.all_eq_true] at hx
            refine hne fun q hq2 hn => ?_
            obtain ⟨i, hi⟩ := List.mem_iff_getElem?.mp hq2
            have := hx none (List.mem_of_getElem? (f2 i q hi hn))
            cases this
          rw [if_neg (by rw [hall]; exact Bool.false_ne_true)]
          obtain ⟨v, hv⟩ := f3 0 q0 rfl h0
          have e0 : (fs.toArray[0]?.bind id).isSome = true := by
            rw [List.getElem?_toArray, hv]
            rfl
          rw [if_pos e0]
          exact wpAny_pure hq
end
end PF
namespace L2
open PySem PySem.Spec PyProof.Rows
section
variable {P : Program} {w : World} {A : Around} {E : Value → Shared → Prop} {s : Shared}
theorem sorted_setL {a : Addr} {L : List (Addr × List Int)} {es : Array (Int × Value)} {ep : Nat} {t : SetTable} {Q : Value → Shared → Prop} (R : SetTR P w s.heap a L es ep t) (hh : A.handled = none)
    (hroom : A.units + 66 < cLine)
    (hQ : ∀ s' p (out : Array Value) (c : Nat) (L' : List (Addr × List Int)), (∀ b o, s.heap.get? b = some o → s'.heap.get? b = some o) → s'.gens = s.gens → s'.os = s.os → s.heap.objs.size ≤ p →
      s'.heap.get? p = some (seqObj "list" out c) → out.toList = L'.map (fun q => Value.ref q.1) → L'.Perm L → L'.Pairwise (fun q r => ¬ r.2 < q.2) → Q (.ref p) s') :
    wpAny (model P w) A (call (.builtin "sorted") [.ref a]) Q E s := by
  obtain ⟨o, ho, hex, hd⟩ := R.ob
  have hsz := R.size
  have hfew := R.few
  refine Calls.call_function_entry kind_sorted plain_sorted entry_sorted (args_sorted1 _) ?_
  unfold Builtin.«sorted»
  refine wpAny_bind (m := checkCount "sorted" 1 1 _) (wpAny_pure ?_)
  refine wpAny_bind (collect_set (A := A.in1) hh ⟨o, ho, hex.1, hd⟩ R.fits (by unfold scanBound; omega) R.tab.ris R.led fun s1 vs k1 hz g1 o1 pm => ?_)
  have hes : es.toList.map (·.2) = L.map fun q => Value.ref q.1 := by
    rw [R.rows]
    unfold rowsOf
    rw [List.map_map] <;> rfl
  rw [hes] at pm
  -- the values are the addresses of the rows, in some order
  have ord : ∀ vs : List Value, (∀ v ∈ vs, ∃ q ∈ L, v = Value.ref q.1) → ∃ L1 : List (Addr × List Int), vs = L1.map (fun q => Value.ref q.1) ∧ ∀ q ∈ L1, q ∈ L := by
    intro vs
    induction vs with
    | nil => intro _; exact ⟨[], rfl, fun q hq => (by cases hq)⟩
    | cons v vs ih =>
      intro hv
      obtain ⟨q, hq, e⟩ := hv v List.mem_cons_self
      obtain ⟨L1, e1, hs⟩ := ih fun u hu => hv u (List.mem_cons_of_mem _ hu)
      refine ⟨q :: L1, by rw [List.map_cons, e, e1], fun r hr => ?_⟩
      rcases List.mem_cons.mp hr with z | z
      · rw [z]; exact hq
      · exact hs r z
  -- an address has one key
  have one : ∀ q ∈ L, ∀ r ∈ L, q.1 = r.1 → q = r := fun q hq r hr e => by
    have a1 := R.tup q hq
    have a2 := R.tup r hr
    rw [e] at a1
    have e2 : q.2 = r.2 := a1.inj a2
    exact Prod.ext e e2
  have perm_of : ∀ L1 : List (Addr × List Int), (∀ q ∈ L1, q ∈ L) → (L1.map (fun q => Value.ref q.1)).Perm (L.map fun q => Value.ref q.1) → L1.Perm L := by
    intro L1 hs pm1
    have nL : L.Nodup := nodup_of_map R.nd
    have nref : (L.map fun q => Value.ref q.1).Nodup := by
      refine List.pairwise_map.mpr (List.Pairwise.imp_of_mem (fun {q r} hq hr hne e => ?_) nL)
      injection e with e
      exact hne (one q hq r hr e)
    have n1 : L1.Nodup := nodup_of_map (pm1.nodup_iff.mpr nref)
    refine (List.perm_ext_iff_of_nodup n1 nL).mpr fun q => ⟨hs q, fun hq => ?_⟩
    have hm : Value.ref q.1 ∈ L1.map (fun q => Value.ref q.1) := pm1.mem_iff.mpr (List.mem_map.mpr ⟨q, hq, rfl⟩)
    obtain ⟨r, hr, e⟩ := List.mem_map.mp hm
    injection e with e
    rw [← one r (hs r hr) q hq e]
    exact hr
  have hvl : vs.length < 64 := by rw [pm.length_eq, List.length_map]; exact hfew
  refine wpAny_bind (wpAny_newList ?_ (by rw [sizeLine_eq]; omega))
  have hoL : (s1.heap.push (seqObj "list" vs.toArray 0)).get? s1.heap.objs.size = some (seqObj "list" vs.toArray 0) := Heap.get?_push_size _ rfl
  have tk : ∀ q ∈ L, TS.TupInts (s1.heap.push (seqObj "list" vs.toArray 0)) (.ref q.1) q.2 := fun q hq => tupInts_of (P := P) (w := w) (isT_keep (R.tup q hq) fun b u e => Heap.get?_push_of_some _ (k1 b u e))
  have hb1 : ∀ v ∈ vs, ∃ q ∈ L, v = Value.ref q.1 := fun v hv => by
    obtain ⟨q, hq, e⟩ := List.mem_map.mp (pm.mem_iff.mp hv)
    exact ⟨q, hq, e.symm⟩
  obtain ⟨L1, e1, hs1⟩ := ord vs hb1
  have hE : PySem.W.EachIs (fun v (d : PyData) => ∃ as, Reads (PySem.W.sortingHeap (s1.heap.push (seqObj "list" vs.toArray 0)) s1.heap.objs.size vs) v d as) vs (L1.map fun q => PF.lotD q.2) := by
    refine PF.each_of (by rw [e1, List.length_map, List.length_map]) fun i v d hv hd => ?_
    rw [e1, List.getElem?_map] at hv
    rw [List.getElem?_map] at hd
    obtain ⟨q, hq, rfl⟩ := Option.map_eq_some_iff.mp hv
    rw [hq] at hd
    cases hd
    obtain ⟨o1, its, n1, q1, q2, q3, q4⟩ := R.tup q (hs1 q (List.mem_of_getElem? hq))
    have k2 : (PySem.W.sortingHeap (s1.heap.push (seqObj "list" vs.toArray 0)) s1.heap.objs.size vs).get? q.1 = some o1 :=
      PySem.W.sortingHeap_old (Nat.ne_of_lt (Heap.lt_size (k1 _ _ q1))) (Heap.get?_push_of_some _ (k1 _ _ q1))
    exact ⟨_, .tuple k2 q2 q3 (PF.readsAll_intsI (ints_of_items q4))⟩
  have hS := PF.sortsAt_lots (prog := P) (w := w) (A := A.in1.in1) (s := { s1 with heap := PySem.W.sortingHeap (s1.heap.push (seqObj "list" vs.toArray 0)) s1.heap.objs.size vs }) (qs := L1.map (·.2)) (by rw [List.map_map]; exact hE) (show A.units + 2 + 2 < cLine by omega)
  refine wpAny_bind (wpAny_holding ?_)
  refine wpAny_call_entry slot_list_sort ⟨_, hoL, rfl⟩ entry_list_sort (PySem.W.list_sort_vals (s := { s1 with heap := s1.heap.push (seqObj "list" vs.toArray 0) }) hoL hS (by rw [sizeLine_eq]; omega) ⟨_, rfl, ?_⟩) (args_list_sort _)
  have hE1 : PySem.W.EachIs (fun v (q : Addr × List Int) => v = Value.ref q.1) vs L1 := PF.each_of (by rw [e1, List.length_map]) fun i v q hv hq => by
    rw [e1, List.getElem?_map, hq] at hv
    exact (Option.some.inj hv).symm
  have hE2 : PySem.W.EachIs (fun v (q : Addr × List Int) => ∃ as, Reads (PySem.W.sortingHeap (s1.heap.push (seqObj "list" vs.toArray 0)) s1.heap.objs.size vs) v (PF.lotD q.2) as) vs L1 := PF.each_of (by rw [e1, List.length_map]) fun i v q hv hq => by
    obtain ⟨d, hd, hr⟩ := PF.each_get hE hv
    rw [List.getElem?_map, hq] at hd
    cases hd
    exact hr
  have hO := PySem.W.sortVals_data (R := fun v (q : Addr × List Int) => v = Value.ref q.1) (enc := fun q => PF.lotD q.2) false hE1 hE2 (PySem.W.AllAlike.of fun a b => PF.alike_lots a.2 b.2)
  have eM : (L1.map (·.2)).map PF.lotD = L1.map fun q => PF.lotD q.2 := by
    rw [List.map_map]
    rfl
  rw [eM]
  generalize hout : PySem.W.sortVals (PySem.W.dataKind (PySem.W.sortingHeap (s1.heap.push (seqObj "list" vs.toArray 0)) s1.heap.objs.size vs) (L1.map fun q => PF.lotD q.2)) false vs vs = out at hO ⊢
  generalize hL' : L1.mergeSort (PySem.W.dataLe false fun q => PF.lotD q.2) = L' at hO
  have e' : out = L'.map (fun q => Value.ref q.1) := PF.each_eq hO
  have p1 : L'.Perm L1 := by
    rw [← hL']
    exact List.mergeSort_perm _ _
  have pL1 : L1.Perm L := perm_of L1 hs1 (by rw [← e1]; exact pm)
  have pw : L'.Pairwise (fun q r => ¬ r.2 < q.2) := by
    rw [← hL', PF.lots_le]
    refine (List.pairwise_mergeSort (le := fun (a b : Addr × List Int) => !decide (b.2 < a.2)) (fun a b c h1 h2 => ?_) (fun a b => ?_) L1).imp fun h => by simpa using h
    · simp only [Bool.not_eq_true', decide_eq_false_iff_not] at h1 h2 ⊢
      exact fun h3 => by
        have q1 := List.not_lt.mp h1
        have q2 := List.not_lt.mp h2
        exact List.not_lt.mpr (List.le_trans q1 q2) h3
    · by_cases h : b.2 < a.2
      · have : ¬ a.2 < b.2 := fun h2 => List.lt_irrefl _ (List.lt_trans h h2)
        simp [h, this]
      · simp [h]
  obtain ⟨c, hc⟩ := sortedHeap_at (vs := vs) (out := out.toArray) hoL
  refine wpAny_pure ⟨_, rfl, hQ _ s1.heap.objs.size out.toArray c L' (fun b u e => ?_) g1 o1 hz hc (by simpa using e') (p1.trans pL1) pw⟩
  have q := k1 b u e
  have hlt := Heap.lt_size q
  show (sortedHeap (s1.heap.push (seqObj "list" vs.toArray 0)) s1.heap.objs.size vs out.toArray).get? b = some u
  rw [sortedHeap_old (Nat.ne_of_lt hlt) (by rw [size_push']; exact Nat.lt_succ_of_lt hlt)]
  exact Heap.get?_push_of_some _ q
end
end L2
end
section
set_option maxHeartbeats 4000000
namespace PF
open PySem PySem.Spec PyProof.Rows L2
section
variable {X : Cx}
/-- set(xs), ints -/
theorem cr_setInts (hc : X.calm = true) : CallR X (.type "set") (fun xs H Q => ∃ (l : Addr) (ns : List Int), xs = [V.ref l] ∧ H l = some (.lst (ns.map V.int)) ∧ ns.length ≤ 1000 ∧ ∀ a c, H a = none → c ≤ ns.length → Q (.ref a) (upd H a (SetO X.w a (fun j => decide (j ∈ ns)) c))) := by
  intro pins s σ H xs us Q I r h
  obtain ⟨l, ns, rfl, hl, hn, q⟩ := h
  rw [Vals.ref1 r]
  obtain ⟨its, rv, pl, hz⟩ := I.list (SqL.of hl)
  have hi : IntsAre its.toArray.toList ns := ints_of_vals rv
  refine call_set_listI ns (I.ok.hd hc) pl.isList hi (by unfold scanBound; omega) fun h' tk c R hcn k => ?_
  exact ⟨.ref s.heap.objs.size, _, I.laid (t' := tk) k (Nat.le_refl _) (setO_new R), rfl, q _ c (I.hok.fresh (Nat.le_refl _)) hcn⟩
/-- set(xs), tuples of ints, few of them distinct -/
theorem cr_setLots (hc : X.calm = true) (hu : X.A.units + 64 < cLine) : CallR X (.type "set") (fun xs H Q => ∃ (l : Addr) (ks : List (Addr × List Int)), xs = [V.ref l] ∧ H l = some (.lst (ks.map fun p => V.ref p.1)) ∧ (∀ p ∈ ks, SqT X.K H p.1 (p.2.map V.int)) ∧
    (∀ L : List (Addr × List Int), (L.map (·.2)).Nodup → (∀ p ∈ L, p ∈ ks) → L.length + 1 < 64) ∧ ∀ a L, H a = none → (∀ p ∈ L, p ∈ ks) → (∀ p ∈ ks, p.2 ∈ L.map (·.2)) → Q (.ref a) (upd H a (SetTO X.prog X.w a L))) := by
  intro pins s σ H xs us Q I r h
  obtain ⟨l, ks, rfl, hl, hk, hD, q⟩ := h
  rw [Vals.ref1 r]
  obtain ⟨its, rv, pl, hz⟩ := I.list (SqL.of hl)
  have hn : H s.heap.objs.size = none := I.hok.fresh (Nat.le_refl _)
  refine call_set_tupsW (P := X.prog) (w := X.w) ks (I.ok.hd hc) pl.isList (by simpa using refs_of_vals rv) (fun p hp => I.isT (hk p hp)) hD (by omega) fun h' tk L es ep t R g k => ?_
  refine ⟨.ref s.heap.objs.size, upd H s.heap.objs.size (SetTO X.prog X.w s.heap.objs.size L), I.laid (t' := tk) k (Nat.le_refl _) (setTO_new R.t0), rfl, q _ L hn (fun p hp => ?_) fun p hp => ?_⟩
  · exact List.mem_of_mem_take (g.sub p hp)
  · exact g.all p (by rw [List.take_length]; exact hp)
/-- sorted(set of such tuples) -/
theorem cr_sortedLots (hc : X.calm = true) (hu : X.A.units + 66 < cLine) : CallR X (.builtin "sorted") (fun xs H Q => ∃ (a : Addr) (L : List (Addr × List Int)), xs = [V.ref a] ∧ H a = some (SetTO X.prog X.w a L) ∧ (∀ p ∈ L, SqT X.K H p.1 (p.2.map V.int)) ∧
    ∀ (L' : List (Addr × List Int)) (p : Addr), L'.Perm L → (L'.map (·.2)).Nodup → L'.Pairwise (fun q r => ¬ r.2 < q.2) → H p = none → Q (.ref p) (upd H p (.lst (L'.map fun q => V.ref q.1)))) := by
  intro pins s σ H xs us Q I r h
  obtain ⟨a, L, rfl, ha, hk, q⟩ := h
  have R0 : SetT0 X.prog X.w s.heap a L := (I.hok a _ ha).1
  obtain ⟨es, ep, t, R⟩ := R0.full fun p hp => I.isT (hk p hp)
  rw [Vals.ref1 r]
  refine sorted_setL R (I.ok.hd hc) hu fun s' p out c L' k g o hp hg hout pm pw => ?_
  have hfew : L'.length < 64 := by rw [pm.length_eq]; exact R.few
  have hlen : (L'.map fun q => V.ref q.1).length ≤ sizeLine := by rw [List.length_map, sizeLine_eq]; omega
  have hn : H p = none := I.hok.fresh hp
  have hv : Vals (L'.map fun q => V.ref q.1) out.toList := by rw [hout]; exact vals_of_refs L'
  have J : L2.Inv X pins σ (upd H p (.lst (L'.map fun q => V.ref q.1))) { s with heap := s'.heap, gens := s'.gens, drawn := s'.drawn, toks := s'.toks } :=
    I.call (ch := []) (Un.laid k hp hn) (I.hok.laid k hp ⟨hlen, out.toList, c, hv, hg⟩) (by rw [g]; exact I.bare) (fun _ z => nomatch z)
  have e : s' = { s with heap := s'.heap, gens := s'.gens, drawn := s'.drawn, toks := s'.toks } := by
    cases s'
    cases s
    cases o
    rfl
  rw [e]
  exact ⟨.ref p, _, J, rfl, q L' p pm ((pm.map (·.2)).nodup_iff.mpr R.nd) pw hn⟩
end
end PF
end
section
set_option maxHeartbeats 4000000
/-! The greatest lot that stands, by all lots: plain Lean. -/
namespace PF
theorem int_ext : ∀ {L M : List Int}, L.Pairwise (· < ·) → M.Pairwise (· < ·) → (∀ x, x ∈ L ↔ x ∈ M) → L = M
  | [], [], _, _, _ => rfl
  | [], b :: _, _, _, h => absurd ((h b).mpr List.mem_cons_self) (by simp)
  | a :: _, [], _, _, h => absurd ((h a).mp List.mem_cons_self) (by simp)
  | a :: l, b :: m, h1, h2, h => by
    obtain ⟨p1, p2⟩ := List.pairwise_cons.mp h1
    obtain ⟨q1, q2⟩ := List.pairwise_cons.mp h2
    have e : a = b := by
      rcases List.mem_cons.mp ((h a).mp List.mem_cons_self) with e | ha
      · exact e
      · rcases List.mem_cons.mp ((h b).mpr List.mem_cons_self) with e | hb
        · exact e.symm
        · have := q1 a ha
          have := p1 b hb
          omega
    subst e
    congr 1
    refine int_ext p2 q2 fun x => ⟨fun hx => ?_, fun hx => ?_⟩
    · rcases List.mem_cons.mp ((h x).mp (List.mem_cons_of_mem _ hx)) with e | hx'
      · have := p1 x hx
        omega
      · exact hx'
    · rcases List.mem_cons.mp ((h x).mpr (List.mem_cons_of_mem _ hx)) with e | hx'
      · have := q1 x hx
        omega
      · exact hx'
def bitOn (num : Nat) (k : Int) : Bool := decide (num / 2 ^ k.toNat % 2 = 1)
def bitsL (n num : Nat) : List Int := (full n).filter (bitOn num)
theorem bitsL_good (n num : Nat) : GoodL n (bitsL n num) := ⟨(full_good n).rise.filter _, fun p hp => (full_good n).within p (List.mem_filter.mp hp).1⟩
theorem bits_make (P : Nat → Bool) : ∀ n : Nat, ∃ num, num < 2 ^ n ∧ ∀ k, k < n → Nat.testBit num k = P k
  | 0 => ⟨0, by decide, fun k hk => absurd hk (Nat.not_lt_zero _)⟩
  | n + 1 => by
    obtain ⟨num, h1, h2⟩ := bits_make P n
    have t0 : Nat.testBit num n = false := Nat.testBit_lt_two_pow h1
    cases hp : P n with
    | false =>
      refine ⟨num, Nat.lt_of_lt_of_le h1 (two_le (Nat.le_succ n)), fun k hk => ?_⟩
      by_cases c : k = n
      · rw [c, t0, hp]
      · exact h2 k (by omega)
    | true =>
      refine ⟨2 ^ n + num, by rw [Nat.pow_succ]; omega, fun k hk => ?_⟩
      by_cases c : k = n
      · rw [c, Nat.testBit_two_pow_add_eq, t0, hp]
        rfl
      · rw [Nat.testBit_two_pow_add_gt (by omega)]
        exact h2 k (by omega)
theorem bits_all {n : Nat} {L : List Int} (G : GoodL n L) : ∃ num, num < 2 ^ n ∧ bitsL n num = L := by
  obtain ⟨num, h1, h2⟩ := bits_make (fun k => decide ((k : Int) ∈ L)) n
  refine ⟨num, h1, int_ext (bitsL_good n num).rise G.rise fun x => ?_⟩
  unfold bitsL bitOn
  rw [List.mem_filter]
  have key : ∀ k : Nat, k < n → (num / 2 ^ k % 2 = 1 ↔ (k : Int) ∈ L) := fun k hk => by
    have := h2 k hk
    rw [Nat.testBit_eq_decide_div_mod_eq] at this
    rw [← decide_eq_true_iff (p := num / 2 ^ k % 2 = 1), this, decide_eq_true_iff]
  constructor
  · rintro ⟨hx, hb⟩
    have w := (full_good n).within x hx
    have := (key x.toNat (by omega)).mp (by simpa using hb)
    rwa [show ((x.toNat : Nat) : Int) = x by omega] at this
  · intro hx
    have w := G.within x hx
    refine ⟨?_, ?_⟩
    · unfold full
      exact List.mem_map.mpr ⟨x.toNat, List.mem_range.mpr (by omega), by omega⟩
    · have := (key x.toNat (by omega)).mpr (by rw [show ((x.toNat : Nat) : Int) = x by omega]; exact hx)
      simpa using this
def Stands (F : Ky → Bool) (n : Nat) (L : List Int) : Prop := ∀ k ∈ sides n L, F k = false
def Greatest (F : Ky → Bool) (n : Nat) (M : List Int) : Prop := M.Pairwise (· < ·) ∧ ∀ p, p ∈ M ↔ ∃ S, GoodL n S ∧ Stands F n S ∧ p ∈ S
theorem bit_eq (i k : Nat) : ((i : Int) / 2 ^ ((k : Int)).toNat % 2 = 1) ↔ (i / 2 ^ k % 2 = 1) := by
  have e1 : (2 : Int) ^ ((k : Int)).toNat = ((2 ^ k : Nat) : Int) := by
    rw [Int.toNat_natCast, Int.natCast_pow]
    rfl
  rw [e1]
  omega
theorem pow_toNat (n : Nat) : ((1 : Int) * 2 ^ ((n : Int)).toNat).toNat = 2 ^ n := by
  have e1 : (2 : Int) ^ ((n : Int)).toNat = ((2 ^ n : Nat) : Int) := by
    rw [Int.toNat_natCast, Int.natCast_pow]
    rfl
  rw [e1, Int.one_mul, Int.toNat_natCast]
end PF
end
section
set_option maxHeartbeats 4000000
set_option exponentiation.threshold 20000
namespace PF
open PySem L2
/-! ### the law's world with its strengths -/
def WSt (K : PySem.W.Frag) (H : Hp) (v : V) (W : Wd) : Prop := ∃ (d ls lg : Addr) (kvs : List (Key × V)) (gs : List V), v = .ref d ∧ H d = some (.dK kvs) ∧ valV kvs (Sum.inr ("long" : Str)) = some (.int W.long) ∧ valV kvs (Sum.inr ("spots" : Str)) = some (.ref ls) ∧ H ls = some (.lst ((W.ss.map (·.1)).map V.int)) ∧ valV kvs (Sum.inr ("strong" : Str)) = some (.ref lg) ∧ H lg = some (.lst gs) ∧ Paired (Fr K H) gs (W.ss.map (·.2))
theorem WSt.mono {K : PySem.W.Frag} {H H' : Hp} {v : V} {W : Wd} (s : Same H H') (h : WSt K H v W) : WSt K H' v W := by
  obtain ⟨d, ls, lg, kvs, gs, e, h1, h2, h3, h4, h5, h6, h7⟩ := h
  exact ⟨d, ls, lg, kvs, gs, e, s _ _ h1, h2, h3, s _ _ h4, h5, s _ _ h6, pr_mono h7 fun _ _ h => h.mono s.tu⟩
theorem WSt.wls {K : PySem.W.Frag} {H : Hp} {v : V} {W : Wd} (h : WSt K H v W) : WLS H v W := by
  obtain ⟨d, ls, lg, kvs, gs, e, h1, h2, h3, h4, h5, h6, h7⟩ := h
  exact ⟨d, ls, kvs, e, h1, h2, h3, h4⟩
/-! ### a locked dict as a function -/
def FMap {α β : Type} (kf : α → List Key) (R : Hp → V → β → Prop) (H : Hp) (d : Addr) (as : List α) (f : α → β) : Prop :=
  ∃ (od : Obj) (kvs : List (List Key × V)) (qs : List α), H d = some (.frz od (.dT kvs)) ∧ (∀ x, x ∈ qs ↔ x ∈ as) ∧ qs.Nodup ∧ (∀ a ∈ as, ∃ v, valV kvs (kf a) = some v ∧ R H v (f a)) ∧ Paired (fun (e : List Key × V) a => e.1 = kf a ∧ R H e.2 (f a)) kvs qs ∧ qs.length ≤ as.length
section
variable {α β : Type} {kf : α → List Key} {R : Hp → V → β → Prop} {H H' : Hp} {d b : Addr} {as bs : List α} {f : α → β} {a : α} {v : V}
theorem FMap.mono (mono : ∀ H H' v a, Tu H H' → R H v a → R H' v a) (s : Same H H') (h : FMap kf R H d as f) : FMap kf R H' d as f := by
  obtain ⟨od, kvs, qs, h1, h2, h3, h4, h5, h6⟩ := h
  exact ⟨od, kvs, qs, s _ _ h1, h2, h3, fun a ha => let ⟨v, x, y⟩ := h4 a ha; ⟨v, x, mono _ _ _ _ s.tu y⟩, Paired.mapP h5 fun e a h => ⟨h.1, mono _ _ _ _ s.tu h.2⟩, h6⟩
theorem FMap.get (h : FMap kf R H d as f) (ha : a ∈ as) (eb : H b = some (.tup ((kf a).map kV))) : ∃ v, DGet H d (.ref b) (some v) ∧ R H v (f a) := by
  obtain ⟨od, kvs, qs, h1, h2, h3, h4, h5, h6⟩ := h
  obtain ⟨v, x1, x2⟩ := h4 a ha
  exact ⟨v, .inr ⟨kvs, kf a, b, .inr ⟨od, h1⟩, rfl, eb, x1.symm⟩, x2⟩
theorem DMap.frz (inj : ∀ x y, kf x = kf y → x = y) (mono : ∀ H H' v a, Tu H H' → R H v a → R H' v a) {u : HO} (h : DMap kf R H d as f) (e : H d = some u) (od : Obj) : FMap kf R (upd H d (.frz od u)) d as f := by
  obtain ⟨kvs, qs, h1, h2, h3, h4, h5, h6⟩ := h.keys inj
  obtain ⟨kvs', g1, g2, g3, g4, g5⟩ := h
  rw [h1] at g1
  cases g1
  rw [h1] at e
  cases e
  have tu : Tu H (upd H d (.frz od (.dT kvs))) := Tu.upd h1 trivial
  exact ⟨od, kvs, qs, upd_same, h4, h3, fun a ha => let ⟨v, x, y⟩ := g4 a ha; ⟨v, x, mono _ _ _ _ tu y⟩, Paired.mapP h6 fun e a h => ⟨h.1, mono _ _ _ _ tu h.2⟩, h5⟩
theorem DMap.conv (m : ∀ x, x ∈ as ↔ x ∈ bs) (l : as.length ≤ bs.length) (h : DMap kf R H d as f) : DMap kf R H d bs f := by
  obtain ⟨kvs, h1, h2, h3, h4, h5⟩ := h
  exact ⟨kvs, h1, h2, fun e he => let ⟨a, x, y⟩ := h3 e he; ⟨a, (m a).mp x, y⟩, fun a ha => h4 a ((m a).mpr ha), by omega⟩
end
def RB : Hp → V → Bool → Prop := fun _ v b => v = .bl b
theorem RB_mono : ∀ H H' v a, Tu H H' → RB H v a → RB H' v a := fun _ _ _ _ _ h => h
theorem kyK_inj' (a b : Ky) (h : kyK a = kyK b) : a = b := kyK_inj h
def spSpares (K : PySem.W.Frag) : Sp := fun vs H Q _ => ∃ (v : V) (wl : Addr) (ws : List V) (W : Wd), vs = [v, .ref wl] ∧ WSt K H v W ∧ H wl = some (.lst ws) ∧ Paired (Hvy K H) ws W.heavy ∧ GoodW W ∧
  ∀ H' d, Same H H' → H d = none → DMap kyK (Fr K) H' d (keys W.ss.length) (spare W) → Q (.ref d) H'
def spGreatest : Sp := fun vs H Q _ => ∃ (n : Nat) (fd : Addr) (F : Ky → Bool), vs = [.int (n : Int), .ref fd] ∧ n ≤ 4 ∧ DMap kyK RB H fd (keys n) F ∧ ∀ H' v L, Same H H' → LotN H' v L → Greatest F n L → Q v H'
def spLawLeft (K : PySem.W.Frag) : Sp := fun vs H Q _ => ∃ (n : Nat) (sd hd : Addr) (m : V) (W : Wd) (much x : Rat) (b : Nat), vs = [.int (n : Int), .ref sd, .ref hd, m] ∧ n ≤ 4 ∧ W.ss.length = n ∧ GoodW W ∧ FMap kyK (Fr K) H sd (keys n) (spare W) ∧ DMap kyK (Fr K) H hd (keys n) (fun k => share W k x) ∧ Fr K H m much ∧ Bd 430 much ∧ Bd b x ∧ b ≤ 4500 ∧
  ∀ H' v L, Same H H' → LotN H' v L → Greatest (fails W much x) n L → Q v H'
theorem strong_get {W : Wd} {p : Int} (h : p.toNat < W.ss.length) : (W.ss.map (·.2))[p.toNat]? = some (strongOf W p) := by
  unfold strongOf
  rw [List.getD_eq_getElem?_getD, List.getElem?_map, List.getElem?_eq_getElem h]
  rfl
section
variable {P : Program} {w : World} {K : PySem.W.Frag} {mg : Str → Option Value} {base : Heap} {aN aO : Addr} {tL tM tP : Tok} {CPlank CLoads : Addr}
abbrev s_law_spares : Stmt := topS 67
abbrev n_law_spares : List Str := ["_law_world_here", "_law_heavy_here", "_law_found", "_law_key"]
theorem sc_law_spares : FnScope n_law_spares ["_law_world_here", "_law_heavy_here"] (defScope s_law_spares) := ⟨rfl, rfl, rfl, by decide +kernel, rfl, by decide +kernel, by decide +kernel⟩
theorem ok_law_spares {f : Addr} {fd : FuncData} (F : Fun K "_law_spares" "_law_spares" s_law_spares f fd) (T : Txt K mg aN aO tL tM tP) (G_law_keys : Fn P w K mg base 1 "_law_keys" ["_law_many"] spKeys) (G_law_minus : Fn P w K mg base 2 "_law_minus" ["_law_one", "_law_other"] (sp2 K (fun a b => a - b) (fun _ _ => True))) (G_law_load : Fn P w K mg base 3 "_law_load" ["_law_world_here", "_law_heavy_here", "_law_key"] (spLawLoad K)) : FnOk P w K mg base CX0 4 f fd ["_law_world_here", "_law_heavy_here"] (spSpares K) := by
  have sc := sc_law_spares
  refine F.ok sc (fun vs H Q E h => ?_) (fun cdv A outer s H vs Q E hr h => ?_)
  · (repeat (rcases h with ⟨_, h⟩))
    subst_vars
    rfl
  · obtain ⟨v, wl, ws, W, rfl, WS, hwl, hws, GW, k⟩ := h
    obtain ⟨d, ls, lg, kvs, gs, rfl, hd, hlong, hspots, hls, hstrong, hlg, hgs⟩ := id WS
    have gS := DGet.k (k := Sum.inr ("spots" : Str)) hd
    rw [hspots] at gS
    have gG := DGet.k (k := Sum.inr ("strong" : Str)) hd
    rw [hstrong] at gG
    have few := GW.p.few
    refine ⟨_, (pss_cons (ps_set (i := 2) sc.nd rfl (Or.inl rfl) pe_dnewT)
 (pss_cons (ps_for PassesOwn.never rfl (piL K (pe_fn G_law_keys hr (pa_cons (pe_callB (cLen K) (by rfl) T.blen (by decide +kernel) (pa_cons (pe_dget (hu_of hr) (pv 0) pe_str (fun _ _ => rfl)) pa_nil)) pa_nil))) (pg_name (i := 3) sc.nd rfl (Or.inl rfl))
 (pss_one (ps_dput (hu_of hr) (pv 2) (pv 3) (pe_fn G_law_minus hr (pa_cons (pe_ix (ixL K) (pe_dget (hu_of hr) (pv 0) pe_str (fun _ _ => rfl)) (pe_ix (ixT K) (pv 3) pe_int (fun _ _ => rfl)) (fun _ _ => rfl)) (pa_cons (pe_fn G_law_load hr (pa_cons (pv 0) (pa_cons (pv 1) (pa_cons (pv 3) pa_nil)))) pa_nil))) rfl)))
 (pss_one (ps_ret (pv 2))))), ?_⟩
    refine fun fd nfd => ?_
    have s1 : Same H (upd H fd (.dT [])) := Same.new nfd
    have m1 : DMap kyK (Fr K) (upd H fd (.dT [])) fd [] (spare W) := DMap.nil upd_same
    generalize upd H fd (.dT []) = H1 at s1 m1 ⊢
    refine ⟨_, rfl, d, _, rfl, gd_mono gS s1, ls, _, rfl, .inl (SqL.of (s1 _ _ hls)), W.ss.length, ?_, by omega, fun H2 kl xs s2 hkl hxs => ?_⟩
    · simp
    have s02 := s1.trans s2
    have lx := pr_len hxs
    refine ⟨kl, rfl, ⟨_, SqL.of hkl⟩, for_it walk_list (fun i σ H' => (∃ c, σ = [some (.ref d), some (.ref wl), some (.ref fd), c]) ∧ Same H H' ∧ H' kl = some (.lst xs) ∧ Paired (KyN H') xs (keys W.ss.length) ∧ DMap kyK (Fr K) H' fd ((keys W.ss.length).take i) (spare W)) ⟨⟨_, rfl⟩, s02, hkl, hxs, m1.same (fun _ _ _ _ u h => h.mono u) s2⟩ (fun i σ H' _ p => SqL.of p.2.2.1) ?_ ?_⟩
    · rintro i x σ H3 H4 hi ⟨⟨c, rfl⟩, s3, hkl3, hxs3, dm⟩ ⟨rfl, hx⟩
      obtain ⟨ky, hky, hkx⟩ := pr_get' hxs3 hx
      have gk := keys_good.mp (List.mem_of_getElem? hky)
      obtain ⟨kt, rfl, hkt⟩ := id hkx
      obtain ⟨gv, hgv, fgv⟩ := pr_get hgs (strong_get (W := W) (p := ky.2.1) (by obtain ⟨g1, g2, g3, g4, g5⟩ := gk; omega))
      have g5 := gk.2.2.2.2
      refine ⟨_, rfl, d, _, rfl, gd_mono gG s3, _, rfl, kt, _, _, _, rfl, rfl, SqT.of hkt, rfl, lg, _, _, _, rfl, rfl, SqL.of (s3 _ _ hlg), at_of (j := ky.2.1.toNat) (by omega) hgv, ?_⟩
      refine ⟨_, rfl, _, rfl, _, rfl, .ref d, .ref kt, wl, ws, W, ky, rfl, WS.wls.mono s3, s3 _ _ hwl, pr_mono hws fun _ _ h => h.mono s3.tu, hkx.at, GW, gk, fun H5 v5 s5 f5 => ?_⟩
      refine ⟨gv, v5, strongOf W ky.2.1, loadOf W ky, 320, 1460, rfl, (fgv.mono s3.tu).mono s5.tu, f5, (strong_bd GW gk).1, load_bd GW gk, by decide, trivial, fun H6 v6 s6 f6 => ?_⟩
      have s36 := s5.trans s6
      have dm6 := dm.same (fun _ _ _ _ u h => h.mono u) s36
      have lk : (keys W.ss.length).length ≤ 2500 := by
        have := kp_len (n := W.ss.length) (p := W.ss.length) (l := 0) (r := 0) few (Nat.le_refl _) (by omega) (by omega)
        rw [kp1_all] at this
        simp at this
        omega
      obtain ⟨kvs', dp, dm7⟩ := dm6.put (a := ky) (v := v6) kyK_inj' (fun _ _ _ _ u h => h.mono u) (by rw [kyK_V]; exact s36 _ _ hkt) f6.fr (by have := List.length_take_le i (keys W.ss.length); omega)
      obtain ⟨kv6, hfd6⟩ := dm6.dT
      have tu7 : Tu H6 (upd H6 fd (.dT kvs')) := Tu.upd hfd6 trivial
      refine ⟨_, rfl, _, rfl, fd, _, rfl, dp, ?_⟩
      refine ⟨⟨_, rfl⟩, (s3.trans s36).mut nfd, by rw [upd_ne (ne_of (s36 _ _ hkl3) hfd6 (by intro q; cases q))]; exact s36 _ _ hkl3, pr_mono hxs3 fun _ _ h => (h.mono s36.tu).mono tu7, ?_⟩
      rw [List.take_add_one, hky]
      exact dm7
    · rintro σ H3 ⟨⟨c, rfl⟩, s3, hkl3, hxs3, dm⟩
      rw [lx, List.take_length] at dm
      exact ⟨_, rfl, k _ fd s3 nfd dm⟩
end
end PF
end
section
set_option maxHeartbeats 4000000
set_option exponentiation.threshold 20000
namespace PF
open PySem L2
theorem set_good {n : Nat} {L : List Int} (h : L.Pairwise (· < ·)) (w : ∀ p ∈ L, 0 ≤ p ∧ p < (n : Int)) : L.length ≤ n := good_len ⟨h, w⟩
theorem rest_get {n : Nat} {L : List Int} {j : Nat} (hj : j < L.length) : ∃ k : Ky, (sides n L)[j]? = some k ∧ (restsL n L)[j]? = some k.1 ∧ (restsL n L)[j + 1]? = some k.2.1 ∧ (restsL n L)[j + 2]? = some k.2.2 := by
  have hs : j < (sides n L).length := by rw [sides_len]; exact hj
  refine ⟨(sides n L)[j], List.getElem?_eq_getElem hs, ?_⟩
  obtain ⟨h1, h2, h3⟩ := sides_get (List.getElem?_eq_getElem hs)
  refine ⟨h1, ?_, h3⟩
  unfold restsL
  rw [List.getElem?_cons_succ, List.getElem?_append_left hj]
  exact h2
theorem rests_V (n : Nat) (L : List Int) : ([V.int (-1)] ++ L.map V.int) ++ [V.int (n : Int)] = (restsL n L).map V.int := by
  unfold restsL
  simp
section
variable {P : Program} {w : World} {K : PySem.W.Frag} {mg : Str → Option Value} {base : Heap} {aN aO : Addr} {tL tM tP : Tok} {CPlank CLoads : Addr}
abbrev s_law_greatest : Stmt := topS 68
abbrev n_law_greatest : List Str := ["_law_many", "_law_fails", "_law_found", "_law_number", "_law_some", "_law_k", "_law_rests"]
theorem sc_law_greatest : FnScope n_law_greatest ["_law_many", "_law_fails"] (defScope s_law_greatest) := ⟨rfl, rfl, rfl, by decide +kernel, rfl, by decide +kernel, by decide +kernel⟩
theorem ok_law_greatest {f : Addr} {fd : FuncData} (F : Fun K "_law_greatest" "_law_greatest" s_law_greatest f fd) (T : Txt K mg aN aO tL tM tP)  : FnOk P w K mg base CX0 1 f fd ["_law_many", "_law_fails"] spGreatest := by
  have sc := sc_law_greatest
  refine F.ok sc (fun vs H Q E h => ?_) (fun cdv A outer s H vs Q E hr h => ?_)
  · (repeat (rcases h with ⟨_, h⟩))
    subst_vars
    rfl
  · obtain ⟨n, fd, F, rfl, hn, dm, k⟩ := h
    refine ⟨_, (pss_cons (ps_set (i := 2) sc.nd rfl (Or.inl rfl) (pe_lst pa_nil))
 (pss_cons (ps_for PassesOwn.never rfl (pi_range1 rfl T.brange (pa_cons (pe_op op_shl pe_int (pv 0)) pa_nil)) (pg_name (i := 3) sc.nd rfl (Or.inr rfl))
 (pss_cons (ps_setLc (i := 4) (own := [("_law_k", 5)]) (g := (gName 5)) rfl sc.nd rfl rfl (sw_true rfl rfl rfl (by decide +kernel)) (pi_range1 rfl T.brange (pa_cons (pv 0) pa_nil)) (blkOk_by (N := n_law_greatest) (sc := defScope s_law_greatest) (own := [("_law_k", 5)]) (by decide +kernel)) (fun _ _ _ _ _ => (pg_name (i := 5) sc.nd rfl (Or.inl rfl))) (fun _ _ _ _ _ => pts_one (pt_cmpR op_eq (pe_op op_mod (pe_callTy call_int1 (by rfl) T.bint (by decide +kernel) (pa_cons (pe_op op_shr (pv 3) (pv 5)) pa_nil)) pe_int) pe_int (nomark _))) (fun _ _ _ _ _ => (pv 5)))
 (pss_cons (ps_set (i := 6) sc.nd rfl (Or.inr rfl) (pe_op op_cat (pe_op op_cat (pe_lst (pa_cons (pe_un un_neg pe_int) pa_nil)) (pv 4)) (pe_lst (pa_cons (pv 0) pa_nil))))
 (pss_one (ps_if (pt_not (pt_val (pe_callB (cAny K rfl) (by rfl) T.bany (by decide +kernel) (pa_cons (pe_lc (own := [("_law_k", 5)]) (g := (gName 5)) rfl sc.nd (pi_range1 rfl T.brange (pa_cons (pe_callB (cLen K) (by rfl) T.blen (by decide +kernel) (pa_cons (pv 4) pa_nil)) pa_nil)) (blkOk_by (N := n_law_greatest) (sc := defScope s_law_greatest) (own := [("_law_k", 5)]) (by decide +kernel)) (fun _ _ _ _ _ => (pg_name (i := 5) sc.nd rfl (Or.inl rfl))) (fun _ _ _ _ _ => pts_nil) (fun _ _ _ _ _ => (pe_dget (hu_of hr) (pv 1) (pe_tup (pa_cons (pe_ix (ixL K) (pv 6) (pv 5) (fun _ _ => rfl)) (pa_cons (pe_ix (ixL K) (pv 6) (pe_op op_add (pv 5) pe_int) (fun _ _ => rfl)) (pa_cons (pe_ix (ixL K) (pv 6) (pe_op op_add (pv 5) pe_int) (fun _ _ => rfl)) pa_nil)))) (fun _ _ => rfl)))) pa_nil))))
 (pss_one (ps_set (i := 2) sc.nd rfl (Or.inl rfl) (pe_callB (cr_sortedSet rfl) (by rfl) T.bsorted (by decide +kernel) (pa_cons (pe_callTy (cr_setInts rfl) (by rfl) T.bset (by decide +kernel) (pa_cons (pe_op op_cat (pv 2) (pv 4)) pa_nil)) pa_nil))))
 pss_nil)))))
 (pss_one (ps_ret (pe_callTy (cTuple K) (by rfl) T.btuple (by decide +kernel) (pa_cons (pv 2) pa_nil)))))), ?_⟩
    refine ⟨by show 0 ≤ sizeLine; decide, fun fo nfo => ?_⟩
    have s1 : Same H (upd H fo (.lst [])) := Same.new nfo
    have hfo1 : upd H fo (.lst []) fo = some (.lst (([] : List Int).map V.int)) := upd_same
    generalize upd H fo (.lst []) = H1 at s1 hfo1 ⊢
    have hp2 : 2 ^ n ≤ 16 := two_le hn
    have hpI : ((1 : Int) * 2 ^ ((n : Int)).toNat) = ((2 ^ n : Nat) : Int) := by
      have e1 : (2 : Int) ^ ((n : Int)).toNat = ((2 ^ n : Nat) : Int) := by
        rw [Int.toNat_natCast, Int.natCast_pow]
        rfl
      rw [e1, Int.one_mul]
    obtain ⟨N, hN⟩ : ∃ N, N = 2 ^ n := ⟨_, rfl⟩
    rw [← hN] at hp2 hpI
    refine ⟨_, rfl, _, _, rfl, rfl, ⟨by omega, by omega, by decide⟩, _, rfl, by rw [hpI]; omega, by rw [hpI]; omega, ?_⟩
    rw [hpI]
    refine for_it walk_rg0 (fun i σ H' => Same H H' ∧ ∃ (fp : Addr) (L : List Int) (c1 c2 c3 c4 : Option V), σ = [some (.int (n : Int)), some (.ref fd), some (.ref fp), c1, c2, c3, c4] ∧ H' fp = some (.lst (L.map V.int)) ∧ L.Pairwise (· < ·) ∧ ∀ p, p ∈ L ↔ ∃ j, j < i ∧ Stands F n (bitsL n j) ∧ p ∈ bitsL n j) ⟨s1, fo, [], _, _, _, _, rfl, hfo1, .nil, fun p => by simp⟩ (fun _ _ _ _ _ => trivial) ?_ ?_
    · rintro i x σ H2 H3 hi ⟨s2, fp, L, c1, c2, c3, c4, rfl, hfp, hL, mem⟩ ⟨rfl, rfl⟩
      have withL : ∀ p ∈ L, 0 ≤ p ∧ p < (n : Int) := fun p hp => by
        obtain ⟨j, _, _, h⟩ := (mem p).mp hp
        exact (bitsL_good n j).within p h
      have lenL := set_good hL withL
      refine ⟨_, rfl, _, rfl, by omega, by omega, fun D nD => lc_filt walk_rg0 (fun (k : Nat) => ((k : Nat) : Int)) (bitOn i) (fun _ v a => v = V.int a) (fun _ _ _ _ _ h => h) nD (by omega) (fun _ _ => trivial) (fun j y H4 H5 hj s4 yy => ?_) (fun H4 ys s4 hD hys => ?_)⟩
      · obtain ⟨rfl, rfl⟩ := yy
        refine ⟨Same.refl _, fun Qk Qn k1 k2 => ?_⟩
        refine ⟨rfl, _, rfl, _, rfl, _, _, rfl, rfl, by omega, .inl ⟨_, rfl, _, _, rfl, rfl, (by show (0 : Int) < 2; decide), rfl, _, rfl, ?_⟩⟩
        have eb := bit_eq i j
        refine ifB (fun c => ?_) (fun c => ?_)
        · have c1 : (i : Int) / 2 ^ ((j : Int)).toNat % 2 = 1 := by simpa using c
          exact ⟨_, rfl, k1 (by unfold bitOn; exact decide_eq_true (eb.mp c1)) _ _ (Same.refl _) rfl⟩
        · have c1 : ¬ (i : Int) / 2 ^ ((j : Int)).toNat % 2 = 1 := by simpa using c
          exact k2 (by unfold bitOn; exact decide_eq_false fun z => c1 (eb.mpr z)) _ (Same.refl _)
      · have eys : ys = (bitsL n i).map V.int := ints_pr hys
        subst eys
        have GB := bitsL_good n i
        have lenB := good_len GB
        have ess := @rest_get n (bitsL n i)
        have evs := rests_V n (bitsL n i)
        have hsg := @sides_good n (bitsL n i) GB
        have hfp4 := s4 _ _ hfp
        have s04 := s2.trans s4
        have mem' : ∀ p, (p ∈ L ∨ (Stands F n (bitsL n i) ∧ p ∈ bitsL n i)) ↔ ∃ j, j < i + 1 ∧ Stands F n (bitsL n j) ∧ p ∈ bitsL n j := fun p => by
          rw [mem]
          constructor
          · rintro (⟨j, h1, h2⟩ | h)
            · exact ⟨j, by omega, h2⟩
            · exact ⟨i, by omega, h⟩
          · rintro ⟨j, h1, h2⟩
            by_cases e : j = i
            · subst e
              exact .inr h2
            · exact .inl ⟨j, by omega, h2⟩
        have within := GB.within
        have riseB := GB.rise
        have lenS : (sides n (bitsL n i)).length = (bitsL n i).length := sides_len _ _
        generalize hBB : bitsL n i = B at hD ess evs hsg mem' within riseB lenB lenS ⊢
        refine ⟨_, rfl, (by show 1 ≤ sizeLine; decide), fun l1 nl1 => ?_⟩
        have s5 : Same H4 (upd H4 l1 (.lst [.int (-1)])) := Same.new nl1
        have hl1 : upd H4 l1 (.lst [.int (-1)]) l1 = some (.lst [.int (-1)]) := upd_same
        generalize upd H4 l1 (.lst [.int (-1)]) = H5 at s5 hl1 ⊢
        refine ⟨_, rfl, l1, D, _, _, rfl, rfl, hl1, s5 _ _ hD, (by show _ ≤ sizeLine; refine szL ?_; simp; omega), fun l2 nl2 => ?_⟩
        have s6 : Same H5 (upd H5 l2 (.lst ([.int (-1)] ++ B.map V.int))) := Same.new nl2
        have hl2 : upd H5 l2 (.lst ([.int (-1)] ++ B.map V.int)) l2 = some (.lst ([.int (-1)] ++ B.map V.int)) := upd_same
        generalize upd H5 l2 (.lst ([.int (-1)] ++ B.map V.int)) = H6 at s6 hl2 ⊢
        refine ⟨_, rfl, (by show 1 ≤ sizeLine; decide), fun l3 nl3 => ?_⟩
        have s7 : Same H6 (upd H6 l3 (.lst [.int (n : Int)])) := Same.new nl3
        have hl3 : upd H6 l3 (.lst [.int (n : Int)]) l3 = some (.lst [.int (n : Int)]) := upd_same
        generalize upd H6 l3 (.lst [.int (n : Int)]) = H7 at s7 hl3 ⊢
        refine ⟨l2, l3, _, _, rfl, rfl, s7 _ _ hl2, hl3, (by show _ ≤ sizeLine; refine szL ?_; simp; omega), fun rl nrl => ?_⟩
        rw [evs]
        have s8 : Same H7 (upd H7 rl (.lst ((restsL n B).map V.int))) := Same.new nrl
        have hrl : upd H7 rl (.lst ((restsL n B).map V.int)) rl = some (.lst ((restsL n B).map V.int)) := upd_same
        generalize upd H7 rl (.lst ((restsL n B).map V.int)) = H8 at s8 hrl ⊢
        have s48 := ((s5.trans s6).trans s7).trans s8
        have s08 := s04.trans s48
        have hD8 := s48 _ _ hD
        have dm8 := dm.same RB_mono s08
        refine ⟨_, rfl, D, _, rfl, .inl (SqL.of hD8), _, rfl, by rw [List.length_map]; omega, by rw [List.length_map]; omega, fun D2 nD2 => ?_⟩
        rw [List.length_map]
        refine lc_map walk_rg0 (fun j => F (((sides n B)[j]?).getD (0, 0, 0))) (fun _ v b => v = V.bl b) (fun _ _ _ _ _ h => h) nD2 (by omega) (fun _ _ => trivial) (fun j y H9 H10 hj s9 yy => ?_) (fun H9 bs s9 hD2 hbs => ?_)
        · obtain ⟨rfl, rfl⟩ := yy
          refine ⟨Same.refl _, fun Qk kk => ?_⟩
          obtain ⟨ky, e0, e1, e2, e3⟩ := ess hj
          have rl9 := SqL.of (K := K) (s9 _ _ hrl)
          have gt : ∀ {m : Nat} {r : Int}, (restsL n B)[m]? = some r → ((restsL n B).map V.int)[m]? = some (.int r) := fun h => by rw [List.getElem?_map, h]; rfl
          refine ⟨rfl, _, rfl, _, rfl, _, rfl, rl, _, _, _, rfl, rfl, rl9, at_of (j := j) (by omega) (gt e1), _, rfl, _, rfl, _, _, rfl, rfl, rl, _, _, _, rfl, rfl, rl9, at_of (j := j + 1) (by omega) (gt e2), _, rfl, _, rfl, _, _, rfl, rfl, rl, _, _, _, rfl, rfl, rl9, at_of (j := j + 2) (by omega) (gt e3), (by show 3 ≤ sizeLine; decide), fun t nt => ?_⟩
          have s10 : Same H10 (upd H10 t (.tup [.int ky.1, .int ky.2.1, .int ky.2.2])) := Same.new nt
          have dm10 := dm8.same RB_mono (s9.trans s10)
          obtain ⟨v, gv, ev⟩ := dm10.get (a := ky) (b := t) (keys_good.mpr (hsg (List.mem_of_getElem? e0))) upd_same
          refine ⟨fd, _, rfl, gv, kk _ _ s10 ?_⟩
          rw [e0]
          exact ev
        · have any_eq : ((List.range B.length).map fun j => F (((sides n B)[j]?).getD (0, 0, 0))) = (sides n B).map F := by
            refine List.ext_getElem (by simp [lenS]) fun i h1 h2 => ?_
            simp at h1 h2
            simp [List.getElem?_eq_getElem h2]
          rw [show List.range ((B.length : Int)).toNat = List.range B.length from rfl, any_eq] at hbs
          have ebs := bls_pr hbs
          subst ebs
          refine ⟨D2, _, rfl, SqL.of hD2, _, rfl, ?_⟩
          have s09 := s08.trans s9
          have hfp9 := (s48.trans s9) _ _ hfp4
          have hD9 := s9 _ _ hD8
          refine ifB (fun c => ?_) (fun c => ?_)
          · have st : Stands F n B := fun ky hky => by
              have c' : ∀ ky ∈ sides n B, F ky = false := by simpa using c
              exact c' ky hky
            refine ⟨_, rfl, _, rfl, fp, D, _, _, rfl, rfl, hfp9, hD9, (by show _ ≤ sizeLine; refine szL ?_; simp; omega), fun q nq => ?_⟩
            have s11 : Same H9 (upd H9 q (.lst (L.map V.int ++ B.map V.int))) := Same.new nq
            have hq : upd H9 q (.lst (L.map V.int ++ B.map V.int)) q = some (.lst ((L ++ B).map V.int)) := by rw [upd_same, List.map_append]
            generalize upd H9 q (.lst (L.map V.int ++ B.map V.int)) = H11 at s11 hq ⊢
            refine ⟨q, L ++ B, rfl, hq, by simp; omega, fun a c na hc => ?_⟩
            have s12 : Same H11 (upd H11 a (SetO w a (fun j => decide (j ∈ L ++ B)) c)) := Same.new na
            refine ⟨a, _, c, rfl, upd_same, by rw [List.length_append] at hc; omega, fun ns p pw hm hlen np => ?_⟩
            have s13 := s12.news (o := .lst (ns.map V.int)) np
            refine ⟨(s09.trans s11).trans s13, p, ns, _, _, _, _, rfl, upd_same, pw, fun x => ?_⟩
            rw [hm, ← mem', decide_eq_true_iff, List.mem_append]
            constructor
            · rintro (h | h)
              · exact .inl h
              · exact .inr ⟨st, h⟩
            · rintro (h | h)
              · exact .inl h
              · exact .inr h.2
          · have nst : ¬ Stands F n B := fun st => by
              have c' : ((sides n B).map F).any id = true := by simpa using c
              rw [List.any_map, List.any_eq_true] at c'
              obtain ⟨ky, h1, h2⟩ := c'
              have h2 : F ky = true := h2
              rw [st ky h1] at h2
              cases h2
            refine ⟨s09, fp, L, _, _, _, _, rfl, hfp9, hL, fun x => ?_⟩
            rw [← mem']
            constructor
            · exact .inl
            · rintro (h | h)
              · exact h
              · exact absurd h.1 nst
    · rintro σ H2 ⟨s2, fp, L, c1, c2, c3, c4, rfl, hfp, hL, mem⟩
      refine ⟨_, rfl, fp, _, rfl, .inl ⟨SqL.of hfp, fun l nl => k _ _ L (s2.news nl) ⟨l, rfl, upd_same⟩ ⟨hL, fun p => ?_⟩⟩⟩
      rw [mem]
      constructor
      · rintro ⟨j, h1, h2, h3⟩
        exact ⟨_, bitsL_good n j, h2, h3⟩
      · rintro ⟨S, h1, h2, h3⟩
        obtain ⟨num, e1, e2⟩ := bits_all h1
        refine ⟨num, by rw [Int.toNat_natCast, hN]; exact e1, ?_⟩
        rw [e2]
        exact ⟨h2, h3⟩
end
end PF
end
section
set_option maxHeartbeats 4000000
set_option exponentiation.threshold 20000
namespace PF
open PySem L2
section
variable {P : Program} {w : World} {K : PySem.W.Frag} {mg : Str → Option Value} {base : Heap} {aN aO : Addr} {tL tM tP : Tok} {CPlank CLoads : Addr}
abbrev s_law_left : Stmt := topS 69
abbrev n_law_left : List Str := ["_law_many", "_law_spares_here", "_law_shares", "_law_much", "_law_fails", "_law_key"]
theorem sc_law_left : FnScope n_law_left ["_law_many", "_law_spares_here", "_law_shares", "_law_much"] (defScope s_law_left) := ⟨rfl, rfl, rfl, by decide +kernel, rfl, by decide +kernel, by decide +kernel⟩
theorem ok_law_left {f : Addr} {fd : FuncData} (F : Fun K "_law_left" "_law_left" s_law_left f fd) (T : Txt K mg aN aO tL tM tP) (G_law_greatest : Fn P w K mg base 1 "_law_greatest" ["_law_many", "_law_fails"] spGreatest) (G_law_is_below : Fn P w K mg base 1 "_law_is_below" ["_law_one", "_law_other"] (spBelow K)) (G_law_by : Fn P w K mg base 2 "_law_by" ["_law_one", "_law_other"] (sp2 K (fun a b => a * b) (fun _ _ => True))) : FnOk P w K mg base CX0 3 f fd ["_law_many", "_law_spares_here", "_law_shares", "_law_much"] (spLawLeft K) := by
  have sc := sc_law_left
  refine F.ok sc (fun vs H Q E h => ?_) (fun cdv A outer s H vs Q E hr h => ?_)
  · (repeat (rcases h with ⟨_, h⟩))
    subst_vars
    rfl
  · obtain ⟨n, sd, hd, m, W, much, x, b, rfl, hn, en, GW, SP, SH, hm, hbm, hbx, hb, k⟩ := h
    subst en
    obtain ⟨od, kvs, qs, h1, h2, h3, h4, h5, h6⟩ := id SP
    have lq := Paired.length h5
    have few := GW.p.few
    refine ⟨_, (pss_cons (ps_set (i := 4) sc.nd rfl (Or.inl rfl) pe_dnewT)
 (pss_cons (ps_for PassesOwn.never rfl (pi_keys (pv 1)) (pg_name (i := 5) sc.nd rfl (Or.inl rfl))
 (pss_one (ps_dput (hu_of hr) (pv 4) (pv 5) (pe_fn G_law_is_below hr (pa_cons (pe_dget (hu_of hr) (pv 1) (pv 5) (fun _ _ => rfl)) (pa_cons (pe_fn G_law_by hr (pa_cons (pv 3) (pa_cons (pe_dget (hu_of hr) (pv 2) (pv 5) (fun _ _ => rfl)) pa_nil))) pa_nil))) rfl)))
 (pss_one (ps_ret (pe_fn G_law_greatest hr (pa_cons (pv 0) (pa_cons (pv 4) pa_nil))))))), ?_⟩
    refine fun fd nfd => ?_
    have s1 : Same H (upd H fd (.dT [])) := Same.new nfd
    have m1 : DMap kyK RB (upd H fd (.dT [])) fd [] (fails W much x) := DMap.nil upd_same
    generalize upd H fd (.dT []) = H1 at s1 m1 ⊢
    refine ⟨_, rfl, sd, od, rfl, .inr ⟨kvs, s1 _ _ h1, for_it walk_keysT (fun i σ H' => (∃ c, σ = [some (.int (W.ss.length : Int)), some (.ref sd), some (.ref hd), some m, some (.ref fd), c]) ∧ Same H H' ∧ DMap kyK RB H' fd (qs.take i) (fails W much x)) ⟨⟨_, rfl⟩, s1, m1⟩ (fun i σ H' _ p => p.2.1 _ _ h1) ?_ ?_⟩⟩
    · rintro i y σ H3 H4 hi ⟨⟨c, rfl⟩, s3, dm⟩ ⟨rfl, ke, ve, q, hke, rfl, hq⟩
      obtain ⟨ky, hky, ek, _⟩ := LiI.paired_get h5 hke
      have ek : ke = kyK ky := ek
      subst ek
      have mk := (h2 ky).mp (List.mem_of_getElem? hky)
      have gk := keys_good.mp mk
      obtain ⟨v1, g1, f1⟩ := (SP.mono (fun _ _ _ _ u h => h.mono u) s3).get mk hq
      obtain ⟨v2, g2, f2⟩ := (SH.same (fun _ _ _ _ u h => h.mono u) s3).get mk hq
      refine ⟨_, rfl, _, rfl, sd, _, rfl, g1, _, rfl, _, rfl, _, rfl, hd, _, rfl, g2, ?_⟩
      refine ⟨m, v2, much, share W ky x, 430, b + 21, rfl, hm.mono s3.tu, f2, hbm, share_bd GW.p gk hbx, by omega, trivial, fun H5 v5 s5 f5 => ?_⟩
      refine ⟨v1, v5, spare W ky, much * share W ky x, 1781, 430 + (b + 21), rfl, f1.mono s5.tu, f5.fr, spare_bd GW gk, hbm.mul (share_bd GW.p gk hbx), by omega, ?_⟩
      have dm5 := dm.same RB_mono s5
      have lk : (keys W.ss.length).length ≤ 2500 := by
        have := kp_len (n := W.ss.length) (p := W.ss.length) (l := 0) (r := 0) few (Nat.le_refl _) (by omega) (by omega)
        rw [kp1_all] at this
        simp at this
        omega
      obtain ⟨kvs', dp, dm7⟩ := dm5.put (a := ky) (v := .bl (fails W much x ky)) kyK_inj' RB_mono (s5 _ _ hq) rfl (by have := List.length_take_le i qs; omega)
      refine ⟨_, rfl, _, rfl, fd, _, rfl, dp, ⟨_, rfl⟩, (s3.trans s5).mut nfd, ?_⟩
      rw [List.take_add_one, hky]
      exact dm7
    · rintro σ H3 ⟨⟨c, rfl⟩, s3, dm⟩
      rw [lq, List.take_length] at dm
      exact ⟨_, rfl, _, rfl, W.ss.length, fd, _, rfl, hn, dm.conv h2 h6, fun H' v L s ln g => k _ _ L (s3.trans s) ln g⟩
end
end PF
end
section
set_option maxHeartbeats 4000000
set_option exponentiation.threshold 20000
namespace PF
open PySem L2
section
variable {α β : Type} {kf : α → List Key} {R : Hp → V → β → Prop} {H : Hp} {f : α → β}
def MapOn (kf : α → List Key) (R : Hp → V → β → Prop) (H : Hp) (as : List α) (f : α → β) (kvs : List (List Key × V)) : Prop := (kvs.map (·.1)).Nodup ∧ (∀ e ∈ kvs, ∃ a ∈ as, e.1 = kf a ∧ R H e.2 (f a)) ∧ (∀ a ∈ as, ∃ v, valV kvs (kf a) = some v ∧ R H v (f a)) ∧ kvs.length ≤ as.length
theorem MapOn.put (inj : ∀ x y, kf x = kf y → x = y) {as : List α} {kvs : List (List Key × V)} {a : α} {v : V} (h : MapOn kf R H as f kvs) (rv : R H v (f a)) : MapOn kf R H (as ++ [a]) f (putK kvs (kf a) v) := by
  obtain ⟨h2, h3, h4, h5⟩ := h
  obtain ⟨k1, k2⟩ := putK_keys kvs (kf a) v
  refine ⟨k2 h2, fun e he => ?_, fun x hx => ?_, ?_⟩
  · rcases k1 e he with rfl | he
    · exact ⟨a, List.mem_append_right _ List.mem_cons_self, rfl, rv⟩
    · obtain ⟨x, x1, x2, x3⟩ := h3 e he
      exact ⟨x, List.mem_append_left _ x1, x2, x3⟩
  · rw [valV_put]
    by_cases c : kf x = kf a
    · rw [if_pos c]
      have := inj _ _ c
      subst this
      exact ⟨v, rfl, rv⟩
    · rw [if_neg c]
      rcases List.mem_append.mp hx with hx | hx
      · exact h4 x hx
      · rw [List.mem_singleton.mp hx] at c
        exact absurd rfl c
  · have := length_putK kvs (kf a) v
    rw [List.length_append, List.length_singleton]
    omega
theorem MapOn.merge (inj : ∀ x y, kf x = kf y → x = y) {more : List (List Key × V)} {bs : List α} (p : Paired (fun (e : List Key × V) a => e.1 = kf a ∧ R H e.2 (f a)) more bs) : ∀ {as : List α} {kvs : List (List Key × V)}, MapOn kf R H as f kvs → MapOn kf R H (as ++ bs) f (mergeT kvs more) := by
  induction p with
  | nil =>
    intro as kvs h
    rw [List.append_nil]
    exact h
  | @cons e a es bs h t ih =>
    intro as kvs m
    have m2 := m.put inj h.2
    have r := ih m2
    rw [← h.1] at r
    rw [List.append_assoc] at r
    exact r
end
/-- a new pair of a key and a fraction -/
def PairN (K : PySem.W.Frag) (g : Ky → Rat) (H : Hp) (v : V) (k : Ky) : Prop := ∃ p q u, v = .ref p ∧ H p = some (.tup [.ref q, u]) ∧ H q = some (.tup ((kyK k).map kV)) ∧ Fr K H u (g k)
theorem PairN.mono {K : PySem.W.Frag} {g : Ky → Rat} {H H' : Hp} {v : V} {k : Ky} (u : Tu H H') (h : PairN K g H v k) : PairN K g H' v k := by
  obtain ⟨p, q, z, e, h1, h2, h3⟩ := h
  exact ⟨p, q, z, e, u.t _ _ h1, u.t _ _ h2, h3.mono u⟩
theorem pairs_split {K : PySem.W.Frag} {g : Ky → Rat} {H : Hp} {vs : List V} {qs : List Ky} (h : Paired (PairN K g H) vs qs) : ∃ (ps : List Addr) (kvs : List (List Key × V)), vs = ps.map V.ref ∧ Paired (fun p (kv : List Key × V) => ∃ b, H p = some (.tup [.ref b, kv.2]) ∧ H b = some (.tup (kv.1.map kV))) ps kvs ∧ Paired (fun (e : List Key × V) a => e.1 = kyK a ∧ Fr K H e.2 (g a)) kvs qs := by
  induction h with
  | nil => exact ⟨[], [], rfl, .nil, .nil⟩
  | cons r t ih =>
    obtain ⟨p, q, u, rfl, h1, h2, h3⟩ := r
    obtain ⟨ps, kvs, e, i1, i2⟩ := ih
    exact ⟨p :: ps, (_, u) :: kvs, by rw [e]; rfl, .cons ⟨q, h1, h2⟩ i1, .cons ⟨rfl, h3⟩ i2⟩
def spLawAt (K : PySem.W.Frag) : Sp := fun vs H Q _ => ∃ (wv : V) (sd : Addr) (m u : V) (W : Wd) (much x : Rat) (b : Nat), vs = [wv, .ref sd, m, u] ∧ WLS H wv W ∧ W.ss.length ≤ 4 ∧ GoodW W ∧ FMap kyK (Fr K) H sd (keys W.ss.length) (spare W) ∧ Fr K H m much ∧ Bd 430 much ∧ Fr K H u x ∧ Bd b x ∧ b ≤ 4500 ∧
  ∀ H' v L, Same H H' → LotN H' v L → Greatest (fails W much x) W.ss.length L → Q v H'
section
variable {P : Program} {w : World} {K : PySem.W.Frag} {mg : Str → Option Value} {base : Heap} {aN aO : Addr} {tL tM tP : Tok} {CPlank CLoads : Addr}
abbrev s_law_at : Stmt := topS 74
abbrev n_law_at : List Str := ["_law_world_here", "_law_spares_here", "_law_much", "_law_spot", "_law_shares", "_law_key"]
theorem sc_law_at : FnScope n_law_at ["_law_world_here", "_law_spares_here", "_law_much", "_law_spot"] (defScope s_law_at) := ⟨rfl, rfl, rfl, by decide +kernel, rfl, by decide +kernel, by decide +kernel⟩
theorem ok_law_at {f : Addr} {fd : FuncData} (F : Fun K "_law_at" "_law_at" s_law_at f fd) (T : Txt K mg aN aO tL tM tP) (G_law_left : Fn P w K mg base 3 "_law_left" ["_law_many", "_law_spares_here", "_law_shares", "_law_much"] (spLawLeft K)) (G_law_share : Fn P w K mg base 2 "_law_share" ["_law_world_here", "_law_key", "_law_spot"] (spLawShare K)) : FnOk P w K mg base CX0 4 f fd ["_law_world_here", "_law_spares_here", "_law_much", "_law_spot"] (spLawAt K) := by
  have sc := sc_law_at
  refine F.ok sc (fun vs H Q E h => ?_) (fun cdv A outer s H vs Q E hr h => ?_)
  · (repeat (rcases h with ⟨_, h⟩))
    subst_vars
    rfl
  · obtain ⟨wv, sd, m, u, W, much, x, b, rfl, WL, hn, GW, SP, hm, hbm, hu, hbx, hb, k⟩ := h
    obtain ⟨d, ls, wkvs, rfl, hd, hlong, hspots, hls⟩ := id WL
    obtain ⟨od, kvs, qs, h1, h2, h3, h4, h5, h6⟩ := id SP
    have lq := Paired.length h5
    have few := GW.p.few
    have gS := DGet.k (k := Sum.inr ("spots" : Str)) hd
    rw [hspots] at gS
    have lk : (keys W.ss.length).length ≤ 2500 := by
      have := kp_len (n := W.ss.length) (p := W.ss.length) (l := 0) (r := 0) few (Nat.le_refl _) (by omega) (by omega)
      rw [kp1_all] at this
      simp at this
      omega
    refine ⟨_, (pss_cons (ps_set (i := 4) sc.nd rfl (Or.inl rfl) (pe_callTy (call_dictT rfl (hru hr)) (by rfl) T.bdict (by decide +kernel) (pa_cons (pe_lc (own := [("_law_key", 5)]) (g := (gName 5)) rfl sc.nd (pi_keys (pv 1)) (blkOk_by (N := n_law_at) (sc := defScope s_law_at) (own := [("_law_key", 5)]) (by decide +kernel)) (fun _ _ _ _ _ => (pg_name (i := 5) sc.nd rfl (Or.inl rfl))) (fun _ _ _ _ _ => pts_nil) (fun _ _ _ _ _ => (pe_tup (pa_cons (pv 5) (pa_cons (pe_fn G_law_share hr (pa_cons (pv 0) (pa_cons (pv 5) (pa_cons (pv 3) pa_nil)))) pa_nil))))) pa_nil)))
 (pss_one (ps_ret (pe_fn G_law_left hr (pa_cons (pe_callB (cLen K) (by rfl) T.blen (by decide +kernel) (pa_cons (pe_dget (hu_of hr) (pv 0) pe_str (fun _ _ => rfl)) pa_nil)) (pa_cons (pv 1) (pa_cons (pv 4) (pa_cons (pv 2) pa_nil)))))))), ?_⟩
    refine ⟨_, rfl, sd, od, rfl, .inr ⟨kvs, h1, fun D nD => lc_map walk_keysT (fun i => (qs[i]?).getD (0, 0, 0)) (PairN K fun k => share W k x) (fun _ _ _ _ u h => h.mono u) nD (by omega) (fun H' s => s _ _ h1) (fun i y H1 H2 hi s1 yy => ?_) (fun H1 ys s1 hD hys => ?_)⟩⟩
    · obtain ⟨rfl, ke, ve, q, hke, rfl, hq⟩ := yy
      refine ⟨Same.refl _, fun Qk kk => ?_⟩
      obtain ⟨ky, hky, ek, _⟩ := LiI.paired_get h5 hke
      have ek : ke = kyK ky := ek
      subst ek
      have gk := keys_good.mp ((h2 ky).mp (List.mem_of_getElem? hky))
      refine ⟨rfl, _, rfl, _, rfl, _, rfl, _, rfl, .ref d, u, .ref q, W, ky, x, b, rfl, WL.mono s1, ⟨q, rfl, SqT.of hq⟩, GW.p, gk, hu.mono s1.tu, hbx, by omega, fun H3 v3 s3 f3 => ?_⟩
      refine ⟨(by show 2 ≤ sizeLine; decide), fun t nt => ?_⟩
      have s4 := s3.news (o := .tup [.ref q, v3]) nt
      refine kk _ _ s4 ?_
      rw [hky]
      exact ⟨t, q, v3, rfl, upd_same, s4 _ _ hq, f3.mono (Tu.new nt)⟩
    · have eqs : (List.range kvs.length).map (fun i => (qs[i]?).getD (0, 0, 0)) = qs := by
        rw [lq]
        refine List.ext_getElem (by simp) fun i h1 h2 => ?_
        simp [List.getElem?_eq_getElem h2]
      rw [eqs] at hys
      obtain ⟨ps, kv2, eys, pp, pq⟩ := pairs_split hys
      subst eys
      refine ⟨D, ps, kv2, rfl, hD, pp, fun p np => ?_⟩
      have s2 := s1.news (o := .dT (mergeT [] kv2)) np
      have mo : MapOn kyK (Fr K) (upd H1 p (.dT (mergeT [] kv2))) ([] ++ qs) (fun k => share W k x) (mergeT [] kv2) := MapOn.merge kyK_inj' (Paired.mapP pq fun e a h => ⟨h.1, h.2.mono (Tu.new np)⟩) ⟨List.nodup_nil, fun e he => by simp at he, fun a ha => by simp at ha, Nat.le_refl _⟩
      rw [List.nil_append] at mo
      have dm : DMap kyK (Fr K) (upd H1 p (.dT (mergeT [] kv2))) p qs (fun k => share W k x) := ⟨_, upd_same, mo⟩
      generalize upd H1 p (.dT (mergeT [] kv2)) = H2 at s2 dm ⊢
      refine ⟨_, rfl, d, _, rfl, gd_mono gS s2, ls, _, rfl, .inl (SqL.of (s2 _ _ hls)), _, rfl, _, rfl, _, rfl, ?_⟩
      refine ⟨W.ss.length, sd, p, m, W, much, x, b, ?_, hn, rfl, GW, SP.mono (fun _ _ _ _ u h => h.mono u) s2, dm.conv h2 h6, hm.mono s2.tu, hbm, hbx, hb, fun H' v L s ln g => k _ _ L (s2.trans s) ln g⟩
      simp
end
end PF
end
section
set_option maxHeartbeats 4000000
set_option exponentiation.threshold 20000
namespace PF
open PySem L2
def spotsL (W : Wd) : List Int := ([0] ++ W.ss.map (·.1)) ++ [W.long]
theorem spots_V (W : Wd) : ([V.int 0] ++ (W.ss.map (·.1)).map V.int) ++ [V.int W.long] = (spotsL W).map V.int := by
  unfold spotsL
  simp
theorem spots_len (W : Wd) : (spotsL W).length = W.ss.length + 2 := by
  unfold spotsL
  simp
theorem placesL_eq (W : Wd) : placesL W = (spotsL W).map fun (i : Int) => (i : Rat) := by
  have h : (restsL W.ss.length (full W.ss.length)).map W.place = spotsL W := by
    have l1 : (restsL W.ss.length (full W.ss.length)).length = W.ss.length + 2 := by
      unfold restsL
      simp [full_len]
    refine List.ext_getElem (by rw [List.length_map, l1, spots_len]) fun i h1 h2 => ?_
    rw [spots_len] at h2
    have hr : (restsL W.ss.length (full W.ss.length))[i]'(by rw [l1]; omega) = (i : Int) - 1 := by
      unfold restsL
      rcases i with _ | i
      · rfl
      · rw [List.getElem_cons_succ]
        by_cases c : i < W.ss.length
        · rw [List.getElem_append_left (by rw [full_len]; exact c)]
          unfold full
          rw [List.getElem_map, List.getElem_range]
          omega
        · rw [List.getElem_append_right (by rw [full_len]; omega)]
          rw [List.getElem_singleton]
          omega
    rw [List.getElem_map, hr]
    have g := places_get (long := W.long) (ss := W.ss) (r := (i : Int) - 1) (by omega) (by omega)
    rw [spots_V, List.getElem?_map, show ((i : Int) - 1 + 1).toNat = i by omega, List.getElem?_eq_getElem (by rw [spots_len]; exact h2)] at g
    have g2 : V.int ((spotsL W)[i]'(by rw [spots_len]; exact h2)) = V.int (placeOf W.long W.ss ((i : Int) - 1)) := Option.some.inj g
    exact (V.int.inj g2).symm
  unfold placesL
  rw [← h, List.map_map]
  rfl
def spLawTurns (K : PySem.W.Frag) : Sp := fun vs H Q _ => ∃ (wv : V) (sd : Addr) (m : V) (W : Wd) (much : Rat), vs = [wv, .ref sd, m] ∧ WLS H wv W ∧ W.ss.length ≤ 4 ∧ GoodW W ∧ FMap kyK (Fr K) H sd (keys W.ss.length) (spare W) ∧ Fr K H m much ∧ Bd 430 much ∧ 0 < much ∧
  ∀ H' p ys R, Same H H' → H' p = some (.lst ys) → Paired (Fr K H') ys R → TurnsAre W much R → R.length ≤ 20000 → Q (.ref p) H'
theorem num_ge {q : Rat} : q.num ≥ 0 ↔ ¬ q < 0 := by
  rw [Rat.not_lt]
  exact Rat.num_nonneg
theorem div_neg {a b : Rat} (h : 0 < b) : a / b < 0 ↔ a < 0 := by
  have e : a = a / b * b := by
    rw [Rat.div_def]
    grind
  constructor
  · intro q
    rw [e]
    have := Rat.mul_lt_mul_of_pos_right q h
    rw [Rat.zero_mul] at this
    exact this
  · intro q
    rw [e] at q
    apply Rat.not_le.mp
    intro z
    have := Rat.mul_nonneg z (Rat.le_of_lt h)
    grind
section
variable {P : Program} {w : World} {K : PySem.W.Frag} {mg : Str → Option Value} {base : Heap} {aN aO : Addr} {tL tM tP : Tok} {CPlank CLoads : Addr}
abbrev s_law_turns : Stmt := topS 73
abbrev n_law_turns : List Str := ["_law_world_here", "_law_spares_here", "_law_much", "_law_places", "_law_found", "_law_place", "_law_key", "_law_rest", "_law_tall", "_law_low", "_law_here", "_law_high", "_law_one"]
theorem sc_law_turns : FnScope n_law_turns ["_law_world_here", "_law_spares_here", "_law_much"] (defScope s_law_turns) := ⟨rfl, rfl, rfl, by decide +kernel, rfl, by decide +kernel, by decide +kernel⟩
theorem ok_law_turns {f : Addr} {fd : FuncData} (F : Fun K "_law_turns" "_law_turns" s_law_turns f fd) (T : Txt K mg aN aO tL tM tP) (G_law_rising : Fn P w K mg base 2 "_law_rising" ["_law_some"] (spLawRising K)) (G_law_part_of : Fn P w K mg base 2 "_law_part_of" ["_law_one", "_law_other"] (sp2 K (fun a b => a / b) (fun _ b => 0 < b))) (G_law_is_below : Fn P w K mg base 1 "_law_is_below" ["_law_one", "_law_other"] (spBelow K)) (G_law_plus : Fn P w K mg base 2 "_law_plus" ["_law_one", "_law_other"] (sp2 K (fun a b => a + b) (fun _ _ => True))) (G_law_minus : Fn P w K mg base 2 "_law_minus" ["_law_one", "_law_other"] (sp2 K (fun a b => a - b) (fun _ _ => True))) (G_law_by : Fn P w K mg base 2 "_law_by" ["_law_one", "_law_other"] (sp2 K (fun a b => a * b) (fun _ _ => True))) : FnOk P w K mg base CX0 3 f fd ["_law_world_here", "_law_spares_here", "_law_much"] (spLawTurns K) := by
  have sc := sc_law_turns
  refine F.ok sc (fun vs H Q E h => ?_) (fun cdv A outer s H vs Q E hr h => ?_)
  · (repeat (rcases h with ⟨_, h⟩))
    subst_vars
    rfl
  · obtain ⟨wv, sd, m, W, much, rfl, WL, hn, GW, SP, hm, hbm, h0, k⟩ := h
    obtain ⟨d, ls, wkvs, rfl, hd, hlong, hspots, hls⟩ := id WL
    obtain ⟨od, kvs, qs, h1, h2, h3, h4, h5, h6⟩ := id SP
    have lq := Paired.length h5
    have few := GW.p.few
    have GP := GW.p
    have gS := DGet.k (k := Sum.inr ("spots" : Str)) hd
    rw [hspots] at gS
    have gL := DGet.k (k := Sum.inr ("long" : Str)) hd
    rw [hlong] at gL
    have lk : (keys W.ss.length).length ≤ 2500 := by
      have := kp_len (n := W.ss.length) (p := W.ss.length) (l := 0) (r := 0) few (Nat.le_refl _) (by omega) (by omega)
      rw [kp1_all] at this
      simp at this
      omega
    refine ⟨_, (pss_cons (ps_set (i := 3) sc.nd rfl (Or.inr rfl) (pe_op op_cat (pe_op op_cat (pe_lst (pa_cons pe_int pa_nil)) (pe_dget (hu_of hr) (pv 0) pe_str (fun _ _ => rfl))) (pe_lst (pa_cons (pe_dget (hu_of hr) (pv 0) pe_str (fun _ _ => rfl)) pa_nil))))
 (pss_cons (ps_setLc (i := 4) (own := [("_law_place", 5)]) (g := (gName 5)) rfl sc.nd rfl rfl (sw_true rfl rfl rfl (by decide +kernel)) (piL K (pv 3)) (blkOk_by (N := n_law_turns) (sc := defScope s_law_turns) (own := [("_law_place", 5)]) (by decide +kernel)) (fun _ _ _ _ _ => (pg_name (i := 5) sc.nd rfl (Or.inl rfl))) (fun _ _ _ _ _ => pts_nil) (fun _ _ _ _ _ => (pe_tup (pa_cons (pv 5) (pa_cons pe_int pa_nil)))))
 (pss_cons (ps_for PassesOwn.never rfl (pi_itemsT (pv 1)) (pg_tup rfl (pgs_cons (pg_name (i := 6) sc.nd rfl (Or.inl rfl)) (pgs_cons (pg_name (i := 7) sc.nd rfl (Or.inl rfl)) pgs_nil)))
 (pss_cons (ps_set (i := 8) sc.nd rfl (Or.inl rfl) (pe_fn G_law_part_of hr (pa_cons (pv 7) (pa_cons (pv 2) pa_nil))))
 (pss_one (ps_if (PW.pt (pw_and (pt_cmpR op_ge (pe_ix (ixT K) (pv 7) pe_int (fun _ _ => rfl)) pe_int (nomark _)) (pw_and1 (pt_not (pt_val (pe_fn G_law_is_below hr (pa_cons (pe_tup (pa_cons pe_int (pa_cons pe_int pa_nil))) (pa_cons (pv 8) pa_nil))))))))
 (pss_cons (ps_asg (pe_lc (own := [("_law_one", 12)]) (g := (gName 12)) rfl sc.nd (piT K (pv 6)) (blkOk_by (N := n_law_turns) (sc := defScope s_law_turns) (own := [("_law_one", 12)]) (by decide +kernel)) (fun _ _ _ _ _ => (pg_name (i := 12) sc.nd rfl (Or.inl rfl))) (fun _ _ _ _ _ => pts_nil) (fun _ _ _ _ _ => (pe_ix (ixL K) (pv 3) (pe_op op_add (pv 12) pe_int) (fun _ _ => rfl)))) (pg_unl rfl (pgs_cons (pg_name (i := 9) sc.nd rfl (Or.inl rfl)) (pgs_cons (pg_name (i := 10) sc.nd rfl (Or.inl rfl)) (pgs_cons (pg_name (i := 11) sc.nd rfl (Or.inl rfl)) pgs_nil)))))
 (pss_cons (ps_expr (pe_bm PySem.F.plainAttrs_list PySem.F.slot_list_append PySem.F.type_list_append mt_append (pv 4) (pa_cons (pe_fn G_law_plus hr (pa_cons (pe_tup (pa_cons (pv 9) (pa_cons pe_int pa_nil))) (pa_cons (pe_fn G_law_by hr (pa_cons (pv 8) (pa_cons (pe_tup (pa_cons (pe_op op_sub (pv 10) (pv 9)) (pa_cons pe_int pa_nil))) pa_nil))) pa_nil))) pa_nil)))
 (pss_one (ps_expr (pe_bm PySem.F.plainAttrs_list PySem.F.slot_list_append PySem.F.type_list_append mt_append (pv 4) (pa_cons (pe_fn G_law_minus hr (pa_cons (pe_tup (pa_cons (pv 11) (pa_cons pe_int pa_nil))) (pa_cons (pe_fn G_law_by hr (pa_cons (pv 8) (pa_cons (pe_tup (pa_cons (pe_op op_sub (pv 11) (pv 10)) (pa_cons pe_int pa_nil))) pa_nil))) pa_nil))) pa_nil))))))
 pss_nil))))
 (pss_one (ps_ret (pe_fn G_law_rising hr (pa_cons (pv 4) pa_nil))))))), ?_⟩
    refine ⟨(by show 1 ≤ sizeLine; decide), fun l0 nl0 => ?_⟩
    have s1 : Same H (upd H l0 (.lst [.int 0])) := Same.new nl0
    have hl0 : upd H l0 (.lst [.int 0]) l0 = some (.lst [.int 0]) := upd_same
    generalize upd H l0 (.lst [.int 0]) = H1 at s1 hl0 ⊢
    refine ⟨_, rfl, d, _, rfl, gd_mono gS s1, l0, ls, _, _, rfl, rfl, hl0, s1 _ _ hls, (by show _ ≤ sizeLine; refine szL ?_; simp; omega), fun l1 nl1 => ?_⟩
    have s2 : Same H (upd H1 l1 (.lst ([.int 0] ++ (W.ss.map (·.1)).map V.int))) := s1.news nl1
    have hl1 : upd H1 l1 (.lst ([.int 0] ++ (W.ss.map (·.1)).map V.int)) l1 = some (.lst ([.int 0] ++ (W.ss.map (·.1)).map V.int)) := upd_same
    generalize upd H1 l1 (.lst ([.int 0] ++ (W.ss.map (·.1)).map V.int)) = H2 at s2 hl1 ⊢
    refine ⟨_, rfl, d, _, rfl, gd_mono gL s2, (by show 1 ≤ sizeLine; decide), fun l2 nl2 => ?_⟩
    have s3 : Same H2 (upd H2 l2 (.lst [.int W.long])) := Same.new nl2
    have hl2 : upd H2 l2 (.lst [.int W.long]) l2 = some (.lst [.int W.long]) := upd_same
    generalize upd H2 l2 (.lst [.int W.long]) = H3 at s3 hl2 ⊢
    refine ⟨l1, l2, _, _, rfl, rfl, s3 _ _ hl1, hl2, (by show _ ≤ sizeLine; refine szL ?_; simp; omega), fun pl npl => ?_⟩
    rw [spots_V]
    have s4 : Same H (upd H3 pl (.lst ((spotsL W).map V.int))) := (s2.trans s3).news npl
    have hpl : upd H3 pl (.lst ((spotsL W).map V.int)) pl = some (.lst ((spotsL W).map V.int)) := upd_same
    generalize upd H3 pl (.lst ((spotsL W).map V.int)) = H4 at s4 hpl ⊢
    refine ⟨_, rfl, pl, rfl, ⟨_, SqL.of hpl⟩, fun D nD => lc_map walk_list (fun i => ((placesL W)[i]?).getD 0) (Fr K) (fun _ _ _ _ u h => h.mono u) nD (by rw [List.length_map, spots_len]; omega) (fun H' s => SqL.of (s _ _ hpl)) (fun i y H5 H6 hi s5 yy => ?_) (fun H5 fs s5 hD hfs => ?_)⟩
    · obtain ⟨rfl, hy⟩ := yy
      refine ⟨Same.refl _, fun Qk kk => ?_⟩
      rw [List.getElem?_map] at hy
      obtain ⟨z, hz, rfl⟩ := Option.map_eq_some_iff.mp hy
      refine ⟨rfl, _, rfl, (by show 2 ≤ sizeLine; decide), fun t nt => kk _ _ (Same.new nt) ?_⟩
      rw [placesL_eq, List.getElem?_map, hz]
      exact (show FrN _ _ (z : Rat) from ⟨_, rfl, upd_same⟩).fr
    have efs : (List.range ((spotsL W).map V.int).length).map (fun i => ((placesL W)[i]?).getD 0) = placesL W := by
      have l1 : (placesL W).length = W.ss.length + 2 := by rw [placesL_eq, List.length_map, spots_len]
      refine List.ext_getElem (by simp [l1, spots_len]) fun i h1 h2 => ?_
      simp [List.getElem?_eq_getElem h2]
    rw [efs] at hfs
    have s05 := s4.trans s5
    have nfo : H D = none := s4.free nD
    have npl : pl ≠ D := ne_of_none hpl nD
    have lp : (placesL W).length = W.ss.length + 2 := by rw [placesL_eq, List.length_map, spots_len]
    refine ⟨_, rfl, sd, od, kvs, rfl, s05 _ _ h1, for_it walk_itemsT (fun i σ H' => (∃ c1 c2 c3 c4 c5 c6 c7 c8, σ = [some (.ref d), some (.ref sd), some m, some (.ref pl), some (.ref D), c1, c2, c3, c4, c5, c6, c7, c8]) ∧ Same H H' ∧ H' pl = some (.lst ((spotsL W).map V.int)) ∧ ∃ fs, H' D = some (.lst fs) ∧ Paired (Fr K H') fs (placesL W ++ (qs.take i).flatMap (turn2 W much))) ⟨⟨_, _, _, _, _, _, _, _, rfl⟩, s05, s5 _ _ hpl, fs, hD, by simpa using hfs⟩ (fun i σ H' _ p => p.2.1 _ _ h1) ?_ ?_⟩
    · rintro i y σ H6 H7 hi ⟨⟨c1, c2, c3, c4, c5, c6, c7, c8, rfl⟩, s6, hpl6, fs6, hD6, hfs6⟩ ⟨T, ke, ve, q, hke, rfl, nT, hq, rfl⟩
      obtain ⟨ky, hky, ek, frv⟩ := LiI.paired_get h5 hke
      have ek : ke = kyK ky := ek
      subst ek
      have frv : Fr K H ve (spare W ky) := frv
      have gk := keys_good.mp ((h2 ky).mp (List.mem_of_getElem? hky))
      have sT : Same H6 (upd H6 T (.tup [.ref q, ve])) := Same.new nT
      have hT : upd H6 T (.tup [.ref q, ve]) T = some (.tup [.ref q, ve]) := upd_same
      generalize upd H6 T (.tup [.ref q, ve]) = H7 at sT hT ⊢
      have s7 := s6.trans sT
      have hpl7 := sT _ _ hpl6
      have hD7 := sT _ _ hD6
      have hq7 := sT _ _ hq
      have hfs7 := pr_mono hfs6 fun _ _ h => h.mono sT.tu
      refine ⟨T, _, rfl, SqT.of hT, rfl, _, _, rfl, _, _, rfl, rfl, ?_⟩
      have sbd := spare_bd GW gk
      have tbd := tall_bd GW hbm h0 gk
      refine ⟨_, rfl, _, rfl, ve, m, spare W ky, much, 1781, 430, rfl, frv.mono s7.tu, hm.mono s7.tu, sbd, hbm, by decide, h0, fun H8 v8 s8 f8 => ?_⟩
      have f8t : FrN H8 v8 (tallOf W much ky) := f8
      have s08 := s7.trans s8
      have hpl8 := s8 _ _ hpl7
      have hD8 := s8 _ _ hD7
      have hq8 := s8 _ _ hq7
      have hfs8 := pr_mono hfs7 fun _ _ h => h.mono s8.tu
      obtain ⟨pv1, rfl, hpv⟩ := id (frv.mono s08.tu)
      have et : placesL W ++ (qs.take (i + 1)).flatMap (turn2 W much) = (placesL W ++ (qs.take i).flatMap (turn2 W much)) ++ turn2 W much ky := by
        rw [List.take_add_one, hky, List.flatMap_append, List.append_assoc]
        simp
      have tn : tallOf W much ky < 0 ↔ spare W ky < 0 := div_neg h0
      have lens : (placesL W ++ (qs.take i).flatMap (turn2 W much)).length ≤ 6000 := by
        have := fm_len (f := turn2 W much) (b := 2) (xs := qs.take i) fun x _ => turn2_len W much x
        have := List.length_take_le i qs
        rw [List.length_append]
        omega
      generalize (placesL W ++ (qs.take i).flatMap (turn2 W much)) = acc at et hfs8 lens
      rw [et]
      have no : ∀ (H9 : Hp), Same H8 H9 → ¬ (¬ tallOf W much ky < 0 ∧ ¬ 1 < tallOf W much ky) → ∃ fs, H9 D = some (.lst fs) ∧ Paired (Fr K H9) fs (acc ++ turn2 W much ky) := fun H9 s9 z => by
        refine ⟨fs6, s9 _ _ hD8, ?_⟩
        have : turn2 W much ky = [] := if_neg z
        rw [this, List.append_nil]
        exact pr_mono hfs8 fun _ _ h => h.mono s9.tu
      refine ⟨_, rfl, _, _, _, _, rfl, rfl, hpv, rfl, _, _, rfl, rfl, _, rfl, ?_⟩
      refine ifB (fun ca => ?_) (fun ca => ?_)
      · have ca1 : (spare W ky).num ≥ 0 := of_decide_eq_true ca
        have ca2 : ¬ tallOf W much ky < 0 := fun z => num_ge.mp ca1 (tn.mp z)
        refine ⟨(by show 2 ≤ sizeLine; decide), fun t1 nt1 => ?_⟩
        have s9 : Same H8 (upd H8 t1 (.tup [.int 1, .int 1])) := Same.new nt1
        refine ⟨_, rfl, _, _, 1, tallOf W much ky, 1, 2211, rfl, (show FrN _ _ 1 from ⟨_, rfl, upd_same⟩).fr, f8t.fr.mono s9.tu, bd1, tbd, by decide, _, rfl, ?_⟩
        generalize upd H8 t1 (.tup [.int 1, .int 1]) = H9 at s9 ⊢
        refine ifB (fun cb => ?_) (fun cb => ?_)
        · have cb1 : ¬ 1 < tallOf W much ky := by simpa using cb
          have e2 : turn2 W much ky = [(W.place ky.1 : Rat) + tallOf W much ky * ((W.place ky.2.1 : Rat) - (W.place ky.1 : Rat)), (W.place ky.2.2 : Rat) - tallOf W much ky * ((W.place ky.2.2 : Rat) - (W.place ky.2.1 : Rat))] := if_pos ⟨ca2, cb1⟩
          rw [e2]
          obtain ⟨g1, g2, g3, g4, g5⟩ := id gk
          refine ⟨_, rfl, q, rfl, ⟨_, SqT.of (s9 _ _ hq8)⟩, fun D2 nD2 => lc_map walk_tup (fun j => (([W.place ky.1, W.place ky.2.1, W.place ky.2.2] : List Int)[j]?).getD 0) (fun _ v a => v = V.int a) (fun _ _ _ _ _ h => h) nD2 (by show 3 ≤ 90000; decide) (fun H' s => SqT.of (s _ _ (s9 _ _ hq8))) (fun j y H10 H11 hj s10 yy => ?_) (fun H10 ys s10 hD2 hys => ?_)⟩
          · obtain ⟨rfl, hy⟩ := yy
            refine ⟨Same.refl _, fun Qk kk => ?_⟩
            have hjr : ∃ r : Int, y = .int r ∧ -1 ≤ r ∧ r ≤ (W.ss.length : Int) ∧ ((([W.place ky.1, W.place ky.2.1, W.place ky.2.2] : List Int)[j]?).getD 0) = W.place r := by
              rcases j with _ | _ | _ | j
              · exact ⟨ky.1, (Option.some.inj hy).symm, by omega, by omega, rfl⟩
              · exact ⟨ky.2.1, (Option.some.inj hy).symm, by omega, by omega, rfl⟩
              · exact ⟨ky.2.2, (Option.some.inj hy).symm, by omega, by omega, rfl⟩
              · exact absurd hj (by show ¬ j + 3 < 3; omega)
            obtain ⟨r', rfl, hr1, hr2, hr3⟩ := hjr
            refine ⟨rfl, _, rfl, _, rfl, _, _, rfl, rfl, pl, _, _, _, rfl, rfl, SqL.of (s10 _ _ (s9 _ _ hpl8)), at_of (j := (r' + 1).toNat) (by omega) (by rw [← spots_V]; exact places_get hr1 hr2), ?_⟩
            refine kk _ _ (Same.refl _) ?_
            rw [hr3]
            rfl
          · have e := ints_pr hys
            have e3 : ys = [V.int (W.place ky.1), V.int (W.place ky.2.1), V.int (W.place ky.2.2)] := e
            subst e3
            have a1 := place_bd GP g1 (by omega)
            have a2 := place_lt GP g1 g2 (by omega)
            have a3 := place_lt GP (by omega) g3 g4
            have a4 := place_bd GP (r := ky.2.2) (by omega) g4
            have gh := GP.hi
            have el : W.place ky.1 = placeOf W.long W.ss ky.1 := rfl
            have eh : W.place ky.2.1 = placeOf W.long W.ss ky.2.1 := rfl
            have er : W.place ky.2.2 = placeOf W.long W.ss ky.2.2 := rfl
            rw [← el] at a1 a2
            rw [← eh] at a2 a3
            rw [← er] at a3 a4
            generalize W.place ky.1 = lo at a1 a2 hD2 ⊢
            generalize W.place ky.2.1 = he at a2 a3 hD2 ⊢
            generalize W.place ky.2.2 = hg at a3 a4 hD2 ⊢
            generalize tallOf W much ky = tall at f8t tbd ⊢
            have bl := bd10 (i := lo) (by omega) (by omega)
            have br := bd10 (i := hg) (by omega) (by omega)
            have bd1 := bd10 (i := he - lo) (by omega) (by omega)
            have bd2 := bd10 (i := hg - he) (by omega) (by omega)
            have s810 := s9.trans s10
            have hD10 := s810 _ _ hD8
            have f10 := f8t.fr (K := K) |>.mono s810.tu
            have hfs10 := pr_mono hfs8 fun _ _ h => h.mono s810.tu
            have new2 : ∀ {H6 : Hp} {t : Addr} (z : Int), H6 t = none → FrN (upd H6 t (.tup [.int z, .int 1])) (.ref t) (z : Rat) := fun z _ => ⟨_, rfl, upd_same⟩
            refine ⟨D2, _, rfl, SqL.of hD2, rfl, _, _, rfl, _, _, rfl, _, _, rfl, rfl, ?_⟩
            refine ⟨_, rfl, .inl ⟨rfl, _, SqL.of hD10⟩, ?_⟩
            refine ⟨_, rfl, (by show 2 ≤ sizeLine; decide), fun t2 nt2 => ?_⟩
            have s11 : Same H10 (upd H10 t2 (.tup [.int lo, .int 1])) := Same.new nt2
            have ft2 := (new2 lo nt2).fr (K := K)
            generalize upd H10 t2 (.tup [.int lo, .int 1]) = H11 at s11 ft2 ⊢
            refine ⟨_, rfl, _, rfl, _, rfl, _, _, rfl, rfl, (by show 2 ≤ sizeLine; decide), fun t3 nt3 => ?_⟩
            have s12 : Same H11 (upd H11 t3 (.tup [.int (he - lo), .int 1])) := Same.new nt3
            have ft3 := (new2 (he - lo) nt3).fr (K := K)
            generalize upd H11 t3 (.tup [.int (he - lo), .int 1]) = H12 at s12 ft3 ⊢
            refine ⟨v8, _, tall, ((he - lo : Int) : Rat), 2211, 10, rfl, f10.mono (s11.trans s12).tu, ft3, tbd, bd1, by decide, trivial, fun H13 v13 s13 f13 => ?_⟩
            refine ⟨_, v13, (lo : Rat), tall * ((he - lo : Int) : Rat), 10, 2221, rfl, ft2.mono (s12.trans s13).tu, f13.fr, bl, tbd.mul bd1, by decide, trivial, fun H14 v14 s14 f14 => ?_⟩
            have sA := ((s11.trans s12).trans s13).trans s14
            have hD14 := sA _ _ hD10
            refine ⟨D, _, _, rfl, rfl, hD14, szl (by have := pr_len hfs8; omega), ?_⟩
            have tuA := Tu.upd (o := .lst (fs6 ++ [v14])) hD14 trivial
            have hDB : upd H14 D (.lst (fs6 ++ [v14])) D = some (.lst (fs6 ++ [v14])) := upd_same
            have fs14 := pr_mono hfs10 fun _ _ h => h.mono (sA.tu.trans tuA)
            have f14B : Fr K (upd H14 D (.lst (fs6 ++ [v14]))) v14 ((lo : Rat) + tall * ((he - lo : Int) : Rat)) := f14.fr.mono tuA
            have f10B := f10.mono (sA.tu.trans tuA)
            have hplB : upd H14 D (.lst (fs6 ++ [v14])) pl = some (.lst ((spotsL W).map V.int)) := by rw [upd_ne npl]; exact (s810.trans sA) _ _ hpl8
            have sB : Same H (upd H14 D (.lst (fs6 ++ [v14]))) := ((s08.trans s810).trans sA).mut nfo
            generalize upd H14 D (.lst (fs6 ++ [v14])) = H15 at hDB fs14 f14B f10B hplB sB ⊢
            refine ⟨_, rfl, .inl ⟨rfl, _, SqL.of hDB⟩, ?_⟩
            refine ⟨_, rfl, (by show 2 ≤ sizeLine; decide), fun t4 nt4 => ?_⟩
            have s16 : Same H15 (upd H15 t4 (.tup [.int hg, .int 1])) := Same.new nt4
            have ft4 := (new2 hg nt4).fr (K := K)
            generalize upd H15 t4 (.tup [.int hg, .int 1]) = H16 at s16 ft4 ⊢
            refine ⟨_, rfl, _, rfl, _, rfl, _, _, rfl, rfl, (by show 2 ≤ sizeLine; decide), fun t5 nt5 => ?_⟩
            have s17 : Same H16 (upd H16 t5 (.tup [.int (hg - he), .int 1])) := Same.new nt5
            have ft5 := (new2 (hg - he) nt5).fr (K := K)
            generalize upd H16 t5 (.tup [.int (hg - he), .int 1]) = H17 at s17 ft5 ⊢
            refine ⟨v8, _, tall, ((hg - he : Int) : Rat), 2211, 10, rfl, f10B.mono (s16.trans s17).tu, ft5, tbd, bd2, by decide, trivial, fun H18 v18 s18 f18 => ?_⟩
            refine ⟨_, v18, (hg : Rat), tall * ((hg - he : Int) : Rat), 10, 2221, rfl, ft4.mono (s17.trans s18).tu, f18.fr, br, tbd.mul bd2, by decide, trivial, fun H19 v19 s19 f19 => ?_⟩
            have sC := ((s16.trans s17).trans s18).trans s19
            have hDC := sC _ _ hDB
            refine ⟨D, _, _, rfl, rfl, hDC, szl (by rw [List.length_append, List.length_singleton]; have := pr_len hfs8; omega), ?_⟩
            have tuC := Tu.upd (o := .lst (fs6 ++ [v14] ++ [v19])) hDC trivial
            refine ⟨⟨_, _, _, _, _, _, _, _, rfl⟩, (sB.trans sC).mut nfo, by rw [upd_ne npl]; exact sC _ _ hplB, _, upd_same, ?_⟩
            have q1 := pr_snoc (f14B.mono (sC.tu.trans tuC)) (pr_mono fs14 fun _ _ h => h.mono (sC.tu.trans tuC))
            have q2 := pr_snoc (f19.fr.mono tuC) q1
            rw [Rat.intCast_sub, Rat.intCast_sub] at q2
            have eapp : ∀ a b : Rat, acc ++ [a, b] = acc ++ [a] ++ [b] := fun a b => by rw [List.append_assoc]; rfl
            rw [eapp]
            exact q2
        · have cb1 : ¬ (¬ tallOf W much ky < 0 ∧ ¬ 1 < tallOf W much ky) := fun z => z.2 (by simpa using cb)
          exact ⟨⟨_, _, _, _, _, _, _, _, rfl⟩, s08.trans s9, s9 _ _ hpl8, no _ s9 cb1⟩
      · have ca1 : ¬ (spare W ky).num ≥ 0 := of_decide_eq_false ca
        have ca2 : ¬ (¬ tallOf W much ky < 0 ∧ ¬ 1 < tallOf W much ky) := fun z => ca1 (num_ge.mpr fun y => z.1 (tn.mpr y))
        exact ⟨⟨_, _, _, _, _, _, _, _, rfl⟩, s08, hpl8, no _ (Same.refl _) ca2⟩
    · rintro σ H6 ⟨⟨c1, c2, c3, c4, c5, c6, c7, c8, rfl⟩, s6, hpl6, fs6, hD6, hfs6⟩
      rw [lq, List.take_length] at hfs6
      have mem : ∀ x, x ∈ placesL W ++ qs.flatMap (turn2 W much) ↔ x ∈ turnsL W much := fun x => by
        unfold turnsL
        rw [List.mem_append, List.mem_append, List.mem_flatMap, List.mem_flatMap]
        constructor
        · rintro (h | ⟨a, ha, h⟩)
          · exact .inl h
          · exact .inr ⟨a, (h2 a).mp ha, h⟩
        · rintro (h | ⟨a, ha, h⟩)
          · exact .inl h
          · exact .inr ⟨a, (h2 a).mpr ha, h⟩
      have len : (placesL W ++ qs.flatMap (turn2 W much)).length ≤ 20000 := by
        have := fm_len (f := turn2 W much) (b := 2) (xs := qs) fun x _ => turn2_len W much x
        rw [List.length_append]
        omega
      refine ⟨_, rfl, D, fs6, _, 2243, rfl, hD6, hfs6, fun q hq => turn_bd GW hbm h0 q ((mem q).mp hq), by decide, len, fun H7 p ys R s7 hp hys hR hm2 hl => ?_⟩
      exact k _ p ys R (s6.trans s7) hp hys ⟨hR, fun x => (hm2 x).trans (mem x)⟩ (by omega)
end
end PF
end
section
set_option maxHeartbeats 4000000
/-! Greedy is greatest: plain Lean. -/
namespace PF
theorem wide_low {x lo lo' he : Rat} (h1 : lo' ≤ lo) (h2 : lo < he) (h3 : x ≤ he) : (x - lo) / (he - lo) ≤ (x - lo') / (he - lo') := by
  have g : 0 < he - lo := by grind
  have g' : 0 < he - lo' := by grind
  have e1 : (x - lo) / (he - lo) * (he - lo) = x - lo := by rw [Rat.div_def]; grind
  have e2 : (x - lo') / (he - lo') * (he - lo') = x - lo' := by rw [Rat.div_def]; grind
  generalize (x - lo) / (he - lo) = u at e1 ⊢
  generalize (x - lo') / (he - lo') = v at e2 ⊢
  have u1 : u ≤ 1 := by
    apply Rat.not_lt.mp
    intro z
    have := Rat.mul_pos (show 0 < u - 1 by grind) g
    grind
  apply Rat.not_lt.mp
  intro z
  have a := Rat.mul_pos (show 0 < u - v by grind) g'
  have b := Rat.mul_nonneg (show 0 ≤ lo - lo' by grind) (show 0 ≤ 1 - u by grind)
  grind
theorem wide_high {x hi hi' he : Rat} (h1 : hi ≤ hi') (h2 : he < hi) (h3 : he ≤ x) : (hi - x) / (hi - he) ≤ (hi' - x) / (hi' - he) := by
  have g : 0 < hi - he := by grind
  have g' : 0 < hi' - he := by grind
  have e1 : (hi - x) / (hi - he) * (hi - he) = hi - x := by rw [Rat.div_def]; grind
  have e2 : (hi' - x) / (hi' - he) * (hi' - he) = hi' - x := by rw [Rat.div_def]; grind
  generalize (hi - x) / (hi - he) = u at e1 ⊢
  generalize (hi' - x) / (hi' - he) = v at e2 ⊢
  have u1 : u ≤ 1 := by
    apply Rat.not_lt.mp
    intro z
    have := Rat.mul_pos (show 0 < u - 1 by grind) g
    grind
  apply Rat.not_lt.mp
  intro z
  have a := Rat.mul_pos (show 0 < u - v by grind) g'
  have b := Rat.mul_nonneg (show 0 ≤ hi' - hi by grind) (show 0 ≤ 1 - u by grind)
  grind
theorem div_nonneg {a b : Rat} (h1 : 0 ≤ a) (h2 : 0 < b) : 0 ≤ a / b := by
  have e : a / b * b = a := by rw [Rat.div_def]; grind
  apply Rat.not_lt.mp
  intro z
  have := Rat.mul_pos (show 0 < -(a / b) by grind) h2
  grind
theorem rat_lt {a b : Int} (h : a < b) : (a : Rat) < (b : Rat) := Rat.intCast_lt_intCast.mpr h
theorem rat_le {a b : Int} (h : a ≤ b) : (a : Rat) ≤ (b : Rat) := Rat.intCast_le_intCast.mpr h
theorem shareAt_nonneg {lo he hi : Int} {x : Rat} (h1 : lo < he) (h2 : he < hi) : 0 ≤ shareAt lo he hi x := by
  have a := rat_lt h1
  have b := rat_lt h2
  unfold shareAt
  rw [Rat.intCast_sub, Rat.intCast_sub]
  split
  · exact div_nonneg (by grind) (by grind)
  · split
    · exact div_nonneg (by grind) (by grind)
    · exact Rat.le_refl
theorem shareAt_wide {lo lo' he hi hi' : Int} {x : Rat} (h0 : lo' ≤ lo) (h1 : lo < he) (h2 : he < hi) (h3 : hi ≤ hi') : shareAt lo he hi x ≤ shareAt lo' he hi' x := by
  have a := rat_lt h1
  have b := rat_lt h2
  have c := rat_le h0
  have d := rat_le h3
  by_cases c1 : (lo : Rat) < x ∧ ¬ (he : Rat) < x
  · have c2 : (lo' : Rat) < x ∧ ¬ (he : Rat) < x := ⟨by grind, c1.2⟩
    unfold shareAt
    rw [if_pos c1, if_pos c2, Rat.intCast_sub, Rat.intCast_sub]
    exact wide_low c a (by grind)
  · by_cases c2 : (he : Rat) < x ∧ x < (hi : Rat)
    · have c3 : ¬ ((lo' : Rat) < x ∧ ¬ (he : Rat) < x) := fun z => z.2 c2.1
      have c4 : (he : Rat) < x ∧ x < (hi' : Rat) := ⟨c2.1, by grind⟩
      unfold shareAt
      rw [if_neg c1, if_pos c2, if_neg c3, if_pos c4, Rat.intCast_sub, Rat.intCast_sub]
      exact wide_high d b (by grind)
    · have : shareAt lo he hi x = 0 := by
        unfold shareAt
        rw [if_neg c1, if_neg c2]
      rw [this]
      exact shareAt_nonneg (by omega) (by omega)
/-- k' lies over the same prop, as wide or wider -/
def Wider (k k' : Ky) : Prop := k'.1 ≤ k.1 ∧ k'.2.1 = k.2.1 ∧ k.2.2 ≤ k'.2.2
theorem place_le {W : Wd} (G : GoodP W.long W.ss) {r r' : Int} (h1 : -1 ≤ r) (h2 : r ≤ r') (h3 : r' ≤ (W.ss.length : Int)) : W.place r ≤ W.place r' := by
  by_cases c : r = r'
  · rw [c]
    exact Int.le_refl _
  · exact Int.le_of_lt (place_lt G h1 (by omega) h3)
theorem share_wide {W : Wd} (G : GoodP W.long W.ss) {k k' : Ky} (g : GoodKey W.ss.length k) (g' : GoodKey W.ss.length k') (w : Wider k k') (x : Rat) : share W k x ≤ share W k' x := by
  obtain ⟨k1, k2, k3⟩ := k
  obtain ⟨j1, j2, j3⟩ := k'
  obtain ⟨w1, w2, w3⟩ := w
  obtain ⟨g1, g2, g3, g4, g5⟩ := g
  obtain ⟨q1, q2, q3, q4, q5⟩ := g'
  dsimp only at *
  subst w2
  exact shareAt_wide (place_le (r := j1) (r' := k1) G q1 w1 (by omega)) (place_lt (r := k1) (r' := j2) G g1 g2 (by omega)) (place_lt (r := j2) (r' := k3) G (by omega) g3 (by omega)) (place_le (r := k3) (r' := j3) G (by omega) w3 q4)
theorem foldl_le {α : Type} {f g : α → Rat} : ∀ (l : List α) (a b : Rat), a ≤ b → (∀ x ∈ l, f x ≤ g x) → (l.map f).foldl (· + ·) a ≤ (l.map g).foldl (· + ·) b
  | [], a, b, h, _ => h
  | x :: l, a, b, h, q => by
    rw [List.map_cons, List.map_cons, List.foldl_cons, List.foldl_cons]
    have := q x List.mem_cons_self
    exact foldl_le l _ _ (by grind) fun y hy => q y (List.mem_cons_of_mem _ hy)
theorem mul_mono {a b c : Rat} (h : 0 < a) (q : b ≤ c) : a * b ≤ a * c := Rat.mul_le_mul_of_nonneg_left q (Rat.le_of_lt h)
theorem load_wide {W : Wd} (G : GoodW W) {k k' : Ky} (g : GoodKey W.ss.length k) (g' : GoodKey W.ss.length k') (w : Wider k k') : loadOf W k ≤ loadOf W k' :=
  foldl_le W.heavy 0 0 Rat.le_refl fun h hh => mul_mono (G.each h hh).2.2.2.2 (share_wide G.p g g' w h.1)
theorem fails_wide {W : Wd} (G : GoodW W) {much x : Rat} (h0 : 0 < much) {k k' : Ky} (g : GoodKey W.ss.length k) (g' : GoodKey W.ss.length k') (w : Wider k k') (f : fails W much x k = true) : fails W much x k' = true := by
  unfold fails at f ⊢
  have f := of_decide_eq_true f
  apply decide_eq_true
  have a := load_wide G g g' w
  have b := mul_mono h0 (share_wide G.p g g' w x)
  unfold spare at f ⊢
  rw [w.2.1]
  grind
/-! ### sides of smaller lots are wider -/
theorem rests_rise {n : Nat} {L : List Int} (G : GoodL n L) : (restsL n L).Pairwise (· < ·) := by
  unfold restsL
  refine List.pairwise_cons.mpr ⟨fun a ha => ?_, List.pairwise_append.mpr ⟨G.rise, List.pairwise_singleton _ _, fun a ha b hb => ?_⟩⟩
  · rcases List.mem_append.mp ha with ha | ha
    · have := G.within a ha
      omega
    · rw [List.mem_singleton.mp ha]
      omega
  · rw [List.mem_singleton.mp hb]
    exact (G.within a ha).2
theorem rest_mid {n : Nat} {L : List Int} {j : Nat} {p : Int} (h : L[j]? = some p) : (restsL n L)[j + 1]? = some p := by
  unfold restsL
  have hj : j < L.length := by
    obtain ⟨q, _⟩ := List.getElem?_eq_some_iff.mp h
    exact q
  rw [List.getElem?_cons_succ, List.getElem?_append_left hj]
  exact h
theorem rise_idx {L : List Int} (h : L.Pairwise (· < ·)) {i j : Nat} {a b : Int} (ha : L[i]? = some a) (hb : L[j]? = some b) : (i < j → a < b) ∧ (i ≤ j → a ≤ b) := by
  obtain ⟨h1, rfl⟩ := List.getElem?_eq_some_iff.mp ha
  obtain ⟨h2, rfl⟩ := List.getElem?_eq_some_iff.mp hb
  have := List.pairwise_iff_getElem.mp h
  refine ⟨fun q => this i j h1 h2 q, fun q => ?_⟩
  rcases Nat.lt_or_eq_of_le q with q | q
  · exact Int.le_of_lt (this i j h1 h2 q)
  · subst q
    exact Int.le_refl _
/-- nothing of the lot lies between a side and its prop -/
theorem sides_next {n : Nat} {L : List Int} (G : GoodL n L) {k : Ky} (h : k ∈ sides n L) : k.2.1 ∈ L ∧ (k.1 = -1 ∨ k.1 ∈ L) ∧ (k.2.2 = (n : Int) ∨ k.2.2 ∈ L) ∧ (∀ q ∈ L, q < k.2.1 → q ≤ k.1) ∧ ∀ q ∈ L, k.2.1 < q → k.2.2 ≤ q := by
  obtain ⟨j, hj⟩ := List.mem_iff_getElem?.mp h
  obtain ⟨h1, h2, h3⟩ := sides_get hj
  have rr := rests_rise G
  have hm := rest_mid (n := n) h2
  have ends : ∀ (i : Nat) (r : Int), (restsL n L)[i]? = some r → r = -1 ∨ r ∈ L ∨ r = (n : Int) := fun i r hr => by
    have := List.mem_of_getElem? hr
    unfold restsL at this
    simp at this
    rcases this with h | h | h
    · exact .inl h
    · exact .inr (.inl h)
    · exact .inr (.inr h)
  have gk := sides_good G h
  obtain ⟨g1, g2, g3, g4, g5⟩ := gk
  refine ⟨List.mem_of_getElem? h2, ?_, ?_, fun q hq hlt => ?_, fun q hq hlt => ?_⟩
  · rcases ends _ _ h1 with h | h | h
    · exact .inl h
    · exact .inr h
    · omega
  · rcases ends _ _ h3 with h | h | h
    · omega
    · exact .inr h
    · exact .inl h
  · obtain ⟨i, hi⟩ := List.mem_iff_getElem?.mp hq
    have hi' := rest_mid (n := n) hi
    have : i + 1 ≤ j := by
      apply Nat.not_lt.mp
      intro z
      have := (rise_idx rr hm hi').2 (by omega)
      omega
    exact (rise_idx rr hi' h1).2 this
  · obtain ⟨i, hi⟩ := List.mem_iff_getElem?.mp hq
    have hi' := rest_mid (n := n) hi
    have : j + 2 ≤ i + 1 := by
      apply Nat.not_lt.mp
      intro z
      have := (rise_idx rr hi' hm).2 (by omega)
      omega
    exact (rise_idx rr h3 hi').2 this
theorem sides_of {n : Nat} {L : List Int} {p : Int} (h : p ∈ L) : ∃ k ∈ sides n L, k.2.1 = p := by
  obtain ⟨j, hj⟩ := List.mem_iff_getElem?.mp h
  have hl : j < (sides n L).length := by
    rw [sides_len]
    exact (List.getElem?_eq_some_iff.mp hj).1
  obtain ⟨h1, h2, h3⟩ := sides_get (List.getElem?_eq_getElem hl)
  refine ⟨(sides n L)[j], List.getElem_mem hl, ?_⟩
  rw [hj] at h2
  exact (Option.some.inj h2).symm
theorem sides_wider {n : Nat} {S L : List Int} (GS : GoodL n S) (GL : GoodL n L) (sub : ∀ q ∈ S, q ∈ L) {k k' : Ky} (h : k ∈ sides n L) (h' : k' ∈ sides n S) (e : k'.2.1 = k.2.1) : Wider k k' := by
  obtain ⟨a1, a2, a3, a4, a5⟩ := sides_next GL h
  obtain ⟨b1, b2, b3, b4, b5⟩ := sides_next GS h'
  obtain ⟨g1, g2, g3, g4, g5⟩ := sides_good GL h
  obtain ⟨q1, q2, q3, q4, q5⟩ := sides_good GS h'
  refine ⟨?_, e, ?_⟩
  · rcases b2 with b2 | b2
    · omega
    · exact a4 _ (sub _ b2) (by omega)
  · rcases b3 with b3 | b3
    · omega
    · exact a5 _ (sub _ b3) (by omega)
/-! ### the greedy lot -/
def Mono (F : Ky → Bool) (n : Nat) : Prop := ∀ k k', GoodKey n k → GoodKey n k' → Wider k k' → F k = true → F k' = true
theorem over_mem {F : Ky → Bool} {n : Nat} {L : List Int} {p : Int} (h : p ∈ overL F n L) : ∃ k ∈ sides n L, F k = true ∧ k.2.1 = p := by
  unfold overL at h
  obtain ⟨k, hk, e⟩ := List.mem_map.mp h
  obtain ⟨h1, h2⟩ := List.mem_filter.mp hk
  exact ⟨k, h1, h2, e⟩
theorem over_nil {F : Ky → Bool} {n : Nat} {L : List Int} (h : overL F n L = []) : Stands F n L := fun k hk => by
  unfold overL at h
  rw [List.map_eq_nil_iff, List.filter_eq_nil_iff] at h
  have := h k hk
  simpa using this
theorem stands_not {F : Ky → Bool} {n : Nat} (M : Mono F n) {S L : List Int} (GS : GoodL n S) (GL : GoodL n L) (st : Stands F n S) (sub : ∀ q ∈ S, q ∈ L) {p : Int} (h : p ∈ overL F n L) : p ∉ S := fun hp => by
  obtain ⟨k, h1, h2, rfl⟩ := over_mem h
  obtain ⟨k', j1, j2⟩ := sides_of (n := n) hp
  have := M k k' (sides_good GL h1) (sides_good GS j1) (sides_wider GS GL sub h1 j1 j2) h2
  rw [st k' j1] at this
  cases this
theorem minus_short {L : List Int} {p : Int} (h : p ∈ L) : (minusP L p).length < L.length := by
  unfold minusP
  refine List.length_filter_lt_length_iff_exists.mpr ⟨p, h, by simp⟩
theorem settle_all {F : Ky → Bool} {n : Nat} (M : Mono F n) : ∀ (f : Nat) (L : List Int), L.length < f → GoodL n L → (∀ S, GoodL n S → Stands F n S → ∀ q ∈ S, q ∈ L) →
    GoodL n (settle F n f L) ∧ Stands F n (settle F n f L) ∧ ∀ S, GoodL n S → Stands F n S → ∀ q ∈ S, q ∈ settle F n f L
  | 0, L, h, _, _ => absurd h (Nat.not_lt_zero _)
  | f + 1, L, h, G, all => by
    unfold settle
    cases e : overL F n L with
    | nil => exact ⟨G, over_nil e, all⟩
    | cons p r =>
      have hp : p ∈ overL F n L := by rw [e]; exact List.mem_cons_self
      have hpL : p ∈ L := by
        obtain ⟨k, h1, h2, rfl⟩ := over_mem hp
        exact (sides_next G h1).1
      have := minus_short hpL
      refine settle_all M f (minusP L p) (by omega) (minus_good G p) fun S GS st q hq => ?_
      have h1 := all S GS st q hq
      have h2 := stands_not M GS G st (all S GS st) hp
      unfold minusP
      refine List.mem_filter.mpr ⟨h1, ?_⟩
      have : q ≠ p := fun z => h2 (z ▸ hq)
      simpa using this
theorem fails_mono {W : Wd} (G : GoodW W) {much x : Rat} (h0 : 0 < much) : Mono (fails W much x) W.ss.length := fun _ _ g g' w f => fails_wide G h0 g g' w f
theorem left_all {W : Wd} (G : GoodW W) {much : Rat} (x : Rat) (h0 : 0 < much) : GoodL W.ss.length (leftOf W much x) ∧ Stands (fails W much x) W.ss.length (leftOf W much x) ∧ ∀ S, GoodL W.ss.length S → Stands (fails W much x) W.ss.length S → ∀ q ∈ S, q ∈ leftOf W much x :=
  settle_all (fails_mono G h0) _ _ (by rw [full_len]; omega) (full_good _) fun S GS _ q hq => by
    have := GS.within q hq
    unfold full
    exact List.mem_map.mpr ⟨q.toNat, List.mem_range.mpr (by omega), by omega⟩
theorem greatest_left {W : Wd} (G : GoodW W) {much x : Rat} (h0 : 0 < much) {L : List Int} (h : Greatest (fails W much x) W.ss.length L) : L = leftOf W much x := by
  obtain ⟨a, b, c⟩ := left_all G x h0
  refine int_ext h.1 a.rise fun p => ?_
  rw [h.2]
  constructor
  · rintro ⟨S, h1, h2, h3⟩
    exact c S h1 h2 p h3
  · intro hp
    exact ⟨_, a, b, hp⟩
end PF
end
section
set_option maxHeartbeats 4000000
/-! What stands between two turn spots stands at both: plain Lean. -/
namespace PF
theorem le_div {a b c : Rat} (h : 0 < c) : b ≤ a / c ↔ c * b ≤ a := by
  have e : a / c * c = a := by rw [Rat.div_def]; grind
  generalize a / c = q at e ⊢
  constructor
  · intro z
    have := mul_mono h z
    grind
  · intro z
    apply Rat.not_lt.mp
    intro y
    have := Rat.mul_pos (show 0 < b - q by grind) h
    grind
theorem lt_div {a b c : Rat} (h : 0 < c) : b < a / c ↔ c * b < a := by
  have e : a / c * c = a := by rw [Rat.div_def]; grind
  generalize a / c = q at e ⊢
  constructor
  · intro z
    have := Rat.mul_pos (show 0 < q - b by grind) h
    grind
  · intro z
    apply Rat.not_le.mp
    intro y
    have := mul_mono h y
    grind
theorem tent {lo he hi : Int} {x t : Rat} (h1 : lo < he) (h2 : he < hi) (t0 : 0 ≤ t) (t1 : t ≤ 1) : t < shareAt lo he hi x ↔ ((lo : Rat) + t * ((he : Rat) - (lo : Rat)) < x ∧ x < (hi : Rat) - t * ((hi : Rat) - (he : Rat))) := by
  have a := rat_lt h1
  have b := rat_lt h2
  have p1 := Rat.mul_nonneg t0 (show 0 ≤ (he : Rat) - (lo : Rat) by grind)
  have p2 := Rat.mul_nonneg t0 (show 0 ≤ (hi : Rat) - (he : Rat) by grind)
  have p3 := Rat.mul_nonneg (show 0 ≤ 1 - t by grind) (show 0 ≤ (he : Rat) - (lo : Rat) by grind)
  have p4 := Rat.mul_nonneg (show 0 ≤ 1 - t by grind) (show 0 ≤ (hi : Rat) - (he : Rat) by grind)
  unfold shareAt
  rw [Rat.intCast_sub, Rat.intCast_sub]
  generalize (lo : Rat) = l at *
  generalize (he : Rat) = m at *
  generalize (hi : Rat) = h at *
  split
  · rename_i c
    rw [lt_div (by grind)]
    constructor
    · intro z
      refine ⟨by grind, ?_⟩
      have : 0 < 1 - t := by
        apply Rat.not_le.mp
        intro y
        have := Rat.mul_nonneg (show 0 ≤ t - 1 by grind) (show 0 ≤ m - l by grind)
        grind
      have := Rat.mul_pos this (show 0 < h - m by grind)
      grind
    · rintro ⟨z, _⟩
      grind
  · split
    · rename_i c d
      rw [lt_div (by grind)]
      constructor
      · intro z
        exact ⟨by grind, by grind⟩
      · rintro ⟨_, z⟩
        grind
    · rename_i c d
      constructor
      · intro z
        grind
      · rintro ⟨y, z⟩
        exfalso
        by_cases e : l < x
        · by_cases g : m < x
          · exact d ⟨g, by grind⟩
          · exact c ⟨e, g⟩
        · grind
theorem shareAt_le1 {lo he hi : Int} {x : Rat} (h1 : lo < he) (h2 : he < hi) : shareAt lo he hi x ≤ 1 := by
  apply Rat.not_lt.mp
  intro z
  have := (tent h1 h2 (show (0 : Rat) ≤ 1 by decide) Rat.le_refl).mp z
  grind
/-- next to each other in the rising list -/
def Next (R : List Rat) (a b : Rat) : Prop := a < b ∧ ∀ x ∈ R, x ≤ a ∨ b ≤ x
theorem next_of {R : List Rat} (h : R.Pairwise (· < ·)) {i : Nat} {a b : Rat} (ha : R[i]? = some a) (hb : R[i + 1]? = some b) : Next R a b := by
  obtain ⟨h1, rfl⟩ := List.getElem?_eq_some_iff.mp ha
  obtain ⟨h2, rfl⟩ := List.getElem?_eq_some_iff.mp hb
  have pw := List.pairwise_iff_getElem.mp h
  refine ⟨pw i (i + 1) h1 h2 (by omega), fun x hx => ?_⟩
  obtain ⟨j, hj, rfl⟩ := List.mem_iff_getElem.mp hx
  by_cases c : j < i + 1
  · left
    by_cases d : j = i
    · subst d
      exact Rat.le_refl
    · exact Rat.le_of_lt (pw j i hj h1 (by omega))
  · right
    by_cases d : j = i + 1
    · subst d
      exact Rat.le_refl
    · exact Rat.le_of_lt (pw (i + 1) j h2 hj (by omega))
theorem amid_in {a b : Rat} (h : a < b) : a < amid a b ∧ amid a b < b := by
  unfold amid
  rw [lt_div (by decide)]
  refine ⟨by grind, ?_⟩
  have e : (a + b) / 2 * 2 = a + b := by rw [Rat.div_def]; grind
  grind
/-- one key: what holds amid holds at both ends -/
theorem key_ends {W : Wd} (G : GoodW W) {much : Rat} (h0 : 0 < much) {R : List Rat} (T : TurnsAre W much R) {a b : Rat} (nx : Next R a b) {k : Ky} (g : GoodKey W.ss.length k) (h : fails W much (amid a b) k = false) :
    fails W much a k = false ∧ fails W much b k = false := by
  have le : ∀ x, fails W much x k = false ↔ share W k x ≤ tallOf W much k := fun x => by
    unfold fails tallOf
    rw [decide_eq_false_iff_not, Rat.not_lt, le_div h0]
  rw [le] at h ⊢
  rw [le]
  have kk := keys_good.mpr g
  obtain ⟨g1, g2, g3, g4, g5⟩ := g
  have p1 : W.place k.1 < W.place k.2.1 := place_lt G.p g1 g2 (by omega)
  have p2 : W.place k.2.1 < W.place k.2.2 := place_lt G.p (by omega) g3 g4
  have t0 : 0 ≤ tallOf W much k := by
    have := shareAt_nonneg (x := amid a b) p1 p2
    unfold share at h
    exact Rat.le_trans this h
  by_cases t1 : tallOf W much k ≤ 1
  · have m1 := amid_in nx.1
    have inR : ∀ x, x ∈ turn2 W much k → x ∈ R := fun x hx => (T.2 x).mpr (List.mem_append_right _ (List.mem_flatMap.mpr ⟨k, kk, hx⟩))
    have e2 : turn2 W much k = [(W.place k.1 : Rat) + tallOf W much k * ((W.place k.2.1 : Rat) - (W.place k.1 : Rat)), (W.place k.2.2 : Rat) - tallOf W much k * ((W.place k.2.2 : Rat) - (W.place k.2.1 : Rat))] := if_pos ⟨by rw [Rat.not_lt]; exact t0, by rw [Rat.not_lt]; exact t1⟩
    rw [e2] at inR
    have u1 := nx.2 _ (inR _ List.mem_cons_self)
    have u2 := nx.2 _ (inR _ (List.mem_cons_of_mem _ List.mem_cons_self))
    unfold share at h ⊢
    have ta := tent (x := a) p1 p2 t0 t1
    have tb := tent (x := b) p1 p2 t0 t1
    have tm := tent (x := amid a b) p1 p2 t0 t1
    rw [← Rat.not_lt] at h ⊢
    rw [← Rat.not_lt]
    rw [ta, tb]
    rw [tm] at h
    have n1 := nx.1
    generalize (W.place k.1 : Rat) + tallOf W much k * ((W.place k.2.1 : Rat) - (W.place k.1 : Rat)) = v1 at *
    generalize (W.place k.2.2 : Rat) - tallOf W much k * ((W.place k.2.2 : Rat) - (W.place k.2.1 : Rat)) = v2 at *
    generalize amid a b = m at *
    refine ⟨fun z => ?_, fun z => ?_⟩
    · have : v2 ≤ m := by
        apply Rat.not_lt.mp
        intro y
        exact h ⟨by grind, y⟩
      rcases u2 with u2 | u2
      · grind
      · grind
    · have : m ≤ v1 := by
        apply Rat.not_lt.mp
        intro y
        exact h ⟨y, by grind⟩
      rcases u1 with u1 | u1
      · grind
      · grind
  · have t2 : 1 ≤ tallOf W much k := by grind
    unfold share
    exact ⟨Rat.le_trans (shareAt_le1 p1 p2) t2, Rat.le_trans (shareAt_le1 p1 p2) t2⟩
def SubL (A B : List Int) : Prop := ∀ p ∈ A, p ∈ B
theorem ends_sub {W : Wd} (G : GoodW W) {much : Rat} (h0 : 0 < much) {R : List Rat} (T : TurnsAre W much R) {a b : Rat} (nx : Next R a b) : SubL (leftOf W much (amid a b)) (leftOf W much a) ∧ SubL (leftOf W much (amid a b)) (leftOf W much b) := by
  obtain ⟨m1, m2, m3⟩ := left_all G (amid a b) h0
  refine ⟨fun p hp => (left_all G a h0).2.2 _ m1 (fun k hk => ?_) p hp, fun p hp => (left_all G b h0).2.2 _ m1 (fun k hk => ?_) p hp⟩
  · exact (key_ends G h0 T nx (sides_good m1 hk) (m2 k hk)).1
  · exact (key_ends G h0 T nx (sides_good m1 hk) (m2 k hk)).2
/-! ### the rows, each leaning on the next -/
structure Chain (acc : List Row) : Prop where
  own : ∀ r ∈ acc, SubL r.2.2 r.2.1
  next : ∀ i r s, acc[i]? = some r → acc[i + 1]? = some s → SubL r.2.2 s.2.1
theorem lastB_snoc (acc : List Row) (r : Row) : lastB (acc ++ [r]) = r.2.2 := by
  unfold lastB
  simp
theorem last_is {acc : List Row} {i : Nat} {r : Row} (h : acc[i]? = some r) (e : acc.length = i + 1) : lastB acc = r.2.2 := by
  unfold lastB
  rw [List.getLast?_eq_getElem?, e, Nat.add_sub_cancel, h]
  rfl
theorem rowAdd_chain {acc : List Row} {r : Row} (C : Chain acc) (l : acc ≠ [] → SubL (lastB acc) r.2.1) (o : SubL r.2.2 r.2.1) : Chain (rowAdd acc r) ∧ rowAdd acc r ≠ [] ∧ lastB (rowAdd acc r) = r.2.2 := by
  unfold rowAdd
  split
  · refine ⟨⟨fun s hs => ?_, fun i s t hs ht => ?_⟩, by simp, lastB_snoc _ _⟩
    · rcases List.mem_append.mp hs with hs | hs
      · exact C.own s hs
      · rw [List.mem_singleton.mp hs]
        exact o
    · by_cases c : i + 1 < acc.length
      · rw [List.getElem?_append_left (by omega)] at hs
        rw [List.getElem?_append_left c] at ht
        exact C.next i s t hs ht
      · have hi := (List.getElem?_eq_some_iff.mp ht).1
        rw [List.length_append, List.length_singleton] at hi
        have e : acc.length = i + 1 := by omega
        rw [List.getElem?_append_left (by omega)] at hs
        rw [List.getElem?_append_right (by omega), e, Nat.sub_self] at ht
        have : r = t := by simpa using ht
        subst this
        rw [← last_is hs e]
        exact l (fun z => by rw [z] at e; simp at e)
  · rename_i c
    have c1 : acc ≠ [] := fun z => c (.inl z)
    have c2 : r.2.1 = lastB acc ∧ r.2.2 = lastB acc := by
      apply Classical.byContradiction
      intro z
      exact c (.inr z)
    exact ⟨C, c1, c2.2.symm⟩
theorem rows_chain {W : Wd} (G : GoodW W) {much : Rat} (h0 : 0 < much) {R : List Rat} (T : TurnsAre W much R) :
    Chain (rowsOf (leftOf W much) R) ∧ (rowsOf (leftOf W much) R ≠ [] → SubL (lastB (rowsOf (leftOf W much) R)) (leftOf W much (endOf R))) := by
  have key : ∀ i, i + 1 ≤ R.length → let acc := (((R.zip (R.drop 1)).take i).map (rowAt (leftOf W much))).foldl rowAdd []
      Chain acc ∧ ∀ a, R[i]? = some a → acc ≠ [] → SubL (lastB acc) (leftOf W much a) := by
    intro i
    induction i with
    | zero =>
      intro _
      refine ⟨⟨fun r hr => by simp at hr, fun i r s hr => by simp at hr⟩, fun a _ h => absurd rfl h⟩
    | succ i ih =>
      intro hi
      obtain ⟨i1, i2⟩ := ih (by omega)
      obtain ⟨a, ha⟩ : ∃ a, R[i]? = some a := ⟨R[i], List.getElem?_eq_getElem (by omega)⟩
      obtain ⟨b, hb⟩ : ∃ b, R[i + 1]? = some b := ⟨R[i + 1], List.getElem?_eq_getElem (by omega)⟩
      have hz : (R.zip (R.drop 1))[i]? = some (a, b) := by
        rw [List.getElem?_zip_eq_some]
        refine ⟨ha, ?_⟩
        rw [List.getElem?_drop, Nat.add_comm]
        exact hb
      have nx := next_of T.1 ha hb
      obtain ⟨e1, e2⟩ := ends_sub G h0 T nx
      have et : (((R.zip (R.drop 1)).take (i + 1)).map (rowAt (leftOf W much))).foldl rowAdd [] = rowAdd ((((R.zip (R.drop 1)).take i).map (rowAt (leftOf W much))).foldl rowAdd []) (a, leftOf W much a, leftOf W much (amid a b)) := by
        rw [List.take_add_one, hz, List.map_append, List.foldl_append]
        rfl
      dsimp only at i1 i2 ⊢
      rw [et]
      obtain ⟨j1, j2, j3⟩ := rowAdd_chain (r := (a, leftOf W much a, leftOf W much (amid a b))) i1 (i2 a ha) e1
      refine ⟨j1, fun b' hb' _ => ?_⟩
      rw [hb] at hb'
      cases hb'
      rw [j3]
      exact e2
  have ne := turns_ne T
  have hl : 0 < R.length := List.length_pos_iff.mpr ne
  have k := key (R.length - 1) (by omega)
  have et : (R.zip (R.drop 1)).take (R.length - 1) = R.zip (R.drop 1) := by
    apply List.take_of_length_le
    rw [List.length_zip, List.length_drop]
    omega
  dsimp only at k
  rw [et] at k
  refine ⟨k.1, fun h => k.2 _ ?_ h⟩
  unfold endOf
  rw [List.getLast?_eq_getElem?]
  have : R[R.length - 1]? = some (R[R.length - 1]'(by omega)) := List.getElem?_eq_getElem (by omega)
  rw [this]
  rfl
end PF
end
section
set_option maxHeartbeats 4000000
set_option exponentiation.threshold 20000
namespace PF
open PySem L2
def spLawDue (K : PySem.W.Frag) : Sp := fun vs H Q _ => ∃ (wv : V) (sd : Addr) (m : V) (W : Wd) (much : Rat), vs = [wv, .ref sd, m] ∧ WLS H wv W ∧ W.ss.length ≤ 4 ∧ GoodW W ∧ FMap kyK (Fr K) H sd (keys W.ss.length) (spare W) ∧ Fr K H m much ∧ Bd 430 much ∧ 0 < much ∧
  ∀ H' p R, Same H H' → TurnsAre W much R → R.length ≤ 20000 → MapAt K H' p (rowsOf (leftOf W much) R) (endOf R) (leftOf W much (endOf R)) → Q (.ref p) H'
section
variable {P : Program} {w : World} {K : PySem.W.Frag} {mg : Str → Option Value} {base : Heap} {aN aO : Addr} {tL tM tP : Tok} {CPlank CLoads : Addr}
abbrev s_law_due : Stmt := topS 75
abbrev n_law_due : List Str := ["_law_world_here", "_law_spares_here", "_law_much", "_law_spots", "_law_found", "_law_here", "_law_there", "_law_row"]
theorem sc_law_due : FnScope n_law_due ["_law_world_here", "_law_spares_here", "_law_much"] (defScope s_law_due) := ⟨rfl, rfl, rfl, by decide +kernel, rfl, by decide +kernel, by decide +kernel⟩
theorem ok_law_due {f : Addr} {fd : FuncData} (F : Fun K "_law_due" "_law_due" s_law_due f fd) (T : Txt K mg aN aO tL tM tP) (G_law_turns : Fn P w K mg base 3 "_law_turns" ["_law_world_here", "_law_spares_here", "_law_much"] (spLawTurns K)) (G_law_at : Fn P w K mg base 4 "_law_at" ["_law_world_here", "_law_spares_here", "_law_much", "_law_spot"] (spLawAt K)) (G_law_amid : Fn P w K mg base 3 "_law_amid" ["_law_one", "_law_other"] (spAmid K)) : FnOk P w K mg base CX0 5 f fd ["_law_world_here", "_law_spares_here", "_law_much"] (spLawDue K) := by
  have sc := sc_law_due
  refine F.ok sc (fun vs H Q E h => ?_) (fun cdv A outer s H vs Q E hr h => ?_)
  · (repeat (rcases h with ⟨_, h⟩))
    subst_vars
    rfl
  · obtain ⟨wv, sd, m, W, much, rfl, WL, hn, GW, SP, hm, hbm, h0, k⟩ := h
    refine ⟨_, (pss_cons (ps_set (i := 3) sc.nd rfl (Or.inl rfl) (pe_fn G_law_turns hr (pa_cons (pv 0) (pa_cons (pv 1) (pa_cons (pv 2) pa_nil)))))
 (pss_cons (ps_set (i := 4) sc.nd rfl (Or.inl rfl) (pe_lst pa_nil))
 (pss_cons (ps_for PassesOwn.never rfl (pi_zip (by rfl) T.bzip (pa_cons (pv 3) (pa_cons (pe_slice (slL K) (pv 3) (po_some pe_int) po_none) pa_nil))) (pg_tup rfl (pgs_cons (pg_name (i := 5) sc.nd rfl (Or.inl rfl)) (pgs_cons (pg_name (i := 6) sc.nd rfl (Or.inl rfl)) pgs_nil)))
 (pss_cons (ps_set (i := 7) sc.nd rfl (Or.inl rfl) (pe_tup (pa_cons (pv 5) (pa_cons (pe_fn G_law_at hr (pa_cons (pv 0) (pa_cons (pv 1) (pa_cons (pv 2) (pa_cons (pv 5) pa_nil))))) (pa_cons (pe_fn G_law_at hr (pa_cons (pv 0) (pa_cons (pv 1) (pa_cons (pv 2) (pa_cons (pe_fn G_law_amid hr (pa_cons (pv 5) (pa_cons (pv 6) pa_nil))) pa_nil))))) pa_nil)))))
 (pss_one (ps_if (PW.pt (pw_or (pt_cmpR (oEqD K (hru hr)) (pv 4) (pe_lst pa_nil) (nomark _)) (pw_or (pt_cmpR (oNeD K (hru hr)) (pe_ix (ixT K) (pv 7) pe_int (fun _ _ => rfl)) (pe_ix (ixT K) (pe_ix (ixL K) (pv 4) (pe_un un_neg pe_int) (fun _ _ => rfl)) pe_int (fun _ _ => rfl)) (nomark _)) (pw_or1 (pt_cmpR (oNeD K (hru hr)) (pe_ix (ixT K) (pv 7) pe_int (fun _ _ => rfl)) (pe_ix (ixT K) (pe_ix (ixL K) (pv 4) (pe_un un_neg pe_int) (fun _ _ => rfl)) pe_int (fun _ _ => rfl)) (nomark _))))))
 (pss_one (ps_expr (pe_bm PySem.F.plainAttrs_list PySem.F.slot_list_append PySem.F.type_list_append mt_append (pv 4) (pa_cons (pv 7) pa_nil))))
 pss_nil))))
 (pss_one (ps_ret (pe_op op_cat (pv 4) (pe_lst (pa_cons (pe_tup (pa_cons (pe_ix (ixL K) (pv 3) (pe_un un_neg pe_int) (fun _ _ => rfl)) (pa_cons (pe_fn G_law_at hr (pa_cons (pv 0) (pa_cons (pv 1) (pa_cons (pv 2) (pa_cons (pe_ix (ixL K) (pv 3) (pe_un un_neg pe_int) (fun _ _ => rfl)) pa_nil))))) (pa_cons pe_non pa_nil)))) pa_nil)))))))), ?_⟩
    refine ⟨_, rfl, _, rfl, _, rfl, wv, sd, m, W, much, rfl, WL, hn, GW, SP, hm, hbm, h0, fun H3 sl xs R s03 hsl hxs TR hRl => ?_⟩
    have WL3 := WL.mono s03
    have SP3 := SP.mono (fun _ _ _ _ u h => h.mono u) s03
    have hm3 := hm.mono s03.tu
    have hR := fun q hq => turn_bd GW hbm h0 q ((TR.2 q).mp hq)
    refine ⟨by show 0 ≤ sizeLine; decide, fun fo nfo => ?_⟩
    have s4 : Same H3 (upd H3 fo (.lst [])) := Same.new nfo
    refine ⟨_, rfl, _, rfl, _, rfl, sl, xs, rfl, SqL.of (s4 _ _ hsl), fun p2 np2 => ?_⟩
    rw [show cutV xs (some 1) none = xs.drop 1 from cut_from xs 1]
    have s5 : Same (upd H3 fo (.lst [])) (upd (upd H3 fo (.lst [])) p2 (.lst (xs.drop 1))) := Same.new np2
    have npf : p2 ≠ fo := Ne.symm (ne_of_none upd_same np2)
    have lR := pr_len hxs
    refine ⟨sl, p2, xs, xs.drop 1, rfl, SqL.of ((s4.trans s5) _ _ hsl), SqL.of upd_same, for_it (walk_zip rfl) (fun i σ H' => (∃ c1 c2 c3, σ = [some wv, some (.ref sd), some m, some (.ref sl), some (.ref fo), c1, c2, c3]) ∧ Same H3 H' ∧ H' p2 = some (.lst (xs.drop 1)) ∧
      ∃ fs, H' fo = some (.lst fs) ∧ Paired (RowN K H') fs ((((R.zip (R.drop 1)).take i).map (rowAt (leftOf W much))).foldl rowAdd []) ∧ fs.length ≤ i) ⟨⟨_, _, _, rfl⟩, s4.trans s5, upd_same, [], by rw [upd_ne (Ne.symm npf)]; exact upd_same, .nil, Nat.le_refl _⟩ (fun i σ H' _ p => ⟨SqL.of (p.2.1 _ _ hsl), SqL.of p.2.2.1⟩) ?_ ?_⟩
    · rintro i x σ H5 H6 hi ⟨⟨c1, c2, c3, rfl⟩, s35, hp2, fs, hfo, hfs, hfl⟩ ⟨T2, x1, x2, rfl, nT, rfl, e1, e2⟩
      have sT : Same H5 (upd H5 T2 (.tup [x1, x2])) := Same.new nT
      have hT : upd H5 T2 (.tup [x1, x2]) T2 = some (.tup [x1, x2]) := upd_same
      generalize upd H5 T2 (.tup [x1, x2]) = H6 at sT hT ⊢
      have e2' : xs[i + 1]? = some x2 := by
        have q : (xs.drop 1)[i]? = some x2 := e2
        rw [List.getElem?_drop, Nat.add_comm] at q
        exact q
      obtain ⟨a, ha, fa⟩ := pr_get' hxs e1
      obtain ⟨b, hb, fb⟩ := pr_get' hxs e2'
      have s36 := s35.trans sT
      have fa6 := fa.mono s36.tu
      have fb6 := fb.mono s36.tu
      have ba := hR a (List.mem_of_getElem? ha)
      have bb := hR b (List.mem_of_getElem? hb)
      have hzip : (R.zip (R.drop 1))[i]? = some (a, b) := by
        rw [List.getElem?_zip_eq_some]
        refine ⟨ha, ?_⟩
        rw [List.getElem?_drop, Nat.add_comm]
        exact hb
      refine ⟨T2, _, rfl, SqT.of hT, rfl, _, _, rfl, _, _, rfl, rfl, ?_⟩
      refine ⟨_, rfl, _, rfl, _, rfl, _, rfl, _, rfl, wv, sd, m, x1, W, much, a, 2243, rfl, WL3.mono s36, hn, GW, SP3.mono (fun _ _ _ _ u h => h.mono u) s36, hm3.mono s36.tu, hbm, fa6, ba, by decide, fun H7 v7 L7 s7 ln7 g7 => ?_⟩
      have eL7 := greatest_left GW h0 g7
      subst eL7
      have s37 := s36.trans s7
      refine ⟨_, rfl, _, rfl, _, rfl, _, rfl, _, rfl, x1, x2, a, b, 2243, rfl, fa6.mono s7.tu, fb6.mono s7.tu, ba, bb, by decide, fun H8 v8 s8 f8 => ?_⟩
      have s38 := s37.trans s8
      refine ⟨wv, sd, m, v8, W, much, amid a b, 4489, rfl, WL3.mono s38, hn, GW, SP3.mono (fun _ _ _ _ u h => h.mono u) s38, hm3.mono s38.tu, hbm, f8, (amid_bd ba bb).mono (by decide), by decide, fun H9 v9 L9 s9 ln9 g9 => ?_⟩
      have eL9 := greatest_left GW h0 g9
      subst eL9
      have s39 := s38.trans s9
      have s59 := ((sT.trans s7).trans s8).trans s9
      refine ⟨(by show 3 ≤ sizeLine; decide), fun rt nrt => ?_⟩
      have s10 : Same H9 (upd H9 rt (.tup [x1, v7, v9])) := Same.new nrt
      have hrt : upd H9 rt (.tup [x1, v7, v9]) rt = some (.tup [x1, v7, v9]) := upd_same
      generalize upd H9 rt (.tup [x1, v7, v9]) = H10 at s10 hrt ⊢
      have s510 := s59.trans s10
      have s310 := s39.trans s10
      have fa10 := fa.mono s310.tu
      have ln7' := ln7.mono ((s8.trans s9).trans s10).tu
      have ln9' := ln9.mono s10.tu
      have hfo10 := s510 _ _ hfo
      have hp210 := s510 _ _ hp2
      have hfs10 := pr_mono hfs fun _ _ h => h.mono s510.tu
      have ez : (R.zip (R.drop 1)).take (i + 1) = (R.zip (R.drop 1)).take i ++ [(a, b)] := by rw [List.take_add_one, hzip]; rfl
      generalize hacc : (((R.zip (R.drop 1)).take i).map (rowAt (leftOf W much))).foldl rowAdd [] = acc at hfs10
      have er : (((R.zip (R.drop 1)).take (i + 1)).map (rowAt (leftOf W much))).foldl rowAdd [] = rowAdd acc (a, leftOf W much a, leftOf W much (amid a b)) := by
        rw [ez, List.map_append, List.foldl_append, hacc]
        rfl
      rw [er]
      have put : ∀ Hx, Same H10 Hx → (acc = [] ∨ ¬ (leftOf W much a = lastB acc ∧ leftOf W much (amid a b) = lastB acc)) → Same H3 (upd Hx fo (.lst (fs ++ [.ref rt]))) ∧ upd Hx fo (.lst (fs ++ [.ref rt])) p2 = some (.lst (xs.drop 1)) ∧ ∃ gs, upd Hx fo (.lst (fs ++ [.ref rt])) fo = some (.lst gs) ∧ Paired (RowN K (upd Hx fo (.lst (fs ++ [.ref rt])))) gs (rowAdd acc (a, leftOf W much a, leftOf W much (amid a b))) ∧ gs.length ≤ i + 1 := fun Hx sx c => by
        have tu := Tu.upd (o := .lst (fs ++ [.ref rt])) (sx _ _ hfo10) trivial
        refine ⟨(s310.trans sx).mut nfo, by rw [upd_ne npf]; exact sx _ _ hp210, fs ++ [.ref rt], upd_same, ?_, by rw [List.length_append, List.length_singleton]; omega⟩
        rw [show rowAdd acc (a, leftOf W much a, leftOf W much (amid a b)) = acc ++ [(a, leftOf W much a, leftOf W much (amid a b))] from if_pos c]
        have tt := sx.tu.trans tu
        exact pr_snoc ⟨rt, x1, v7, v9, rfl, tt.t _ _ hrt, fa10.mono tt, ln7'.mono tt, ln9'.mono tt⟩ (pr_mono hfs10 fun _ _ h => h.mono tt)
      refine ⟨_, rfl, by show 0 ≤ sizeLine; decide, fun ne nne => ?_⟩
      have s11 : Same H10 (upd H10 ne (.lst [])) := Same.new nne
      have hne : upd H10 ne (.lst []) ne = some (.lst []) := upd_same
      generalize upd H10 ne (.lst []) = H11 at s11 hne ⊢
      have hfo11 := s11 _ _ hfo10
      have hfs11 := pr_mono hfs10 fun _ _ h => h.mono s11.tu
      refine ⟨.list (acc.map rowD), .list [], .lst (SqL.of hfo11) (dpA_rows hfs11), .lst (xs := []) (SqL.of hne) .nil, rows_sh _, nil_sh, _, rfl, ?_⟩
      rw [rows_nil]
      refine ifB (fun c => ?_) (fun c => ?_)
      · exact ⟨_, rfl, .inl ⟨rfl, _, SqL.of hfo11⟩, _, rfl, fo, _, _, rfl, rfl, hfo11, szl (by omega), ⟨_, _, _, rfl⟩, put _ s11 (.inl (of_decide_eq_true c))⟩
      · have c1 : acc ≠ [] := of_decide_eq_false c
        obtain ⟨fs', y, acc', r, efs, eacc, hyr⟩ := pr_last hfs11 c1
        obtain ⟨ty, ya, yb, yc, rfl, hty, _, _, hyc⟩ := id hyr
        have elb : lastB acc = r.2.2 := by
          unfold lastB
          rw [eacc]
          simp
        have hfo11' : H11 fo = some (.lst (fs' ++ [.ref ty])) := by
          rw [← efs]
          exact hfo11
        have ln711 := ln7'.mono s11.tu
        have ln911 := ln9'.mono s11.tu
        have hrt11 := s11 _ _ hrt
        refine ⟨_, rfl, _, _, _, _, rfl, rfl, SqT.of hrt11, rfl, _, rfl, _, rfl, _, _, _, _, rfl, rfl, SqL.of hfo11', atI_last _ _, _, _, _, _, rfl, rfl, SqT.of hty, rfl, lotD (leftOf W much a), lotD r.2.2, lot_dp ln711.at, lot_dp hyc.at, lotD_sh _, lotD_sh _, _, rfl, ?_⟩
        rw [lotD_eq]
        refine ifB (fun c2 => ?_) (fun c2 => ?_)
        · refine ⟨_, rfl, .inl ⟨rfl, _, SqL.of hfo11⟩, _, rfl, fo, _, _, rfl, rfl, hfo11, szl (by omega), ⟨_, _, _, rfl⟩, put _ s11 (.inr fun z => ?_)⟩
          rw [elb] at z
          simp [z.1] at c2
        · have c3 : leftOf W much a = r.2.2 := by simpa using c2
          refine ⟨_, rfl, _, _, _, _, rfl, rfl, SqT.of hrt11, rfl, _, rfl, _, rfl, _, _, _, _, rfl, rfl, SqL.of hfo11', atI_last _ _, _, _, _, _, rfl, rfl, SqT.of hty, rfl, lotD (leftOf W much (amid a b)), lotD r.2.2, lot_dp ln911.at, lot_dp hyc.at, lotD_sh _, lotD_sh _, _, rfl, ?_⟩
          rw [lotD_eq]
          refine ifB (fun c4 => ?_) (fun c4 => ?_)
          · refine ⟨_, rfl, .inl ⟨rfl, _, SqL.of hfo11⟩, _, rfl, fo, _, _, rfl, rfl, hfo11, szl (by omega), ⟨_, _, _, rfl⟩, put _ s11 (.inr fun z => ?_)⟩
            rw [elb] at z
            simp [z.2] at c4
          · have c5 : leftOf W much (amid a b) = r.2.2 := by simpa using c4
            refine ⟨⟨_, _, _, rfl⟩, s310.trans s11, s11 _ _ hp210, fs, hfo11, ?_, by omega⟩
            rw [show rowAdd acc (a, leftOf W much a, leftOf W much (amid a b)) = acc from if_neg (fun z => z.elim c1 (fun h => h (by rw [elb]; exact ⟨c3, c5⟩)))]
            exact hfs11
    · rintro σ H5 ⟨⟨c1, c2, c3, rfl⟩, s35, hp2, fs, hfo, hfs, hfl⟩
      have ez : (R.zip (R.drop 1)).take (min xs.length (xs.drop 1).length) = R.zip (R.drop 1) := by
        rw [List.take_of_length_le]
        rw [List.length_zip, List.length_drop, List.length_drop, lR]
        exact Nat.le_refl _
      rw [ez] at hfs
      obtain ⟨xs', xe, R', re, exs, eR, hxe⟩ := pr_last hxs (turns_ne TR)
      have eEnd : endOf R = re := by
        unfold endOf
        rw [eR]
        simp
      have bre := hR re (by rw [eR]; simp)
      have hsl5' : H5 sl = some (.lst (xs' ++ [xe])) := by
        rw [← exs]
        exact s35 _ _ hsl
      have fe5 := hxe.mono s35.tu
      refine ⟨_, rfl, _, rfl, _, rfl, _, _, _, _, rfl, rfl, SqL.of hsl5', atI_last _ _, ?_⟩
      refine ⟨_, rfl, _, rfl, _, rfl, _, rfl, _, rfl, _, _, _, _, rfl, rfl, SqL.of hsl5', atI_last _ _, wv, sd, m, xe, W, much, re, 2243, rfl, WL3.mono s35, hn, GW, SP3.mono (fun _ _ _ _ u h => h.mono u) s35, hm3.mono s35.tu, hbm, fe5, bre, by decide, fun H6 v6 L6 s6 ln6 g6 => ?_⟩
      have eL6 := greatest_left GW h0 g6
      subst eL6
      have hfo6 := s6 _ _ hfo
      refine ⟨(by show 3 ≤ sizeLine; decide), fun te nte => ?_⟩
      have s7 : Same H6 (upd H6 te (.tup [xe, v6, .non])) := Same.new nte
      have hte : upd H6 te (.tup [xe, v6, .non]) te = some (.tup [xe, v6, .non]) := upd_same
      generalize upd H6 te (.tup [xe, v6, .non]) = H7 at s7 hte ⊢
      refine ⟨(by show 1 ≤ sizeLine; decide), fun l1 nl1 => ?_⟩
      have s8 : Same H7 (upd H7 l1 (.lst [.ref te])) := Same.new nl1
      have hl1 : upd H7 l1 (.lst [.ref te]) l1 = some (.lst [.ref te]) := upd_same
      generalize upd H7 l1 (.lst [.ref te]) = H8 at s8 hl1 ⊢
      have s68 := s7.trans s8
      have hd1 : (xs.drop 1).length ≤ xs.length := by rw [List.length_drop]; omega
      refine ⟨fo, l1, fs, [.ref te], rfl, rfl, s68 _ _ hfo6, hl1, szL (n := fs.length + 1) (by omega), fun p np => ?_⟩
      have s9 : Same H8 (upd H8 p (.lst (fs ++ [.ref te]))) := Same.new np
      have s69 := s68.trans s9
      refine k _ p R (((s03.trans s35).trans s6).trans s69) TR hRl ⟨fs, .ref te, upd_same, pr_mono hfs fun _ _ h => h.mono (s6.trans s69).tu, te, xe, v6, rfl, (s8.trans s9) _ _ hte, ?_, ?_⟩
      · rw [eEnd]
        exact fe5.mono (s6.trans s69).tu
      · rw [eEnd]
        exact ln6.mono s69.tu
end
end PF
end
section
set_option maxHeartbeats 4000000
set_option exponentiation.threshold 20000
namespace PF
open PySem L2
theorem inV_ints (p : Int) (L : List Int) : inV (.int p) (L.map V.int) = decide (p ∈ L) := by
  unfold inV
  rw [List.any_map, Bool.eq_iff_iff, List.any_eq_true, decide_eq_true_iff]
  constructor
  · rintro ⟨q, hq, e⟩
    have : q = p := by simpa [eqV] using e
    rw [← this]
    exact hq
  · intro h
    exact ⟨p, h, by simp [eqV]⟩
theorem ints_flat (L : List Int) : (L.map V.int).all flatV = true := by
  rw [List.all_map, List.all_eq_true]
  exact fun _ _ => rfl
theorem nexts {K : PySem.W.Frag} {H : Hp} {xs : List V} {ve : V} {rows : List Row} {x : Rat} {L : List Int} (hxs : Paired (RowN K H) xs rows) (hve : EndN K H ve x L) (C : Chain rows) (last : rows ≠ [] → SubL (lastB rows) L) {i : Nat} {x1 x2 : V} (e1 : (xs ++ [ve])[i]? = some x1) (e2 : (xs ++ [ve])[i + 1]? = some x2) :
    ∃ t1 a1 b1 c1 t2 a2 b2 c2 A M B, x1 = .ref t1 ∧ H t1 = some (.tup [a1, b1, c1]) ∧ LotN H b1 A ∧ LotN H c1 M ∧ x2 = .ref t2 ∧ H t2 = some (.tup [a2, b2, c2]) ∧ LotN H b2 B ∧ SubL M A ∧ SubL M B := by
  have lx := pr_len hxs
  have hi := (List.getElem?_eq_some_iff.mp e2).1
  rw [List.length_append, List.length_singleton] at hi
  rw [List.getElem?_append_left (by omega)] at e1
  obtain ⟨r, hr, ⟨t1, a1, b1, c1, rfl, h1, _, hb1, hc1⟩⟩ := pr_get' hxs e1
  have own := C.own r (List.mem_of_getElem? hr)
  by_cases c : i + 1 < xs.length
  · rw [List.getElem?_append_left c] at e2
    obtain ⟨s, hs, ⟨t2, a2, b2, c2, rfl, h2, _, hb2, _⟩⟩ := pr_get' hxs e2
    exact ⟨t1, a1, b1, c1, t2, a2, b2, c2, _, _, _, rfl, h1, hb1, hc1, rfl, h2, hb2, own, C.next i r s hr hs⟩
  · have e : xs.length = i + 1 := by omega
    rw [List.getElem?_append_right (by omega), e, Nat.sub_self] at e2
    have : ve = x2 := by simpa using e2
    subst this
    obtain ⟨t2, a2, b2, rfl, h2, _, hb2⟩ := hve
    refine ⟨t1, a1, b1, c1, t2, a2, b2, .non, _, _, _, rfl, h1, hb1, hc1, rfl, h2, hb2, own, ?_⟩
    have el : lastB rows = r.2.2 := last_is hr (by omega)
    rw [← el]
    exact last fun z => by
      rw [z] at hr
      simp at hr
def spSides (K : PySem.W.Frag) : Sp := fun vs H Q _ => ∃ (p : Addr) (rows : List Row) (x : Rat) (L : List Int), vs = [.ref p] ∧ MapAt K H p rows x L ∧ Chain rows ∧ (rows ≠ [] → SubL (lastB rows) L) ∧ ∀ H', Same H H' → Q (.bl true) H'
section
variable {P : Program} {w : World} {K : PySem.W.Frag} {mg : Str → Option Value} {base : Heap} {aN aO : Addr} {tL tM tP : Tok} {CPlank CLoads : Addr}
abbrev s_law_sides_right : Stmt := topS 76
abbrev n_law_sides_right : List Str := ["_law_due_here", "_law_one", "_law_other", "_law_prop"]
theorem sc_law_sides_right : FnScope n_law_sides_right ["_law_due_here"] (defScope s_law_sides_right) := ⟨rfl, rfl, rfl, by decide +kernel, rfl, by decide +kernel, by decide +kernel⟩
theorem ok_law_sides_right {f : Addr} {fd : FuncData} (F : Fun K "_law_sides_right" "_law_sides_right" s_law_sides_right f fd) (T : Txt K mg aN aO tL tM tP)  : FnOk P w K mg base CX0 1 f fd ["_law_due_here"] (spSides K) := by
  have sc := sc_law_sides_right
  refine F.ok sc (fun vs H Q E h => ?_) (fun cdv A outer s H vs Q E hr h => ?_)
  · (repeat (rcases h with ⟨_, h⟩))
    subst_vars
    rfl
  · obtain ⟨p, rows, x, L, rfl, MA, C, last, k⟩ := h
    obtain ⟨xs, ve, hp, hxs, hve⟩ := MA
    refine ⟨_, (pss_cons (ps_for PassesOwn.never rfl (pi_zip (by rfl) T.bzip (pa_cons (pv 0) (pa_cons (pe_slice (slL K) (pv 0) (po_some pe_int) po_none) pa_nil))) (pg_tup rfl (pgs_cons (pg_name (i := 1) sc.nd rfl (Or.inl rfl)) (pgs_cons (pg_name (i := 2) sc.nd rfl (Or.inl rfl)) pgs_nil)))
 (pss_one (ps_for PassesOwn.never rfl (piT K (pe_ix (ixT K) (pv 1) pe_int (fun _ _ => rfl))) (pg_name (i := 3) sc.nd rfl (Or.inl rfl))
 (pss_one (ps_if (PW.pt (pw_or (pt_cmpR (oNotIn K) (pv 3) (pe_ix (ixT K) (pv 1) pe_int (fun _ _ => rfl)) (by rfl)) (pw_or1 (pt_cmpR (oNotIn K) (pv 3) (pe_ix (ixT K) (pv 2) pe_int (fun _ _ => rfl)) (by rfl)))))
 (pss_one (ps_ret pe_bl))
 pss_nil)))))
 (pss_one (ps_ret pe_bl))), ?_⟩
    refine ⟨_, rfl, _, rfl, _, rfl, p, _, rfl, SqL.of hp, fun p2 np2 => ?_⟩
    rw [show cutV (xs ++ [ve]) (some 1) none = (xs ++ [ve]).drop 1 from cut_from _ 1]
    have s1 : Same H (upd H p2 (.lst ((xs ++ [ve]).drop 1))) := Same.new np2
    have hp2 : upd H p2 (.lst ((xs ++ [ve]).drop 1)) p2 = some (.lst ((xs ++ [ve]).drop 1)) := upd_same
    generalize upd H p2 (.lst ((xs ++ [ve]).drop 1)) = H1 at s1 hp2 ⊢
    refine ⟨p, p2, _, _, rfl, SqL.of (s1 _ _ hp), SqL.of hp2, for_it (walk_zip rfl) (fun i σ H' => (∃ c1 c2 c3, σ = [some (.ref p), c1, c2, c3]) ∧ Same H1 H') ⟨⟨_, _, _, rfl⟩, Same.refl _⟩ (fun i σ H' _ q => ⟨SqL.of (q.2 _ _ (s1 _ _ hp)), SqL.of (q.2 _ _ hp2)⟩) ?_ ?_⟩
    · rintro i y σ H2 H3 hi ⟨⟨c1, c2, c3, rfl⟩, s2⟩ ⟨T2, x1, x2, rfl, nT, rfl, e1, e2⟩
      have e2' : (xs ++ [ve])[i + 1]? = some x2 := by
        have q : ((xs ++ [ve]).drop 1)[i]? = some x2 := e2
        rw [List.getElem?_drop, Nat.add_comm] at q
        exact q
      obtain ⟨t1, a1, b1, d1, t2, a2, b2, d2, A, M, B, rfl, h1, hb1, hc1, rfl, h2, hb2, sA, sB⟩ := nexts hxs hve C last e1 e2'
      have s3 := (s1.trans s2).news (o := .tup [.ref t1, .ref t2]) nT
      have s13 := s2.news (o := .tup [.ref t1, .ref t2]) nT
      have hT : upd H2 T2 (.tup [.ref t1, .ref t2]) T2 = some (.tup [.ref t1, .ref t2]) := upd_same
      generalize upd H2 T2 (.tup [.ref t1, .ref t2]) = H3 at s3 s13 hT ⊢
      obtain ⟨cl, rfl, hcl⟩ := hc1
      obtain ⟨bl, rfl, hbl⟩ := hb1
      obtain ⟨ol, rfl, hol⟩ := hb2
      refine ⟨T2, _, rfl, SqT.of hT, rfl, _, _, rfl, _, _, rfl, rfl, ?_⟩
      refine ⟨_, rfl, _, _, _, _, rfl, rfl, SqT.of (s3 _ _ h1), rfl, cl, rfl, ⟨_, SqT.of (s3 _ _ hcl)⟩, for_it walk_tup (fun j σ H' => (∃ c3, σ = [some (.ref p), some (.ref t1), some (.ref t2), c3]) ∧ Same H1 H' ∧ Same H H') ⟨⟨_, rfl⟩, s13, s3⟩ (fun i σ H' _ q => SqT.of (q.2.2 _ _ hcl)) ?_ ?_⟩
      · rintro j y σ H4 H5 hj ⟨⟨c3, rfl⟩, s14, s4⟩ ⟨rfl, hy⟩
        rw [List.getElem?_map] at hy
        obtain ⟨pr, hpr, rfl⟩ := Option.map_eq_some_iff.mp hy
        have mM := List.mem_of_getElem? hpr
        refine ⟨_, rfl, _, rfl, _, _, _, _, rfl, rfl, SqT.of (s4 _ _ h1), rfl, bl, _, rfl, .inr (SqT.of (s4 _ _ hbl)), rfl, ints_flat _, _, rfl, ?_⟩
        refine ifB (fun c => ?_) (fun c => ?_)
        · rw [inV_ints] at c
          simp at c
          exact absurd (sA pr mM) c
        · refine ⟨_, rfl, _, rfl, _, _, _, _, rfl, rfl, SqT.of (s4 _ _ h2), rfl, ol, _, rfl, .inr (SqT.of (s4 _ _ hol)), rfl, ints_flat _, _, rfl, ?_⟩
          refine ifB (fun c => ?_) (fun c => ?_)
          · rw [inV_ints] at c
            simp at c
            exact absurd (sB pr mM) c
          · exact ⟨⟨_, rfl⟩, s14, s4⟩
      · rintro σ H4 ⟨⟨c3, rfl⟩, s14, s4⟩
        exact ⟨⟨_, _, _, rfl⟩, s14⟩
    · rintro σ H2 ⟨⟨c1, c2, c3, rfl⟩, s2⟩
      exact k _ (s1.trans s2)
end
end PF
end
section
set_option maxHeartbeats 4000000
/-! The lots of a table, in their order: plain Lean. -/
namespace PF
theorem rowAdd_mem {acc : List Row} {r s : Row} (h : s ∈ rowAdd acc r) : s ∈ acc ∨ s = r := by
  unfold rowAdd at h
  split at h
  · rcases List.mem_append.mp h with h | h
    · exact .inl h
    · exact .inr (List.mem_singleton.mp h)
  · exact .inl h
theorem fold_mem : ∀ {l acc : List Row} {s : Row}, s ∈ l.foldl rowAdd acc → s ∈ acc ∨ s ∈ l
  | [], acc, s, h => .inl h
  | r :: l, acc, s, h => by
    rcases fold_mem (l := l) (acc := rowAdd acc r) h with h | h
    · rcases rowAdd_mem h with h | h
      · exact .inl h
      · exact .inr (h ▸ List.mem_cons_self)
    · exact .inr (List.mem_cons_of_mem _ h)
theorem rows_left {W : Wd} {much : Rat} {R : List Rat} {r : Row} (h : r ∈ rowsOf (leftOf W much) R) : (∃ x, r.2.1 = leftOf W much x) ∧ ∃ x, r.2.2 = leftOf W much x := by
  unfold rowsOf at h
  rcases fold_mem h with h | h
  · simp at h
  · obtain ⟨p, _, rfl⟩ := List.mem_map.mp h
    exact ⟨⟨_, rfl⟩, ⟨_, rfl⟩⟩
def lotsA (rows : List Row) (L : List Int) : List (List Int) := (rows.map (·.2.1) ++ [L]) ++ rows.map (·.2.2)
theorem lotsA_mem {rows : List Row} {L l : List Int} : l ∈ lotsA rows L ↔ l ∈ lotsIn rows L := by
  unfold lotsA lotsIn
  simp only [List.mem_append, List.mem_map, List.mem_flatMap, List.mem_singleton, List.mem_cons, List.not_mem_nil, or_false]
  constructor
  · rintro ((⟨r, h, rfl⟩ | h) | ⟨r, h, rfl⟩)
    · exact .inl ⟨r, h, .inl rfl⟩
    · exact .inr h
    · exact .inl ⟨r, h, .inr rfl⟩
  · rintro (⟨r, h, rfl | rfl⟩ | h)
    · exact .inl (.inl ⟨r, h, rfl⟩)
    · exact .inr ⟨r, h, rfl⟩
    · exact .inl (.inr h)
theorem lotsA_good {W : Wd} (G : GoodW W) {much : Rat} (h0 : 0 < much) {R : List Rat} : ∀ l ∈ lotsA (rowsOf (leftOf W much) R) (leftOf W much (endOf R)), GoodL W.ss.length l := fun l hl => by
  have g := fun x => (left_all G x h0).1
  unfold lotsA at hl
  simp only [List.mem_append, List.mem_map, List.mem_singleton] at hl
  rcases hl with (⟨r, h, rfl⟩ | rfl) | ⟨r, h, rfl⟩
  · obtain ⟨⟨x, e⟩, _⟩ := rows_left h
    rw [e]
    exact g x
  · exact g _
  · obtain ⟨_, ⟨x, e⟩⟩ := rows_left h
    rw [e]
    exact g x
theorem lots_few {n : Nat} (hn : n ≤ 4) {Ls : List (List Int)} (nd : Ls.Nodup) (g : ∀ l ∈ Ls, GoodL n l) : Ls.length ≤ 16 := by
  have hs : ∀ l ∈ Ls, l ∈ (List.range (2 ^ n)).map (bitsL n) := fun l hl => by
    obtain ⟨num, h1, h2⟩ := bits_all (g l hl)
    exact List.mem_map.mpr ⟨num, List.mem_range.mpr h1, h2⟩
  have := nd.length_le_of_subset hs
  rw [List.length_map, List.length_range] at this
  have := two_le hn
  omega
/-- the lots by their sizes, falling -/
def groups (n : Nat) (Ls : List (List Int)) (i : Nat) : List (List Int) := (List.range i).flatMap fun (j : Nat) => Ls.filter fun l => decide ((l.length : Int) = (n : Int) - (j : Int))
theorem groups_succ (n : Nat) (Ls : List (List Int)) (i : Nat) : groups n Ls (i + 1) = groups n Ls i ++ Ls.filter fun l => decide ((l.length : Int) = (n : Int) - (i : Int)) := by
  unfold groups
  rw [List.range_succ, List.flatMap_append]
  simp
theorem groups_mem {n : Nat} {Ls : List (List Int)} (g : ∀ l ∈ Ls, l.length ≤ n) {l : List Int} : l ∈ groups n Ls (n + 1) ↔ l ∈ Ls := by
  unfold groups
  rw [List.mem_flatMap]
  constructor
  · rintro ⟨j, _, h⟩
    exact (List.mem_filter.mp h).1
  · intro h
    have := g l h
    exact ⟨n - l.length, List.mem_range.mpr (by omega), List.mem_filter.mpr ⟨h, decide_eq_true (by omega)⟩⟩
theorem groups_sorted {n : Nat} {Ls : List (List Int)} (nd : Ls.Nodup) (pw : Ls.Pairwise fun a b => ¬ b < a) (i : Nat) : (groups n Ls i).Pairwise sizeLt := by
  unfold groups
  rw [List.pairwise_flatMap]
  refine ⟨fun j _ => ?_, ?_⟩
  · have both : Ls.Pairwise fun a b => a ≠ b ∧ ¬ b < a := (List.pairwise_and_iff).mpr ⟨nd, pw⟩
    refine List.Pairwise.imp_of_mem (fun {a b} ha hb h => ?_) (both.filter _)
    have la := of_decide_eq_true (List.mem_filter.mp ha).2
    have lb := of_decide_eq_true (List.mem_filter.mp hb).2
    rcases sizeLt_tri a b with q | q | q
    · exact q
    · exact absurd q h.1
    · unfold sizeLt at q
      rcases q with q | q
      · omega
      · exact absurd q.2 h.2
  · refine List.Pairwise.imp (R := fun a b : Nat => a < b) (fun {a b} hab => ?_) List.pairwise_lt_range
    intro x hx y hy
    have lx := of_decide_eq_true (List.mem_filter.mp hx).2
    have ly := of_decide_eq_true (List.mem_filter.mp hy).2
    exact .inl (by omega)
theorem turns_one {W : Wd} {much : Rat} {R S : List Rat} (h : TurnsAre W much R) (q : TurnsAre W much S) : R = S := rise_ext h.1 q.1 fun x => (h.2 x).trans (q.2 x).symm
end PF
end
section
set_option maxHeartbeats 4000000
set_option exponentiation.threshold 20000
namespace PF
open PySem L2
theorem hru66 {A : Around} {k : Nat} (hr : Room k A) : A.units + 66 < cLine := by
  have := hr.un
  omega
theorem cut_last (xs : List V) (v : V) : cutV (xs ++ [v]) none (some (-1)) = xs := by
  unfold cutV
  rw [HT.sIx_none, List.drop_zero, Nat.sub_zero]
  have : HT.sIx (xs ++ [v]).length (xs ++ [v]).length (some (-1)) = xs.length := by
    rw [List.length_append, List.length_singleton]
    show (if (-1 : Int) < 0 then ((-1 : Int) + ((xs.length + 1 : Nat) : Int)).toNat else min (-1 : Int).toNat (xs.length + 1)) = xs.length
    rw [if_pos (by decide)]
    omega
  rw [this]
  simp
/-! ### a table as data -/
def tabD (rows : List Row) (x : Rat) (L : List Int) : PyData := .list (rows.map rowD ++ [endD x L])
theorem tab_dp {K : PySem.W.Frag} {H : Hp} {p : Addr} {rows : List Row} {x : Rat} {L : List Int} (h : MapAt K H p rows x L) : Dp K H (.ref p) (tabD rows x L) := by
  obtain ⟨xs, ve, h1, h2, h3⟩ := h
  exact .lst (SqL.of h1) (dpA_app (dpA_rows h2) (.cons (end_dp h3) .nil))
theorem tab_mem (rows : List Row) (x : Rat) (L : List Int) : ∀ d ∈ rows.map rowD ++ [endD x L], PyData.canLay0 d = true ∧ PyData.depth d ≤ 2 := fun d hd => by
  rcases List.mem_append.mp hd with hd | hd
  · obtain ⟨r, _, rfl⟩ := List.mem_map.mp hd
    exact ⟨(rowD_can r).1, by rw [(rowD_can r).2]; omega⟩
  · rw [List.mem_singleton.mp hd]
    exact ⟨(endD_can x L).1, by rw [(endD_can x L).2]; omega⟩
theorem tab_sh (rows : List Row) (x : Rat) (L : List Int) : SeqAt.shaped (tabD rows x L) = true := lst_sh (tab_mem rows x L)
theorem lst_refl {ds : List PyData} (h : ∀ d ∈ ds, PyData.canLay0 d = true ∧ PyData.depth d ≤ 2) : PyData.eqv (.list ds) (.list ds) = true := by
  refine SeqAt.eqv_refl _ ?_
  rw [PyData.canLay0]
  exact (can_all h).1
theorem tab_eq (rows : List Row) (x : Rat) (L : List Int) : PyData.eqv (tabD rows x L) (tabD rows x L) = true := lst_refl (tab_mem rows x L)
/-! ### weights as data -/
def hvD (h : Rat × Rat) : PyData := .tuple [frD h.1, frD h.2]
theorem hv_dp {K : PySem.W.Frag} {H : Hp} {v : V} {h : Rat × Rat} (q : Hvy K H v h) : Dp K H v (hvD h) := by
  obtain ⟨t, a, b, rfl, h1, h2, h3⟩ := q
  exact .tup h1 (.cons (fr_dp h2) (.cons (fr_dp h3) .nil))
theorem dpA_hv {K : PySem.W.Frag} {H : Hp} : ∀ {vs : List V} {hs : List (Rat × Rat)}, Paired (Hvy K H) vs hs → DpAll K H vs (hs.map hvD)
  | _, _, .nil => .nil
  | _, _, .cons h t => .cons (hv_dp h) (dpA_hv t)
theorem hvD_can (h : Rat × Rat) : PyData.canLay0 (hvD h) = true ∧ PyData.depth (hvD h) = 2 := by
  unfold hvD
  simp only [PyData.canLay0, PyData.canLayAll0, PyData.depth, PyData.depthAll, (frD_can _).1, (frD_can _).2]
  exact ⟨rfl, rfl⟩
theorem hv_mem (hs : List (Rat × Rat)) : ∀ d ∈ hs.map hvD, PyData.canLay0 d = true ∧ PyData.depth d ≤ 2 := fun d hd => by
  obtain ⟨r, _, rfl⟩ := List.mem_map.mp hd
  exact ⟨(hvD_can r).1, by rw [(hvD_can r).2]; omega⟩
/-! ### lots as data -/
theorem dpA_lots {K : PySem.W.Frag} {H : Hp} : ∀ {vs : List V} {ls : List (List Int)}, Paired (LotN H) vs ls → DpAll K H vs (ls.map lotD)
  | _, _, .nil => .nil
  | _, _, .cons h t => .cons (lot_dp h.at) (dpA_lots t)
theorem lots_mem (ls : List (List Int)) : ∀ d ∈ ls.map lotD, PyData.canLay0 d = true ∧ PyData.depth d ≤ 2 := fun d hd => by
  obtain ⟨r, _, rfl⟩ := List.mem_map.mp hd
  exact ⟨(lotD_can r).1, by rw [(lotD_can r).2]; omega⟩
theorem lots_keys {H : Hp} {vs : List V} {ls : List (List Int)} (h : Paired (LotN H) vs ls) : ∃ ks : List (Addr × List Int), vs = ks.map (fun p => V.ref p.1) ∧ ks.map (·.2) = ls ∧ ∀ p ∈ ks, H p.1 = some (.tup (p.2.map V.int)) := by
  induction h with
  | nil => exact ⟨[], rfl, rfl, fun p hp => by simp at hp⟩
  | cons r t ih =>
    obtain ⟨ks, e1, e2, e3⟩ := ih
    obtain ⟨b, rfl, hb⟩ := r
    refine ⟨(b, _) :: ks, by rw [e1]; rfl, by rw [← e2]; rfl, fun p hp => ?_⟩
    rcases List.mem_cons.mp hp with rfl | hp
    · exact hb
    · exact e3 p hp
theorem keys_lots {H : Hp} : ∀ {ks : List (Addr × List Int)}, (∀ p ∈ ks, H p.1 = some (.tup (p.2.map V.int))) → Paired (LotN H) (ks.map fun p => V.ref p.1) (ks.map (·.2))
  | [], _ => .nil
  | p :: ks, h => .cons ⟨p.1, rfl, h p List.mem_cons_self⟩ (keys_lots fun q hq => h q (List.mem_cons_of_mem _ hq))
/-! ### the whole world of the law -/
def WFull (K : PySem.W.Frag) (H : Hp) (v : V) (W : Wd) : Prop := ∃ (d ls lg lw : Addr) (kvs : List (Key × V)) (gs ws : List V), v = .ref d ∧ H d = some (.dK kvs) ∧ valV kvs (Sum.inr ("long" : Str)) = some (.int W.long) ∧ valV kvs (Sum.inr ("spots" : Str)) = some (.ref ls) ∧ H ls = some (.lst ((W.ss.map (·.1)).map V.int)) ∧ valV kvs (Sum.inr ("strong" : Str)) = some (.ref lg) ∧ H lg = some (.lst gs) ∧ Paired (Fr K H) gs (W.ss.map (·.2)) ∧
  valV kvs (Sum.inr ("heavy" : Str)) = some (.ref lw) ∧ H lw = some (.lst ws) ∧ Paired (Hvy K H) ws W.heavy ∧ kvs.length ≤ 20
theorem WFull.mono {K : PySem.W.Frag} {H H' : Hp} {v : V} {W : Wd} (s : Same H H') (h : WFull K H v W) : WFull K H' v W := by
  obtain ⟨d, ls, lg, lw, kvs, gs, ws, e, h1, h2, h3, h4, h5, h6, h7, h8, h9, h10, h11⟩ := h
  exact ⟨d, ls, lg, lw, kvs, gs, ws, e, s _ _ h1, h2, h3, s _ _ h4, h5, s _ _ h6, pr_mono h7 fun _ _ h => h.mono s.tu, h8, s _ _ h9, pr_mono h10 fun _ _ h => h.mono s.tu, h11⟩
theorem WFull.st {K : PySem.W.Frag} {H : Hp} {v : V} {W : Wd} (h : WFull K H v W) : WSt K H v W := by
  obtain ⟨d, ls, lg, lw, kvs, gs, ws, e, h1, h2, h3, h4, h5, h6, h7, h8, h9, h10, h11⟩ := h
  exact ⟨d, ls, lg, kvs, gs, e, h1, h2, h3, h4, h5, h6, h7⟩
def spRight (K : PySem.W.Frag) (CP : Addr) : Sp := fun vs H Q _ => ∃ (wv pq : V) (sd : Addr) (m : V) (W : Wd) (much : Rat), vs = [wv, pq, .ref sd, m] ∧ WFull K H wv W ∧ PlankAt K CP H pq W.long W.ss ∧ W.ss.length ≤ 4 ∧ GoodW W ∧ FMap kyK (Fr K) H sd (keys W.ss.length) (spare W) ∧ Fr K H m much ∧ Bd 430 much ∧ 0 < much ∧
  ∀ H', Same H H' → Q (.bl true) H'
theorem mid_at {K : PySem.W.Frag} {H : Hp} {xs : List V} {ve : V} {rows : List Row} {x : Rat} {L : List Int} (hxs : Paired (RowN K H) xs rows) (hve : EndN K H ve x L) {i : Nat} {y : V} (e : (xs ++ [ve])[i]? = some y) :
    ∃ t a b c A, y = .ref t ∧ H t = some (.tup [a, b, c]) ∧ LotN H b A ∧ (rows.map (·.2.1) ++ [L])[i]? = some A := by
  have lx := pr_len hxs
  by_cases c : i < xs.length
  · rw [List.getElem?_append_left c] at e
    obtain ⟨r, hr, ⟨t, a, b, c, rfl, h1, _, h2, _⟩⟩ := pr_get' hxs e
    refine ⟨t, a, b, c, _, rfl, h1, h2, ?_⟩
    rw [List.getElem?_append_left (by rw [List.length_map]; omega), List.getElem?_map, hr]
    rfl
  · have hi := (List.getElem?_eq_some_iff.mp e).1
    rw [List.length_append, List.length_singleton] at hi
    have e1 : i = xs.length := by omega
    rw [List.getElem?_append_right (by omega), e1, Nat.sub_self] at e
    have : ve = y := by simpa using e
    subst this
    obtain ⟨t, a, b, rfl, h1, _, h2⟩ := hve
    refine ⟨t, a, b, .non, L, rfl, h1, h2, ?_⟩
    rw [List.getElem?_append_right (by rw [List.length_map]; omega), List.length_map, e1, lx, Nat.sub_self]
    rfl
section
variable {P : Program} {w : World} {K : PySem.W.Frag} {mg : Str → Option Value} {base : Heap} {aN aO : Addr} {tL tM tP : Tok} {CPlank CLoads : Addr}
abbrev s_law_right : Stmt := topS 77
abbrev n_law_right : List Str := ["_law_world_here", "_law_plank", "_law_spares_here", "_law_much", "_law_due_here", "_law_heavy_here", "_law_again", "_law_told", "_law_lots", "_law_row", "_law_many", "_law_one", "_law_found"]
theorem sc_law_right : FnScope n_law_right ["_law_world_here", "_law_plank", "_law_spares_here", "_law_much"] (defScope s_law_right) := ⟨rfl, rfl, rfl, by decide +kernel, rfl, by decide +kernel, by decide +kernel⟩
theorem ok_law_right {f : Addr} {fd : FuncData} (F : Fun K "_law_right" "_law_right" s_law_right f fd) (T : Txt K mg aN aO tL tM tP) (G_law_due : Fn P w K mg base 5 "_law_due" ["_law_world_here", "_law_spares_here", "_law_much"] (spLawDue K)) (G_lots_left : Fn P w K mg base 10 "lots_left" ["plank", "weights", "weight"] (spLotsLeft K CPlank)) (G_mapped : Fn P w K mg base 9 "mapped" ["plank", "weights", "weight"] (spMapped K CPlank)) (G_law_sides_right : Fn P w K mg base 1 "_law_sides_right" ["_law_due_here"] (spSides K)) : FnOk P w K mg base CX0 11 f fd ["_law_world_here", "_law_plank", "_law_spares_here", "_law_much"] (spRight K CPlank) := by
  have sc := sc_law_right
  refine F.ok sc (fun vs H Q E h => ?_) (fun cdv A outer s H vs Q E hr h => ?_)
  · (repeat (rcases h with ⟨_, h⟩))
    subst_vars
    rfl
  · obtain ⟨wv, pq, sd, m, W, much, rfl, WF, PL, hn, GW, SP, hm, hbm, h0, k⟩ := h
    obtain ⟨d, ls, lg, lw, kvs, gs, ws, rfl, hd, hlong, hspots, hls, hstrong, hlg, hgs, hheavy, hlw, hws, hkn⟩ := id WF
    have gS := DGet.k (k := Sum.inr ("spots" : Str)) hd
    rw [hspots] at gS
    have gH := DGet.k (k := Sum.inr ("heavy" : Str)) hd
    rw [hheavy] at gH
    refine ⟨_, (pss_cons (ps_set (i := 4) sc.nd rfl (Or.inl rfl) (pe_fn G_law_due hr (pa_cons (pv 0) (pa_cons (pv 2) (pa_cons (pv 3) pa_nil)))))
 (pss_cons (ps_set (i := 5) sc.nd rfl (Or.inl rfl) (pe_callTy (cList K) (by rfl) T.blist (by decide +kernel) (pa_cons (pe_dget (hu_of hr) (pv 0) pe_str (fun _ _ => rfl)) pa_nil)))
 (pss_cons (ps_for PassesOwn.never rfl (pi_range1 rfl T.brange (pa_cons pe_int pa_nil)) (pg_name (i := 6) sc.nd rfl (Or.inl rfl))
 (pss_cons (ps_set (i := 7) sc.nd rfl (Or.inl rfl) (pe_fn G_mapped hr (pa_cons (pv 1) (pa_cons (pv 5) (pa_cons (pv 3) pa_nil)))))
 (pss_cons (ps_if (PW.pt (pw_or (pt_cmpR (oNeD K (hru hr)) (pv 7) (pv 4) (nomark _)) (pw_or (pt_not (pt_val (pe_callB (cIsi K) (by rfl) T.bisinstance (by decide +kernel) (pa_cons (pv 7) (pa_cons (pe_bltn (v := .ty "list") (by rfl) T.blist (by decide +kernel) rfl) pa_nil))))) (pw_or1 (pt_not (pt_val (pe_fn G_law_sides_right hr (pa_cons (pv 7) pa_nil))))))))
 (pss_one (ps_ret pe_bl))
 pss_nil)
 (pss_one (ps_expr (pe_bm0 PySem.F.plainAttrs_list PySem.F.slot_list_clear PySem.F.type_list_clear mt_clear (pv 7)))))))
 (pss_cons (ps_set (i := 8) sc.nd rfl (Or.inl rfl) (pe_callB ((cr_sortedLots rfl (hru66 hr))) (by rfl) T.bsorted (by decide +kernel) (pa_cons (pe_callTy ((cr_setLots rfl (hru hr))) (by rfl) T.bset (by decide +kernel) (pa_cons (pe_op op_cat (pe_lc (own := [("_law_row", 9)]) (g := (gName 9)) rfl sc.nd (piL K (pv 4)) (blkOk_by (N := n_law_right) (sc := defScope s_law_right) (own := [("_law_row", 9)]) (by decide +kernel)) (fun _ _ _ _ _ => (pg_name (i := 9) sc.nd rfl (Or.inl rfl))) (fun _ _ _ _ _ => pts_nil) (fun _ _ _ _ _ => (pe_ix (ixT K) (pv 9) pe_int (fun _ _ => rfl)))) (pe_lc (own := [("_law_row", 9)]) (g := (gName 9)) rfl sc.nd (piL K (pe_slice (slL K) (pv 4) po_none (po_some (pe_un un_neg pe_int)))) (blkOk_by (N := n_law_right) (sc := defScope s_law_right) (own := [("_law_row", 9)]) (by decide +kernel)) (fun _ _ _ _ _ => (pg_name (i := 9) sc.nd rfl (Or.inl rfl))) (fun _ _ _ _ _ => pts_nil) (fun _ _ _ _ _ => (pe_ix (ixT K) (pv 9) pe_int (fun _ _ => rfl))))) pa_nil)) pa_nil)))
 (pss_cons (ps_set (i := 4) sc.nd rfl (Or.inl rfl) (pe_lst pa_nil))
 (pss_cons (ps_for PassesOwn.never rfl (pi_range3 rfl T.brange (pa_cons (pe_callB (cLen K) (by rfl) T.blen (by decide +kernel) (pa_cons (pe_dget (hu_of hr) (pv 0) pe_str (fun _ _ => rfl)) pa_nil)) (pa_cons (pe_un un_neg pe_int) (pa_cons (pe_un un_neg pe_int) pa_nil)))) (pg_name (i := 10) sc.nd rfl (Or.inr rfl))
 (pss_one (ps_set (i := 4) sc.nd rfl (Or.inl rfl) (pe_op op_cat (pv 4) (pe_lc (own := [("_law_one", 11)]) (g := (gName 11)) rfl sc.nd (piL K (pv 8)) (blkOk_by (N := n_law_right) (sc := defScope s_law_right) (own := [("_law_one", 11)]) (by decide +kernel)) (fun _ _ _ _ _ => (pg_name (i := 11) sc.nd rfl (Or.inl rfl))) (fun _ _ _ _ _ => pts_one (pt_cmpR op_eq (pe_callB (cLen K) (by rfl) T.blen (by decide +kernel) (pa_cons (pv 11) pa_nil)) (pv 10) (nomark _))) (fun _ _ _ _ _ => (pv 11)))))))
 (pss_cons (ps_set (i := 12) sc.nd rfl (Or.inl rfl) (pe_fn G_lots_left hr (pa_cons (pv 1) (pa_cons (pv 5) (pa_cons (pv 3) pa_nil)))))
 (pss_one (ps_ret (pe_and (pe_cmpR (oEqD K (hru hr)) (pv 12) (pv 4) (nomark _)) (pe_and (pe_callB (cIsi K) (by rfl) T.bisinstance (by decide +kernel) (pa_cons (pv 12) (pa_cons (pe_bltn (v := .ty "list") (by rfl) T.blist (by decide +kernel) rfl) pa_nil))) (pe_one (pe_cmpR (oEqD K (hru hr)) (pv 5) (pe_dget (hu_of hr) (pv 0) pe_str (fun _ _ => rfl)) (nomark _)))))))))))))), ?_⟩
    refine ⟨_, rfl, _, rfl, _, rfl, .ref d, sd, m, W, much, rfl, WF.st.wls, hn, GW, SP, hm, hbm, h0, fun H1 dl R s1 TR hRl MA => ?_⟩
    refine ⟨_, rfl, d, _, rfl, gd_mono gH s1, lw, ws, rfl, .inl (SqL.of (s1 _ _ hlw)), fun hv nhv => ?_⟩
    have s12 : Same H1 (upd H1 hv (.lst ws)) := Same.new nhv
    have hhv : upd H1 hv (.lst ws) hv = some (.lst ws) := upd_same
    generalize upd H1 hv (.lst ws) = H2 at s12 hhv ⊢
    have s2 := s1.trans s12
    have MA2 := MA.mono s12
    have PL2 := PL.mono s2
    have hm2 := hm.mono s2.tu
    have hws2 := pr_mono hws fun _ _ h => h.mono s2.tu
    obtain ⟨C, last⟩ := rows_chain GW h0 TR
    refine ⟨_, rfl, by decide, by decide, for_it walk_rg0 (fun i σ H' => (∃ c6 c7 c8 c9 c10 c11 c12, σ = [some (.ref d), some pq, some (.ref sd), some m, some (.ref dl), some (.ref hv), c6, c7, c8, c9, c10, c11, c12]) ∧ Same H2 H') ⟨⟨_, _, _, _, _, _, _, rfl⟩, Same.refl _⟩ (fun _ _ _ _ _ => trivial) ?_ ?_⟩
    · rintro i y σ H3 H4 hi ⟨⟨c6, c7, c8, c9, c10, c11, c12, rfl⟩, s3⟩ ⟨rfl, rfl⟩
      refine ⟨_, rfl, _, rfl, _, rfl, pq, m, hv, ws, W, much, rfl, PL2.mono s3, s3 _ _ hhv, pr_mono hws2 fun _ _ h => h.mono s3.tu, GW, hm2.mono s3.tu, hbm, h0, fun H5 p R2 s5 np TR2 hRl2 MB => ?_⟩
      obtain rfl := turns_one TR2 TR
      have s25 := s3.trans s5
      have np2 : H2 p = none := s3.free np
      obtain ⟨xs, ve, hp, _, _⟩ := id MB
      refine ⟨_, rfl, _, rfl, _, _, tab_dp MB, tab_dp (MA2.mono s25), tab_sh _ _ _, tab_sh _ _ _, _, rfl, ?_⟩
      rw [tab_eq]
      refine ifF rfl ?_
      refine ⟨_, rfl, _, _, _, _, true, rfl, .ty "list", tyL hp, kit_ty (by decide +kernel), _, rfl, ?_⟩
      refine ifF rfl ?_
      refine ⟨_, rfl, p, _, _, _, rfl, MB, C, last, fun H6 s6 => ⟨_, rfl, ?_⟩⟩
      refine ifF rfl ?_
      have hp6 := s6 _ _ hp
      refine ⟨_, rfl, .inl ⟨rfl, _, SqL.of hp6⟩, p, _, rfl, rfl, hp6, ?_⟩
      exact ⟨⟨_, _, _, _, _, _, _, rfl⟩, (s25.trans s6).mut np2⟩
    · rintro σ H3 ⟨⟨c6, c7, c8, c9, c10, c11, c12, rfl⟩, s3⟩
      have s03 := s2.trans s3
      obtain ⟨xs, ve, hdl, hxs, hve⟩ := MA2.mono s3
      have hag := lotsA_good GW h0 (R := R)
      have rl := rows_len (leftOf W much) R
      have lx := pr_len hxs
      generalize hrows : rowsOf (leftOf W much) R = rows at hxs hag rl lx
      generalize hLe : leftOf W much (endOf R) = Le at hve hag
      refine ⟨_, rfl, dl, rfl, ⟨_, SqL.of hdl⟩, fun D1 nD1 => lc_map walk_list (fun i => ((rows.map (·.2.1) ++ [Le])[i]?).getD []) LotN (fun _ _ _ _ u h => h.mono u) nD1 (by rw [List.length_append, List.length_singleton]; omega) (fun H' s => SqL.of (s _ _ hdl)) (fun i y H4 H5 hi s4 yy => ?_) (fun H4 ys1 s4 hD1 hys1 => ?_)⟩
      · obtain ⟨rfl, hy⟩ := yy
        refine ⟨Same.refl _, fun Qk kk => ?_⟩
        obtain ⟨t, a, b, c, A, rfl, ht, hb, hA⟩ := mid_at hxs hve hy
        refine ⟨rfl, _, rfl, _, _, _, _, rfl, rfl, SqT.of (s4 _ _ ht), rfl, kk _ _ (Same.refl _) ?_⟩
        rw [hA]
        exact hb.mono s4.tu
      have e1 : (List.range (xs ++ [ve]).length).map (fun i => ((rows.map (·.2.1) ++ [Le])[i]?).getD []) = rows.map (·.2.1) ++ [Le] := by
        refine List.ext_getElem (by simp [lx]) fun i h1 h2 => ?_
        simp only [List.getElem_map, List.getElem_range, List.getElem?_eq_getElem h2, Option.getD_some]
      rw [e1] at hys1
      refine ⟨_, rfl, _, rfl, _, rfl, dl, _, rfl, SqL.of (s4 _ _ hdl), fun p2 np2 => ?_⟩
      rw [show cutV (xs ++ [ve]) none (some (-1)) = xs from cut_last xs ve]
      have s5 : Same H4 (upd H4 p2 (.lst xs)) := Same.new np2
      have hp2 : upd H4 p2 (.lst xs) p2 = some (.lst xs) := upd_same
      generalize upd H4 p2 (.lst xs) = H5 at s5 hp2 ⊢
      have s35 := s4.trans s5
      refine ⟨p2, rfl, ⟨_, SqL.of hp2⟩, fun D2 nD2 => lc_map walk_list (fun i => ((rows.map (·.2.2))[i]?).getD []) LotN (fun _ _ _ _ u h => h.mono u) nD2 (by omega) (fun H' s => SqL.of (s _ _ hp2)) (fun i y H6 H7 hi s6 yy => ?_) (fun H6 ys2 s6 hD2 hys2 => ?_)⟩
      · obtain ⟨rfl, hy⟩ := yy
        refine ⟨Same.refl _, fun Qk kk => ?_⟩
        obtain ⟨r, hr, ⟨t, a, b, c, rfl, ht, _, _, hc⟩⟩ := pr_get' hxs hy
        refine ⟨rfl, _, rfl, _, _, _, _, rfl, rfl, SqT.of (s6 _ _ (s35 _ _ ht)), rfl, kk _ _ (Same.refl _) ?_⟩
        rw [List.getElem?_map, hr]
        exact hc.mono (s35.trans s6).tu
      have e2 : (List.range xs.length).map (fun i => ((rows.map (·.2.2))[i]?).getD []) = rows.map (·.2.2) := by
        refine List.ext_getElem (by simp [lx]) fun i h1 h2 => ?_
        simp only [List.getElem_map, List.getElem_range, List.getElem?_eq_getElem h2, Option.getD_some]
      rw [e2] at hys2
      have s36 := s35.trans s6
      have l1 := pr_len hys1
      have l2 := pr_len hys2
      rw [List.length_append, List.length_map, List.length_singleton] at l1
      rw [List.length_map] at l2
      refine ⟨D1, D2, _, _, rfl, rfl, s6 _ _ (s5 _ _ hD1), hD2, szL (by omega), fun q nq => ?_⟩
      have s7 : Same H6 (upd H6 q (.lst (ys1 ++ ys2))) := Same.new nq
      have hq : upd H6 q (.lst (ys1 ++ ys2)) q = some (.lst (ys1 ++ ys2)) := upd_same
      generalize upd H6 q (.lst (ys1 ++ ys2)) = H7 at s7 hq ⊢
      have hyA : Paired (LotN H7) (ys1 ++ ys2) (lotsA rows Le) := pr_app (pr_mono hys2 fun _ _ h => h.mono s7.tu) (pr_mono hys1 fun _ _ h => h.mono ((s5.trans s6).trans s7).tu)
      obtain ⟨ks, eks, ekl, hks⟩ := lots_keys hyA
      rw [eks] at hq
      have gks : ∀ p ∈ ks, GoodL W.ss.length p.2 := fun p hp => hag _ (by rw [← ekl]; exact List.mem_map.mpr ⟨p, hp, rfl⟩)
      have few : ∀ L : List (Addr × List Int), (L.map (·.2)).Nodup → (∀ p ∈ L, p ∈ ks) → L.length ≤ 16 := fun L nd sub => by
        have := lots_few hn nd (fun l hl => by
          obtain ⟨p, hp, rfl⟩ := List.mem_map.mp hl
          exact gks p (sub p hp))
        rw [List.length_map] at this
        exact this
      refine ⟨q, ks, rfl, hq, fun p hp => SqT.of (hks p hp), fun L nd sub => by have := few L nd sub; omega, fun a Ls na sub all => ?_⟩
      have s8 : Same H7 (upd H7 a (SetTO P w a Ls)) := Same.new na
      refine ⟨a, Ls, rfl, upd_same, fun p hp => SqT.of (s8 _ _ (hks p (sub p hp))), fun L' lt pm nd pw nlt => ?_⟩
      have s9 := s8.trans (Same.new (o := .lst (L'.map fun q => V.ref q.1)) nlt)
      have hlt : upd (upd H7 a (SetTO P w a Ls)) lt (.lst (L'.map fun q => V.ref q.1)) lt = some (.lst (L'.map fun q => V.ref q.1)) := upd_same
      have hsub' : ∀ p ∈ L', p ∈ ks := fun p hp => sub p (pm.mem_iff.mp hp)
      have hlots : Paired (LotN (upd (upd H7 a (SetTO P w a Ls)) lt (.lst (L'.map fun q => V.ref q.1)))) (L'.map fun q => V.ref q.1) (L'.map (·.2)) := keys_lots fun p hp => s9 _ _ (hks p (hsub' p hp))
      have lfew := few L' nd hsub'
      have memL : ∀ l, l ∈ L'.map (·.2) ↔ l ∈ lotsA rows Le := fun l => by
        rw [← ekl, List.mem_map, List.mem_map]
        constructor
        · rintro ⟨p, hp, rfl⟩
          exact ⟨p, hsub' p hp, rfl⟩
        · rintro ⟨p, hp, rfl⟩
          obtain ⟨p', hp', e⟩ := List.mem_map.mp (all p hp)
          exact ⟨p', pm.mem_iff.mpr hp', e⟩
      have pwL : (L'.map (·.2)).Pairwise fun a b => ¬ b < a := by
        rw [List.pairwise_map]
        exact pw
      have lenL : (L'.map (·.2)).length ≤ 16 := by rw [List.length_map]; exact lfew
      have lLs : (L'.map fun q => V.ref q.1).length = (L'.map (·.2)).length := by simp
      have gLz : ∀ l ∈ L'.map (·.2), GoodL W.ss.length l := fun l hl => hag l ((memL l).mp hl)
      have s38 := (s36.trans s7).trans s9
      refine ⟨by show 0 ≤ sizeLine; decide, fun z nz => ?_⟩
      have s3z : Same H3 _ := s38.trans (Same.new (o := .lst []) nz)
      have hltz := (Same.new (o := .lst []) nz) _ _ hlt
      have hlotsz := pr_mono hlots fun _ _ h => h.mono (Same.new (o := .lst []) nz).tu
      have ls3 := s03 _ _ hls
      refine ⟨_, rfl, d, _, rfl, gd_mono gS (s03.trans s3z), ls, _, rfl, .inl (SqL.of (s3z _ _ ls3)), _, rfl, _, rfl, (W.ss.length : Int), -1, -1, W.ss.length + 1, ?_, ?_, ?_⟩
      · simp
      · have r := RgC.neg (i := (W.ss.length : Int)) (j := -1) (by omega) (by omega) (by omega) (by omega)
        rw [show ((W.ss.length : Int) - -1).toNat = W.ss.length + 1 by omega] at r
        exact r
      refine for_it walk_rangeC (fun i σ H' => Same H3 H' ∧ ∃ (dp : Addr) (ys : List V) (c6 c7 c9 c10 c11 c12 : Option V), σ = [some (.ref d), some pq, some (.ref sd), some m, some (.ref dp), some (.ref hv), c6, c7, some (.ref lt), c9, c10, c11, c12] ∧ H' lt = some (.lst (L'.map fun q => V.ref q.1)) ∧ Paired (LotN H') (L'.map fun q => V.ref q.1) (L'.map (·.2)) ∧ H' dp = some (.lst ys) ∧ Paired (LotN H') ys (groups W.ss.length (L'.map (·.2)) i) ∧ ys.length ≤ 16 * i) ⟨s3z, z, [], _, _, _, _, _, _, rfl, hltz, hlotsz, upd_same, .nil, Nat.le_refl _⟩ (fun _ _ _ _ _ => trivial) ?_ ?_
      · generalize (L'.map fun q => V.ref q.1) = lvs at lLs
        generalize L'.map (·.2) = Lz at lenL lLs
        rintro i y σ H9 H10 hi ⟨s3x, dp, ys, c6, c7, c9, c10, c11, c12, rfl, hlt9, hlots9, hdp, hys, hyl⟩ ⟨rfl, rfl⟩
        refine ⟨_, rfl, _, rfl, lt, rfl, ⟨_, SqL.of hlt9⟩, fun D nD => lc_filt walk_list (fun j => ((Lz)[j]?).getD []) (fun l => decide ((l.length : Int) = (W.ss.length : Int) - (i : Int))) LotN (fun _ _ _ _ u h => h.mono u) nD (by omega) (fun H' s => SqL.of (s _ _ hlt9)) (fun j y H11 H12 hj s11 yy => ?_) (fun H11 zs s11 hD hzs => ?_)⟩
        · obtain ⟨rfl, hy⟩ := yy
          refine ⟨Same.refl _, fun Qk Qn k1 k2 => ?_⟩
          obtain ⟨l, hl, ⟨b, rfl, hb⟩⟩ := pr_get' hlots9 hy
          have el : ((Lz)[j]?).getD [] = l := by rw [hl]; rfl
          have hb11 := s11 _ _ hb
          refine ⟨rfl, _, rfl, b, _, rfl, .inr (SqT.of hb11), _, rfl, rfl, _, rfl, ?_⟩
          refine ifB (fun c => ?_) (fun c => ?_)
          · have c1 : (l.length : Int) = (W.ss.length : Int) + (i : Int) * -1 := by simpa using c
            exact ⟨_, rfl, k1 (by rw [el]; exact decide_eq_true (by omega)) _ _ (Same.refl _) (by rw [el]; exact ⟨b, rfl, hb11⟩)⟩
          · have c1 : ¬ (l.length : Int) = (W.ss.length : Int) + (i : Int) * -1 := by simpa using c
            exact k2 (by rw [el]; exact decide_eq_false (by omega)) _ (Same.refl _)
        · have ef : (List.range lvs.length).map (fun j => ((Lz)[j]?).getD []) = Lz := by
            rw [lLs]
            refine List.ext_getElem (by simp) fun i h1 h2 => ?_
            simp [List.getElem?_eq_getElem h2]
          rw [ef] at hzs
          have lz := pr_len hzs
          have lf := List.length_filter_le (fun l : List Int => decide ((l.length : Int) = (W.ss.length : Int) - (i : Int))) Lz
          refine ⟨dp, D, _, _, rfl, rfl, s11 _ _ hdp, hD, szL (by omega), fun q2 nq2 => ?_⟩
          have sq := s11.news (o := .lst (ys ++ zs)) nq2
          refine ⟨s3x.trans sq, q2, ys ++ zs, _, _, _, _, _, _, rfl, sq _ _ hlt9, pr_mono hlots9 fun _ _ h => h.mono sq.tu, upd_same, ?_, by rw [List.length_append]; omega⟩
          rw [groups_succ]
          exact pr_app (pr_mono hzs fun _ _ h => h.mono (Tu.new nq2)) (pr_mono hys fun _ _ h => h.mono sq.tu)
      · rintro σ H9 ⟨s3x, dp, ys, c6, c7, c9, c10, c11, c12, rfl, hlt9, hlots9, hdp, hys, hyl⟩
        have s2x := s3.trans s3x
        refine ⟨_, rfl, _, rfl, _, rfl, pq, m, hv, ws, W, much, rfl, PL2.mono s2x, s2x _ _ hhv, pr_mono hws2 fun _ _ h => h.mono s2x.tu, GW, hm2.mono s2x.tu, hbm, h0, fun H10 p fs R2 M s10 hp TR2 hM pwM memM => ?_⟩
        obtain rfl := turns_one TR2 TR
        rw [hrows, hLe] at memM
        have eM : M = groups W.ss.length (L'.map (·.2)) (W.ss.length + 1) := size_ext pwM (groups_sorted nd pwL _) fun x => by
          rw [memM, groups_mem (fun l hl => good_len (gLz l hl)), memL, lotsA_mem]
        have s2y := s2x.trans s10
        have hdp10 := s10 _ _ hdp
        have hys10 := pr_mono hys fun _ _ h => h.mono s10.tu
        rw [← eM] at hys10
        refine ⟨_, rfl, _, rfl, .list (M.map lotD), .list (M.map lotD), .lst (SqL.of hp) (dpA_lots hM), .lst (SqL.of hdp10) (dpA_lots hys10), lst_sh (lots_mem M), lst_sh (lots_mem M), ?_⟩
        rw [lst_refl (lots_mem M)]
        refine ⟨_, rfl, ?_⟩
        refine iteT ?_
        refine ⟨_, rfl, _, _, _, _, true, rfl, .ty "list", tyL hp, kit_ty (by decide +kernel), _, rfl, ?_⟩
        refine iteT ?_
        have hws10 := pr_mono hws2 fun _ _ h => h.mono s2y.tu
        have s0y := s2.trans s2y
        have hwsy := pr_mono hws fun _ _ h => h.mono s0y.tu
        refine ⟨_, rfl, _, rfl, d, _, rfl, gd_mono gH s0y, .list (W.heavy.map hvD), .list (W.heavy.map hvD), .lst (SqL.of (s2y _ _ hhv)) (dpA_hv hws10), .lst (SqL.of (s0y _ _ hlw)) (dpA_hv hwsy), lst_sh (hv_mem _), lst_sh (hv_mem _), ?_⟩
        rw [lst_refl (hv_mem W.heavy)]
        exact k _ s0y
end
end PF
end
section
set_option maxHeartbeats 4000000
set_option exponentiation.threshold 20000
namespace PF
open PySem L2
theorem dat {ds : List Int} {j : Nat} (h : j < ds.length) : (ds.map V.int)[j]? = some (.int (ds.getD j 0)) := by
  rw [List.getElem?_map, List.getElem?_eq_getElem h, List.getD_eq_getElem?_getD, List.getElem?_eq_getElem h]
  rfl
theorem dig_bd {ds : List Int} (D : Dig ds) (j : Nat) : 0 ≤ ds.getD j 0 ∧ ds.getD j 0 < 1009 := by
  rw [List.getD_eq_getElem?_getD]
  by_cases h : j < ds.length
  · rw [List.getElem?_eq_getElem h]
    exact D _ (List.getElem_mem h)
  · rw [List.getElem?_eq_none (by omega)]
    exact ⟨by decide, by decide⟩
theorem le_long {t b long : Int} (h0 : 0 ≤ t) (hb : 0 < b) (h : t ≤ long * b) : 0 ≤ Rat.divInt t b ∧ Rat.divInt t b ≤ (long : Rat) := by
  have pb : (0 : Rat) < (b : Rat) := ipos hb
  have pt : (0 : Rat) ≤ (t : Rat) := by
    have := rat_le h0
    exact this
  rw [Rat.divInt_eq_div]
  refine ⟨div_nonneg pt pb, ?_⟩
  have q := rat_le h
  rw [Rat.intCast_mul] at q
  have e : (t : Rat) / (b : Rat) * (b : Rat) = (t : Rat) := by rw [Rat.div_def]; grind
  generalize (t : Rat) / (b : Rat) = z at e ⊢
  apply Rat.not_lt.mp
  intro y
  have := Rat.mul_pos (show 0 < z - (long : Rat) by grind) pb
  grind
theorem div_posI {t b : Int} (h0 : 0 < t) (hb : 0 < b) : 0 < Rat.divInt t b := by
  rw [Rat.divInt_eq_div, lt_div (ipos hb)]
  have := ipos h0
  grind
def Good9 (long : Int) (h : Rat × Rat) : Prop := Bd 9 h.1 ∧ Bd 9 h.2 ∧ 0 ≤ h.1 ∧ h.1 ≤ (long : Rat) ∧ 0 < h.2
def spHeavy (K : PySem.W.Frag) : Sp := fun vs H Q _ => ∃ (dl : Addr) (ds : List Int) (v : V) (W : Wd), vs = [.ref dl, v] ∧ H dl = some (.lst (ds.map V.int)) ∧ 26 ≤ ds.length ∧ Dig ds ∧ WLS H v W ∧ GoodP W.long W.ss ∧ W.long ≤ 150 ∧ 1 ≤ W.ss.length ∧
  ∀ H' p ws hs, Same H H' → H' p = some (.lst ws) → Paired (Hvy K H') ws hs → hs.length ≤ 5 → (∀ h ∈ hs, Good9 W.long h) → Q (.ref p) H'
section
variable {P : Program} {w : World} {K : PySem.W.Frag} {mg : Str → Option Value} {base : Heap} {aN aO : Addr} {tL tM tP : Tok} {CPlank CLoads : Addr}
abbrev s_law_heavy : Stmt := topS 64
abbrev n_law_heavy : List Str := ["_law_digits_here", "_law_world_here", "_law_found", "_law_k", "_law_bottom", "_law_spot"]
theorem sc_law_heavy : FnScope n_law_heavy ["_law_digits_here", "_law_world_here"] (defScope s_law_heavy) := ⟨rfl, rfl, rfl, by decide +kernel, rfl, by decide +kernel, by decide +kernel⟩
theorem ok_law_heavy {f : Addr} {fd : FuncData} (F : Fun K "_law_heavy" "_law_heavy" s_law_heavy f fd) (T : Txt K mg aN aO tL tM tP) (G_law_cut : Fn P w K mg base 1 "_law_cut" ["_law_top", "_law_bottom"] spCut) : FnOk P w K mg base CX0 2 f fd ["_law_digits_here", "_law_world_here"] (spHeavy K) := by
  have sc := sc_law_heavy
  refine F.ok sc (fun vs H Q E h => ?_) (fun cdv A outer s H vs Q E hr h => ?_)
  · (repeat (rcases h with ⟨_, h⟩))
    subst_vars
    rfl
  · obtain ⟨dl, ds, v, W, rfl, hdl, hlen, hD, WL, GP, hlong, hone, k⟩ := h
    obtain ⟨d, ls, kvs, rfl, hd, hL, hspots, hls⟩ := id WL
    have gL := DGet.k (k := Sum.inr ("long" : Str)) hd
    rw [hL] at gL
    have gS := DGet.k (k := Sum.inr ("spots" : Str)) hd
    rw [hspots] at gS
    have bd := dig_bd hD
    have lo := GP.lo
    refine ⟨_, (pss_cons (ps_set (i := 2) sc.nd rfl (Or.inl rfl) (pe_lst pa_nil))
 (pss_cons (ps_for PassesOwn.never rfl (pi_range1 rfl T.brange (pa_cons (pe_op op_mod (pe_callTy call_int1 (by rfl) T.bint (by decide +kernel) (pa_cons (pe_ix (ixL K) (pv 0) pe_int (fun _ _ => rfl)) pa_nil)) pe_int) pa_nil)) (pg_name (i := 3) sc.nd rfl (Or.inl rfl))
 (pss_cons (ps_set (i := 4) sc.nd rfl (Or.inl rfl) (pe_op op_add pe_int (pe_op op_mod (pe_callTy call_int1 (by rfl) T.bint (by decide +kernel) (pa_cons (pe_ix (ixL K) (pv 0) (pe_op op_add pe_int (pv 3)) (fun _ _ => rfl)) pa_nil)) pe_int)))
 (pss_cons (ps_set (i := 5) sc.nd rfl (Or.inl rfl) (pe_fn G_law_cut hr (pa_cons (pe_op op_mod (pe_callTy call_int1 (by rfl) T.bint (by decide +kernel) (pa_cons (pe_ix (ixL K) (pv 0) (pe_op op_add pe_int (pv 3)) (fun _ _ => rfl)) pa_nil)) (pe_op op_add (pe_op op_mulW (pe_dget (hu_of hr) (pv 1) pe_str (fun _ _ => rfl)) (pv 4)) pe_int)) (pa_cons (pv 4) pa_nil))))
 (pss_cons (ps_if (pt_cmpR op_eq (pe_op op_mod (pe_callTy call_int1 (by rfl) T.bint (by decide +kernel) (pa_cons (pe_ix (ixL K) (pv 0) (pe_op op_add pe_int (pv 3)) (fun _ _ => rfl)) pa_nil)) pe_int) pe_int (nomark _))
 (pss_one (ps_set (i := 5) sc.nd rfl (Or.inl rfl) (pe_tup (pa_cons (pe_ix (ixL K) (pe_dget (hu_of hr) (pv 1) pe_str (fun _ _ => rfl)) (pe_op op_mod (pe_callTy call_int1 (by rfl) T.bint (by decide +kernel) (pa_cons (pe_ix (ixL K) (pv 0) (pe_op op_add pe_int (pv 3)) (fun _ _ => rfl)) pa_nil)) (pe_callB (cLen K) (by rfl) T.blen (by decide +kernel) (pa_cons (pe_dget (hu_of hr) (pv 1) pe_str (fun _ _ => rfl)) pa_nil))) (fun _ _ => rfl)) (pa_cons pe_int pa_nil)))))
 pss_nil)
 (pss_one (ps_expr (pe_bm PySem.F.plainAttrs_list PySem.F.slot_list_append PySem.F.type_list_append mt_append (pv 2) (pa_cons (pe_tup (pa_cons (pv 5) (pa_cons (pe_fn G_law_cut hr (pa_cons (pe_op op_add pe_int (pe_op op_mod (pe_callTy call_int1 (by rfl) T.bint (by decide +kernel) (pa_cons (pe_ix (ixL K) (pv 0) (pe_op op_add pe_int (pv 3)) (fun _ _ => rfl)) pa_nil)) pe_int)) (pa_cons (pe_op op_add pe_int (pe_op op_mod (pe_callTy call_int1 (by rfl) T.bint (by decide +kernel) (pa_cons (pe_ix (ixL K) (pv 0) (pe_op op_add pe_int (pv 3)) (fun _ _ => rfl)) pa_nil)) pe_int)) pa_nil))) pa_nil))) pa_nil))))))))
 (pss_one (ps_ret (pv 2))))), ?_⟩
    refine ⟨by show 0 ≤ sizeLine; decide, fun fo nfo => ?_⟩
    have s1 : Same H (upd H fo (.lst [])) := Same.new nfo
    have b0 := bd 0
    refine ⟨_, rfl, dl, _, _, _, rfl, rfl, SqL.of (s1 _ _ hdl), at_of (j := 0) rfl (dat (by omega)), .inl ⟨_, rfl, _, _, rfl, rfl, (by show (0 : Int) < 6; decide), _, rfl, by omega, by omega, ?_⟩⟩
    refine for_it walk_rg0 (fun i σ H' => (∃ c3 c4 c5, σ = [some (.ref dl), some (.ref d), some (.ref fo), c3, c4, c5]) ∧ Same H H' ∧ ∃ ws hs, H' fo = some (.lst ws) ∧ Paired (Hvy K H') ws hs ∧ hs.length = i ∧ ∀ h ∈ hs, Good9 W.long h) ⟨⟨_, _, _, rfl⟩, s1, [], [], upd_same, .nil, rfl, fun h hh => by simp at hh⟩ (fun _ _ _ _ _ => trivial) ?_ ?_
    · rintro i x σ H1 H2 hi ⟨⟨c3, c4, c5, rfl⟩, s2, ws, hs, hfo, hws, hl, hg⟩ ⟨rfl, rfl⟩
      have hi5 : i < 5 + 1 := by omega
      have q1 := bd (1 + i)
      have q6 := bd (6 + i)
      have q11 := bd (11 + i)
      have q16 := bd (16 + i)
      have q21 := bd (21 + i)
      have hi6 : i < 5 := by omega
      have sd := SqL.of (K := K) (s2 _ _ hdl)
      refine ⟨_, rfl, _, rfl, _, _, rfl, rfl, dl, _, _, _, rfl, rfl, sd, at_of (j := 1 + i) (by omega) (dat (by omega)), .inl ⟨_, rfl, _, _, rfl, rfl, (by show (0 : Int) < 3; decide), _, _, rfl, rfl, ?_⟩⟩
      dsimp only
      generalize hbt : 1 + ds.getD (1 + i) 0 % 3 = bt
      have bt1 : 1 ≤ bt ∧ bt ≤ 3 := by omega
      have lb : 2 ≤ W.long * bt ∧ W.long * bt ≤ 450 := by
        have h : bt = 1 ∨ bt = 2 ∨ bt = 3 := by omega
        rcases h with rfl | rfl | rfl <;> omega
      have md := Int.emod_nonneg (ds.getD (6 + i) 0) (b := W.long * bt + 1) (by omega)
      have me := Int.emod_lt_of_pos (ds.getD (6 + i) 0) (b := W.long * bt + 1) (by omega)
      refine ⟨_, rfl, _, rfl, _, _, rfl, rfl, dl, _, _, _, rfl, rfl, sd, at_of (j := 6 + i) (by omega) (dat (by omega)), .inl ⟨_, rfl, _, rfl, d, _, rfl, gd_mono gL s2, _, rfl, _, _, rfl, rfl, mulW (a := 8) (b := 2) (by omega) (by omega) (by decide), _, _, rfl, rfl, _, _, rfl, rfl, (by show (0 : Int) < W.long * bt + 1; omega), _, rfl, _, _, rfl, (by omega), Nat.lt_of_lt_of_le (show bt.natAbs < 2 ^ 2 by omega) (two_le (by decide)), fun p np => ?_⟩⟩
      generalize ds.getD (6 + i) 0 % (W.long * bt + 1) = tt at md me np ⊢
      have sp := Same.new (o := frO (Rat.divInt tt bt)) np
      have fp : FrN (upd H2 p (frO (Rat.divInt tt bt))) (.ref p) (Rat.divInt tt bt) := ⟨p, rfl, upd_same⟩
      have bp : Bd 9 (Rat.divInt tt bt) := divInt_bd (by omega) (by omega) (by omega)
      have rp := le_long (t := tt) (b := bt) (long := W.long) md (by omega) (by omega)
      generalize upd H2 p (frO (Rat.divInt tt bt)) = H3 at sp fp
      generalize Rat.divInt tt bt = xq at fp bp rp
      have s3 := s2.trans sp
      have sd3 := SqL.of (K := K) (s3 _ _ hdl)
      have new2 : ∀ {H6 : Hp} {t : Addr} (z : Int), H6 t = none → FrN (upd H6 t (.tup [.int z, .int 1])) (.ref t) (z : Rat) := fun z _ => ⟨_, rfl, upd_same⟩
      refine ⟨_, rfl, _, rfl, _, _, rfl, rfl, dl, _, _, _, rfl, rfl, sd3, at_of (j := 11 + i) (by omega) (dat (by omega)), .inl ⟨_, rfl, _, _, rfl, rfl, (by show (0 : Int) < 3; decide), rfl, _, rfl, ?_⟩⟩
      refine ifB (fun c => ?_) (fun c => ?_)
      · have ll : ((W.ss.map (·.1)).map V.int).length = W.ss.length := by simp
        refine ⟨_, rfl, d, _, rfl, gd_mono gS s3, _, rfl, _, rfl, _, _, rfl, rfl, dl, _, _, _, rfl, rfl, sd3, at_of (j := 6 + i) (by omega) (dat (by omega)), .inl ⟨_, rfl, _, rfl, d, _, rfl, gd_mono gS s3, ls, _, rfl, .inl (SqL.of (s3 _ _ hls)), _, _, rfl, rfl, (by show (0 : Int) < _; rw [ll]; omega), ?_⟩⟩
        rw [ll]
        have ne := Int.emod_nonneg (ds.getD (6 + i) 0) (b := (W.ss.length : Int)) (by omega)
        have nf := Int.emod_lt_of_pos (ds.getD (6 + i) 0) (b := (W.ss.length : Int)) (by omega)
        dsimp only
        generalize ds.getD (6 + i) 0 % (W.ss.length : Int) = z at ne nf ⊢
        have hz : z.toNat < W.ss.length := by omega
        have gz := GP.each _ (List.getElem_mem hz)
        refine ⟨ls, _, _, _, rfl, rfl, SqL.of (s3 _ _ hls), at_of (j := z.toNat) (by omega) (by rw [List.getElem?_map, List.getElem?_map, List.getElem?_eq_getElem hz]; rfl), (by show 2 ≤ sizeLine; decide), fun t nt => ?_⟩
        dsimp only at nt ⊢
        have z1 : 0 < W.ss[z.toNat].1 := gz.1
        have z2 : W.ss[z.toNat].1 < W.long := gz.2.1
        generalize W.ss[z.toNat].1 = zz at z1 z2 nt ⊢
        have st := Same.new (o := .tup [.int zz, .int 1]) nt
        have fu := new2 zz nt
        have bu : Bd 9 (zz : Rat) := bd_int (by omega) (by decide)
        have ru : (0 : Rat) ≤ (zz : Rat) ∧ (zz : Rat) ≤ (W.long : Rat) := ⟨rat_le (show (0 : Int) ≤ zz by omega), rat_le (by omega)⟩
        generalize upd H3 t (.tup [.int zz, .int 1]) = H4 at st fu ⊢
        generalize (zz : Rat) = xu at fu bu ru
        generalize V.ref t = uu at fu ⊢
        have s4 := s3.trans st
        have sd4 := SqL.of (K := K) (s4 _ _ hdl)
        have s24 := sp.trans st
        have hfo4 := s24 _ _ hfo
        have hws4 := pr_mono hws fun _ _ h => h.mono s24.tu
        refine ⟨_, rfl, .inl ⟨rfl, _, SqL.of hfo4⟩, _, rfl, _, rfl, _, rfl, _, _, rfl, rfl, dl, _, _, _, rfl, rfl, sd4, at_of (j := 16 + i) (by omega) (dat (by omega)), .inl ⟨_, rfl, _, _, rfl, rfl, (by show (0 : Int) < 9; decide), _, _, rfl, rfl, _, rfl, _, rfl, _, _, rfl, rfl, dl, _, _, _, rfl, rfl, sd4, at_of (j := 21 + i) (by omega) (dat (by omega)), .inl ⟨_, rfl, _, _, rfl, rfl, (by show (0 : Int) < 3; decide), _, _, rfl, rfl, ?_⟩⟩⟩
        dsimp only
        generalize ha : 1 + ds.getD (16 + i) 0 % 9 = ta
        generalize hb : 1 + ds.getD (21 + i) 0 % 3 = tb
        refine ⟨ta, tb, rfl, (by omega), Nat.lt_of_lt_of_le (show tb.natAbs < 2 ^ 2 by omega) (two_le (by decide)), fun q nq => ?_⟩
        have sq := Same.new (o := frO (Rat.divInt ta tb)) nq
        have fq : FrN (upd H4 q (frO (Rat.divInt ta tb))) (.ref q) (Rat.divInt ta tb) := ⟨q, rfl, upd_same⟩
        have bq : Bd 9 (Rat.divInt ta tb) := divInt_bd (by omega) (by omega) (by omega)
        have rq := div_posI (t := ta) (b := tb) (by omega) (by omega)
        generalize upd H4 q (frO (Rat.divInt ta tb)) = H5 at sq fq
        refine ⟨(by show 2 ≤ sizeLine; decide), fun tp ntp => ?_⟩
        have s6 := sq.news (o := .tup [uu, .ref q]) ntp
        have htp : upd H5 tp (.tup [uu, .ref q]) tp = some (.tup [uu, .ref q]) := upd_same
        have sn := Same.new (o := .tup [uu, .ref q]) ntp
        generalize upd H5 tp (.tup [uu, .ref q]) = H6 at s6 htp sn ⊢
        have hfo6 := s6 _ _ hfo4
        have lw := pr_len hws
        refine ⟨fo, _, _, rfl, rfl, hfo6, szl (by omega), ?_⟩
        have tu := Tu.upd (o := .lst (ws ++ [.ref tp])) hfo6 trivial
        refine ⟨⟨_, _, _, rfl⟩, (s4.trans s6).mut nfo, ws ++ [.ref tp], hs ++ [(xu, Rat.divInt ta tb)], upd_same, ?_, by rw [List.length_append, hl]; rfl, fun h hh => ?_⟩
        · exact pr_snoc ⟨tp, uu, .ref q, rfl, SqT.of (tu.t _ _ htp), (fu.fr.mono s6.tu).mono tu, (fq.fr.mono sn.tu).mono tu⟩ (pr_mono hws4 fun _ _ h => (h.mono s6.tu).mono tu)
        · rcases List.mem_append.mp hh with hh | hh
          · exact hg h hh
          · rw [List.mem_singleton.mp hh]
            exact ⟨bu, bq, ru.1, ru.2, rq⟩
      · have st := Same.refl H3
        have fu := fp
        have bu := bp
        have ru := rp
        generalize (H3 : Hp) = H4 at *
        generalize V.ref p = uu at fu ⊢
        generalize xq = xu at *
        have s4 := s3.trans st
        have sd4 := SqL.of (K := K) (s4 _ _ hdl)
        have s24 := sp.trans st
        have hfo4 := s24 _ _ hfo
        have hws4 := pr_mono hws fun _ _ h => h.mono s24.tu
        refine ⟨_, rfl, .inl ⟨rfl, _, SqL.of hfo4⟩, _, rfl, _, rfl, _, rfl, _, _, rfl, rfl, dl, _, _, _, rfl, rfl, sd4, at_of (j := 16 + i) (by omega) (dat (by omega)), .inl ⟨_, rfl, _, _, rfl, rfl, (by show (0 : Int) < 9; decide), _, _, rfl, rfl, _, rfl, _, rfl, _, _, rfl, rfl, dl, _, _, _, rfl, rfl, sd4, at_of (j := 21 + i) (by omega) (dat (by omega)), .inl ⟨_, rfl, _, _, rfl, rfl, (by show (0 : Int) < 3; decide), _, _, rfl, rfl, ?_⟩⟩⟩
        dsimp only
        generalize ha : 1 + ds.getD (16 + i) 0 % 9 = ta
        generalize hb : 1 + ds.getD (21 + i) 0 % 3 = tb
        refine ⟨ta, tb, rfl, (by omega), Nat.lt_of_lt_of_le (show tb.natAbs < 2 ^ 2 by omega) (two_le (by decide)), fun q nq => ?_⟩
        have sq := Same.new (o := frO (Rat.divInt ta tb)) nq
        have fq : FrN (upd H4 q (frO (Rat.divInt ta tb))) (.ref q) (Rat.divInt ta tb) := ⟨q, rfl, upd_same⟩
        have bq : Bd 9 (Rat.divInt ta tb) := divInt_bd (by omega) (by omega) (by omega)
        have rq := div_posI (t := ta) (b := tb) (by omega) (by omega)
        generalize upd H4 q (frO (Rat.divInt ta tb)) = H5 at sq fq
        refine ⟨(by show 2 ≤ sizeLine; decide), fun tp ntp => ?_⟩
        have s6 := sq.news (o := .tup [uu, .ref q]) ntp
        have htp : upd H5 tp (.tup [uu, .ref q]) tp = some (.tup [uu, .ref q]) := upd_same
        have sn := Same.new (o := .tup [uu, .ref q]) ntp
        generalize upd H5 tp (.tup [uu, .ref q]) = H6 at s6 htp sn ⊢
        have hfo6 := s6 _ _ hfo4
        have lw := pr_len hws
        refine ⟨fo, _, _, rfl, rfl, hfo6, szl (by omega), ?_⟩
        have tu := Tu.upd (o := .lst (ws ++ [.ref tp])) hfo6 trivial
        refine ⟨⟨_, _, _, rfl⟩, (s4.trans s6).mut nfo, ws ++ [.ref tp], hs ++ [(xu, Rat.divInt ta tb)], upd_same, ?_, by rw [List.length_append, hl]; rfl, fun h hh => ?_⟩
        · exact pr_snoc ⟨tp, uu, .ref q, rfl, SqT.of (tu.t _ _ htp), (fu.fr.mono s6.tu).mono tu, (fq.fr.mono sn.tu).mono tu⟩ (pr_mono hws4 fun _ _ h => (h.mono s6.tu).mono tu)
        · rcases List.mem_append.mp hh with hh | hh
          · exact hg h hh
          · rw [List.mem_singleton.mp hh]
            exact ⟨bu, bq, ru.1, ru.2, rq⟩
    · rintro σ H1 ⟨⟨c3, c4, c5, rfl⟩, s2, ws, hs, hfo, hws, hl, hg⟩
      exact ⟨_, rfl, k _ fo ws hs s2 hfo hws (by omega) hg⟩
end
end PF
end
section
set_option maxHeartbeats 4000000
/-! Gaps and spots: plain Lean. -/
namespace PF
theorem len_le_sum : ∀ {l : List Int}, (∀ x ∈ l, 1 ≤ x) → (l.length : Int) ≤ l.sum
  | [], _ => by simp
  | x :: l, h => by
    have h1 := h x List.mem_cons_self
    have h2 := len_le_sum fun y hy => h y (List.mem_cons_of_mem _ hy)
    rw [List.sum_cons, List.length_cons]
    omega
theorem sum_le_30 : ∀ {l : List Int}, (∀ x ∈ l, x ≤ 30) → l.sum ≤ 30 * (l.length : Int)
  | [], _ => by simp
  | x :: l, h => by
    have h1 := h x List.mem_cons_self
    have h2 := sum_le_30 fun y hy => h y (List.mem_cons_of_mem _ hy)
    rw [List.sum_cons, List.length_cons]
    omega
theorem take_sum_lt {g : List Int} (h : ∀ x ∈ g, 1 ≤ x) {i j : Nat} (hij : i < j) (hj : j ≤ g.length) : (g.take i).sum < (g.take j).sum := by
  have e : g.take j = g.take i ++ (g.drop i).take (j - i) := by
    have : j = i + (j - i) := by omega
    conv => lhs; rw [this, List.take_add]
  rw [e, List.sum_append]
  have := len_le_sum (l := (g.drop i).take (j - i)) fun x hx => h x (List.mem_of_mem_drop (List.mem_of_mem_take hx))
  rw [List.length_take, List.length_drop] at this
  omega
def spotsG (g : List Int) (n : Nat) : List Int := (List.range n).map fun k => (g.take (k + 1)).sum
theorem spotsG_len (g : List Int) (n : Nat) : (spotsG g n).length = n := by
  unfold spotsG
  simp
theorem goodP_of {g : List Int} {n : Nat} (h1 : 1 ≤ n) (hn : n ≤ 4) (hl : g.length = n + 1) (lo : ∀ x ∈ g, 1 ≤ x) (hi : ∀ x ∈ g, x ≤ 30) {ss : List (Int × Rat)} (e : ss.map (·.1) = spotsG g n) (st : ∀ s ∈ ss, Bd 320 s.2 ∧ 0 ≤ s.2) : GoodP g.sum ss ∧ g.sum ≤ 150 ∧ ss.length = n := by
  have a := len_le_sum lo
  have b := sum_le_30 hi
  have el : ss.length = n := by
    have := congrArg List.length e
    rw [List.length_map, spotsG_len] at this
    exact this
  refine ⟨⟨by omega, by omega, by omega, fun s hs => ?_, ?_⟩, by omega, el⟩
  · have hm : s.1 ∈ spotsG g n := by
      rw [← e]
      exact List.mem_map.mpr ⟨s, hs, rfl⟩
    unfold spotsG at hm
    obtain ⟨k, hk, ek⟩ := List.mem_map.mp hm
    rw [List.mem_range] at hk
    have p := take_sum_lt lo (i := 0) (j := k + 1) (by omega) (by omega)
    have q := take_sum_lt lo (i := k + 1) (j := n + 1) (by omega) (by omega)
    rw [show g.take (n + 1) = g from List.take_of_length_le (by omega)] at q
    simp at p
    exact ⟨by rw [← ek]; simpa using p, by rw [← ek]; exact q, (st s hs).1, (st s hs).2⟩
  · rw [e]
    unfold spotsG
    rw [List.pairwise_map]
    refine List.Pairwise.imp_of_mem (R := fun a b : Nat => a < b) (fun {a b} ha hb hab => ?_) List.pairwise_lt_range
    rw [List.mem_range] at hb
    exact take_sum_lt lo (by omega) (by omega)
end PF
end
section
set_option maxHeartbeats 4000000
set_option exponentiation.threshold 20000
namespace PF
open PySem L2
theorem good9 {long : Int} {h : Rat × Rat} (g : Good9 long h) : GoodH long h := ⟨g.1.mono (by decide), g.2.1.mono (by decide), g.2.2.1, g.2.2.2.1, g.2.2.2.2⟩
theorem load9 {W : Wd} (G : GoodP W.long W.ss) (few : W.heavy.length ≤ 5) (g9 : ∀ h ∈ W.heavy, Good9 W.long h) {k : Ky} (g : GoodKey W.ss.length k) : Bd 201 (loadOf W k) := by
  have h := foldl_bd (b := 39) (W.heavy.map fun h => h.2 * share W k h.1) 0 1 bd0 fun q hq => by
    obtain ⟨h, hh, rfl⟩ := List.mem_map.mp hq
    have e := g9 h hh
    exact (e.2.1.mul (share_bd G g e.1)).mono (by decide)
  refine h.mono ?_
  rw [List.length_map]
  omega
/-- all but a stand as they stood -/
def But (a : Addr) (H H' : Hp) : Prop := ∀ b u, b ≠ a → H b = some u → H' b = some u
theorem But.same {a : Addr} {H H' : Hp} (s : Same H H') : But a H H' := fun b u _ e => s b u e
theorem But.trans {a : Addr} {H H1 H2 : Hp} (s : But a H H1) (t : But a H1 H2) : But a H H2 := fun b u n e => t b u n (s b u n e)
theorem But.upd {a : Addr} {H : Hp} {o : HO} : But a H (L2.upd H a o) := fun b u n e => by
  rw [upd_ne n]
  exact e
theorem But.mut {a : Addr} {H0 H H' : Hp} (s : Same H0 H) (n : H0 a = none) (t : But a H H') : Same H0 H' := fun b u e => t b u (ne_of_none e n) (s b u e)
def spWorld (K : PySem.W.Frag) : Sp := fun vs H Q _ => ∃ (dl : Addr) (ds : List Int) (most : Int), vs = [.ref dl, .int most] ∧ H dl = some (.lst (ds.map V.int)) ∧ ds.length = 80 ∧ Dig ds ∧ 1 ≤ most ∧ most ≤ 4 ∧
  ∀ H' v W, Same H H' → WFull K H' v W → GoodP W.long W.ss → W.long ≤ 150 → 1 ≤ W.ss.length → W.ss.length ≤ 4 → W.heavy.length ≤ 5 → (∀ h ∈ W.heavy, Good9 W.long h) → (∀ s ∈ W.ss, Bd 208 s.2) → Q v H'
theorem wide_at (z : Int) (h0 : 0 ≤ z) (h1 : z < 4) : ∃ wd : Int, 1 ≤ wd ∧ wd ≤ 30 ∧ atI [V.int 1, V.int 2, V.int 5, V.int 30] z = some (.int wd) := by
  have h : z = 0 ∨ z = 1 ∨ z = 2 ∨ z = 3 := by omega
  rcases h with rfl | rfl | rfl | rfl
  · exact ⟨1, by decide, by decide, rfl⟩
  · exact ⟨2, by decide, by decide, rfl⟩
  · exact ⟨5, by decide, by decide, rfl⟩
  · exact ⟨30, by decide, by decide, rfl⟩
theorem gaps_take (g : List Int) (k : Nat) : cutV (g.map V.int) none (some ((k : Int) + 1)) = (g.take (k + 1)).map V.int := by
  have := cut_to (g.map V.int) (k + 1)
  rw [List.map_take]
  exact this
def r12 : Rat := ⟨-1, 2, by decide, by decide⟩
def r13 : Rat := ⟨1, 3, by decide, by decide⟩
theorem six_at {K : PySem.W.Frag} {H : Hp} {vs : List V} {qs : List Rat} (h : Paired (Fr K H) vs qs) (hl : qs.length = 6) (hb : ∀ q ∈ qs, Bd 6 q) {z : Int} (h0 : 0 ≤ z) (h1 : z < 6) : ∃ v q, atI vs z = some v ∧ Fr K H v q ∧ Bd 6 q := by
  have lv := pr_len h
  have hz : z.toNat < qs.length := by omega
  obtain ⟨v, e, f⟩ := pr_get h (List.getElem?_eq_getElem hz)
  exact ⟨v, _, at_of (j := z.toNat) (by omega) e, f, hb _ (List.getElem_mem hz)⟩
section
variable {P : Program} {w : World} {K : PySem.W.Frag} {mg : Str → Option Value} {base : Heap} {aN aO : Addr} {tL tM tP : Tok} {CPlank CLoads : Addr}
abbrev s_law_world : Stmt := topS 65
abbrev n_law_world : List Str := ["_law_digits_here", "_law_most", "_law_many", "_law_wide", "_law_gaps", "_law_k", "_law_world_here", "_law_much", "_law_more"]
theorem sc_law_world : FnScope n_law_world ["_law_digits_here", "_law_most"] (defScope s_law_world) := ⟨rfl, rfl, rfl, by decide +kernel, rfl, by decide +kernel, by decide +kernel⟩
theorem ok_law_world {f : Addr} {fd : FuncData} (F : Fun K "_law_world" "_law_world" s_law_world f fd) (T : Txt K mg aN aO tL tM tP) (G_law_heavy : Fn P w K mg base 2 "_law_heavy" ["_law_digits_here", "_law_world_here"] (spHeavy K)) (G_law_load : Fn P w K mg base 3 "_law_load" ["_law_world_here", "_law_heavy_here", "_law_key"] (spLawLoad K)) (G_law_plus : Fn P w K mg base 2 "_law_plus" ["_law_one", "_law_other"] (sp2 K (fun a b => a + b) (fun _ _ => True))) : FnOk P w K mg base CX0 4 f fd ["_law_digits_here", "_law_most"] (spWorld K) := by
  have sc := sc_law_world
  refine F.ok sc (fun vs H Q E h => ?_) (fun cdv A outer s H vs Q E hr h => ?_)
  · (repeat (rcases h with ⟨_, h⟩))
    subst_vars
    rfl
  · obtain ⟨dl, ds, most, rfl, hdl, hlen, hD, m1, m4, k⟩ := h
    have bd := dig_bd hD
    refine ⟨_, (pss_cons (ps_set (i := 2) sc.nd rfl (Or.inl rfl) (pe_op op_add pe_int (pe_op op_mod (pe_callTy call_int1 (by rfl) T.bint (by decide +kernel) (pa_cons (pe_ix (ixL K) (pv 0) pe_int (fun _ _ => rfl)) pa_nil)) (pv 1))))
 (pss_cons (ps_set (i := 3) sc.nd rfl (Or.inr rfl) (pe_ix (ixL K) (pe_lst (pa_cons pe_int (pa_cons pe_int (pa_cons pe_int (pa_cons pe_int pa_nil))))) (pe_op op_mod (pe_callTy call_int1 (by rfl) T.bint (by decide +kernel) (pa_cons (pe_ix (ixL K) (pv 0) pe_int (fun _ _ => rfl)) pa_nil)) pe_int) (fun _ _ => rfl)))
 (pss_cons (ps_set (i := 4) sc.nd rfl (Or.inr rfl) (pe_lc (own := [("_law_k", 5)]) (g := (gName 5)) rfl sc.nd (pi_range1 rfl T.brange (pa_cons (pe_op op_add (pv 2) pe_int) pa_nil)) (blkOk_by (N := n_law_world) (sc := defScope s_law_world) (own := [("_law_k", 5)]) (by decide +kernel)) (fun _ _ _ _ _ => (pg_name (i := 5) sc.nd rfl (Or.inl rfl))) (fun _ _ _ _ _ => pts_nil) (fun _ _ _ _ _ => (pe_op op_add pe_int (pe_op op_mod (pe_callTy call_int1 (by rfl) T.bint (by decide +kernel) (pa_cons (pe_ix (ixL K) (pv 0) (pe_op op_add pe_int (pv 5)) (fun _ _ => rfl)) pa_nil)) (pv 3))))))
 (pss_cons (ps_set (i := 6) sc.nd rfl (Or.inl rfl) (pe_disp (pps_cons pe_str (pe_callB (cSum K rfl) (by rfl) T.bsum (by decide +kernel) (pa_cons (pv 4) pa_nil)) (pps_cons pe_str (pe_lc (own := [("_law_k", 5)]) (g := (gName 5)) rfl sc.nd (pi_range1 rfl T.brange (pa_cons (pv 2) pa_nil)) (blkOk_by (N := n_law_world) (sc := defScope s_law_world) (own := [("_law_k", 5)]) (by decide +kernel)) (fun _ _ _ _ _ => (pg_name (i := 5) sc.nd rfl (Or.inl rfl))) (fun _ _ _ _ _ => pts_nil) (fun _ _ _ _ _ => (pe_callB (cSum K rfl) (by rfl) T.bsum (by decide +kernel) (pa_cons (pe_slice (slL K) (pv 4) po_none (po_some (pe_op op_add (pv 5) pe_int))) pa_nil)))) pps_nil)) (by rfl) (by rfl) (fun z => by cases z) (by decide)))
 (pss_cons (ps_dput (hu_of hr) (pv 6) pe_str (pe_fn G_law_heavy hr (pa_cons (pe_slice (slL K) (pv 0) (po_some pe_int) po_none) (pa_cons (pv 6) pa_nil))) rfl)
 (pss_cons (ps_dput (hu_of hr) (pv 6) pe_str (pe_lst pa_nil) rfl)
 (pss_cons (ps_for PassesOwn.never rfl (pi_range1 rfl T.brange (pa_cons (pv 2) pa_nil)) (pg_name (i := 5) sc.nd rfl (Or.inl rfl))
 (pss_cons (ps_set (i := 7) sc.nd rfl (Or.inl rfl) (pe_fn G_law_load hr (pa_cons (pv 6) (pa_cons (pe_dget (hu_of hr) (pv 6) pe_str (fun _ _ => rfl)) (pa_cons (pe_tup (pa_cons (pe_op op_sub (pv 5) pe_int) (pa_cons (pv 5) (pa_cons (pe_op op_add (pv 5) pe_int) pa_nil)))) pa_nil)))))
 (pss_cons (ps_set (i := 8) sc.nd rfl (Or.inl rfl) (pe_ix (ixL K) (pe_lst (pa_cons (pe_tup (pa_cons pe_int (pa_cons pe_int pa_nil))) (pa_cons (pe_tup (pa_cons (pe_un un_neg pe_int) (pa_cons pe_int pa_nil))) (pa_cons (pe_tup (pa_cons pe_int (pa_cons pe_int pa_nil))) (pa_cons (pe_tup (pa_cons pe_int (pa_cons pe_int pa_nil))) (pa_cons (pe_tup (pa_cons pe_int (pa_cons pe_int pa_nil))) (pa_cons (pe_tup (pa_cons (pe_op op_mod (pe_callTy call_int1 (by rfl) T.bint (by decide +kernel) (pa_cons (pe_ix (ixL K) (pv 0) (pe_op op_add pe_int (pv 5)) (fun _ _ => rfl)) pa_nil)) pe_int) (pa_cons pe_int pa_nil))) pa_nil))))))) (pe_op op_mod (pe_callTy call_int1 (by rfl) T.bint (by decide +kernel) (pa_cons (pe_ix (ixL K) (pv 0) (pe_op op_add pe_int (pv 5)) (fun _ _ => rfl)) pa_nil)) pe_int) (fun _ _ => rfl)))
 (pss_cons (ps_set (i := 7) sc.nd rfl (Or.inl rfl) (pe_fn G_law_plus hr (pa_cons (pv 7) (pa_cons (pv 8) pa_nil))))
 (pss_one (ps_expr (pe_bm PySem.F.plainAttrs_list PySem.F.slot_list_append PySem.F.type_list_append mt_append (pe_dget (hu_of hr) (pv 6) pe_str (fun _ _ => rfl)) (pa_cons (pe_ix (ixL K) (pe_lst (pa_cons (pv 7) (pa_cons (pe_tup (pa_cons pe_int (pa_cons pe_int pa_nil))) pa_nil))) (pe_callTy call_int1 (by rfl) T.bint (by decide +kernel) (pa_cons (pe_cmpR op_lt (pe_ix (ixT K) (pv 7) pe_int (fun _ _ => rfl)) pe_int (nomark _)) pa_nil)) (fun _ _ => rfl)) pa_nil))))))))
 (pss_one (ps_ret (pv 6)))))))))), ?_⟩
    have b0 := bd 0
    have b1 := bd 1
    have sd0 := SqL.of (K := K) hdl
    refine ⟨_, rfl, dl, _, _, _, rfl, rfl, sd0, at_of (j := 0) rfl (dat (by omega)), .inl ⟨_, rfl, _, rfl, _, _, rfl, rfl, (by show (0 : Int) < most; omega), _, _, rfl, rfl, ?_⟩⟩
    dsimp only
    have e0 := Int.emod_nonneg (ds.getD 0 0) (b := most) (by omega)
    have e1 := Int.emod_lt_of_pos (ds.getD 0 0) (b := most) (by omega)
    obtain ⟨n, hn⟩ : ∃ n : Nat, 1 + ds.getD 0 0 % most = (n : Int) := ⟨(1 + ds.getD 0 0 % most).toNat, by omega⟩
    rw [hn]
    have n1 : 1 ≤ n := by omega
    have n4 : n ≤ 4 := by omega
    refine ⟨(by show 4 ≤ sizeLine; decide), fun l0 nl0 => ?_⟩
    have s1 := Same.new (o := .lst [.int 1, .int 2, .int 5, .int 30]) nl0
    have hl0 : upd H l0 (.lst [.int 1, .int 2, .int 5, .int 30]) l0 = some (.lst [.int 1, .int 2, .int 5, .int 30]) := upd_same
    generalize upd H l0 (.lst [.int 1, .int 2, .int 5, .int 30]) = H1 at s1 hl0 ⊢
    obtain ⟨wd, w1, w30, hwd⟩ := wide_at (ds.getD 1 0 % 4) (by omega) (by omega)
    refine ⟨_, rfl, dl, _, _, _, rfl, rfl, SqL.of (s1 _ _ hdl), at_of (j := 1) rfl (dat (by omega)), .inl ⟨_, rfl, _, _, rfl, rfl, (by show (0 : Int) < 4; decide), l0, _, _, _, rfl, rfl, SqL.of hl0, hwd, ?_⟩⟩
    refine ⟨_, rfl, _, _, rfl, rfl, _, rfl, by omega, by omega, fun D nD => ?_⟩
    dsimp only
    rw [show ((n : Int) + 1).toNat = n + 1 by omega]
    refine lc_map walk_rg0 (fun i => 1 + ds.getD (2 + i) 0 % wd) (fun _ v a => v = V.int a) (fun _ _ _ _ _ h => h) nD (by omega) (fun _ _ => trivial) (fun i y H2 H3 hi s2 yy => ?_) (fun H2 ys s2 hDg hys => ?_)
    · obtain ⟨rfl, rfl⟩ := yy
      refine ⟨Same.refl _, fun Qk kk => ?_⟩
      exact ⟨rfl, _, rfl, _, rfl, _, _, rfl, rfl, dl, _, _, _, rfl, rfl, SqL.of ((s1.trans s2) _ _ hdl), at_of (j := 2 + i) (by omega) (dat (by omega)), .inl ⟨_, rfl, _, rfl, _, _, rfl, rfl, (by show (0 : Int) < wd; omega), _, _, rfl, rfl, kk _ _ (Same.refl _) rfl⟩⟩
    have ey := ints_pr hys
    subst ey
    have glo : ∀ x ∈ (List.range (n + 1)).map (fun i => 1 + ds.getD (2 + i) 0 % wd), 1 ≤ x := fun x hx => by
      obtain ⟨i, _, rfl⟩ := List.mem_map.mp hx
      have := Int.emod_nonneg (ds.getD (2 + i) 0) (b := wd) (by omega)
      omega
    have ghi : ∀ x ∈ (List.range (n + 1)).map (fun i => 1 + ds.getD (2 + i) 0 % wd), x ≤ 30 := fun x hx => by
      obtain ⟨i, _, rfl⟩ := List.mem_map.mp hx
      have := Int.emod_lt_of_pos (ds.getD (2 + i) 0) (b := wd) (by omega)
      omega
    have gl : ((List.range (n + 1)).map (fun i => 1 + ds.getD (2 + i) 0 % wd)).length = n + 1 := by simp
    generalize (List.range (n + 1)).map (fun i => 1 + ds.getD (2 + i) 0 % wd) = g at hDg glo ghi gl
    have s02 := s1.trans s2
    refine fun d nd => ?_
    have s3 := s02.news (o := .dK []) nd
    have hd3 : upd H2 d (.dK []) d = some (.dK []) := upd_same
    have hg3 := (Same.new (o := .dK []) nd) _ _ hDg
    have ndH : H d = none := s02.free nd
    generalize upd H2 d (.dK []) = H3 at s3 hd3 hg3 ⊢
    refine ⟨_, rfl, D, g, rfl, SqL.of hg3, ?_⟩
    refine ⟨_, rfl, _, rfl, by omega, by omega, fun D2 nD2 => lc_map walk_rg0 (fun k => (g.take (k + 1)).sum) (fun _ v a => v = V.int a) (fun _ _ _ _ _ h => h) nD2 (by omega) (fun _ _ => trivial) (fun i y H4 H5 hi s4 yy => ?_) (fun H4 ys s4 hsp hys => ?_)⟩
    · obtain ⟨rfl, rfl⟩ := yy
      refine ⟨Same.refl _, fun Qk kk => ?_⟩
      refine ⟨rfl, _, rfl, _, rfl, _, _, rfl, rfl, _, rfl, D, _, rfl, SqL.of (s4 _ _ hg3), fun p np => ?_⟩
      exact ⟨p, g.take (i + 1), rfl, SqL.of (by rw [← gaps_take]; exact upd_same), kk _ _ (Same.new np) rfl⟩
    have ey := ints_pr hys
    subst ey
    have hd4 := s4 _ _ hd3
    have hsp2 : H4 D2 = some (.lst ((spotsG g n).map V.int)) := hsp
    have s04 := s3.trans s4
    refine ⟨hd4, [(Sum.inr "long", .int g.sum), (Sum.inr "spots", .ref D2)], rfl, (by show 2 ≤ 15; decide), ?_⟩
    generalize hkv : mergeK [] [(Sum.inr "long", V.int g.sum), (Sum.inr "spots", V.ref D2)] = kv1
    have kl : valV kv1 (Sum.inr ("long" : Str)) = some (.int g.sum) := by subst hkv; rfl
    have ks : valV kv1 (Sum.inr ("spots" : Str)) = some (.ref D2) := by subst hkv; rfl
    have kn : kv1.length ≤ 10 := by
      subst hkv
      have := length_mergeK [((Sum.inr "long" : Key), V.int g.sum), (Sum.inr "spots", V.ref D2)] []
      simp only [List.length_cons, List.length_nil] at this
      omega
    have s5 : Same H (upd H4 d (.dK kv1)) := s04.mut ndH
    have hd5 : upd H4 d (.dK kv1) d = some (.dK kv1) := upd_same
    have hsp5 : upd H4 d (.dK kv1) D2 = some (.lst ((spotsG g n).map V.int)) := by
      rw [upd_ne (fun z => by rw [z, hd4] at hsp2; cases hsp2)]
      exact hsp2
    generalize upd H4 d (.dK kv1) = H5 at s5 hd5 hsp5 ⊢
    have e0 : ((spotsG g n).map fun z => (z, (0 : Rat))).map (·.1) = spotsG g n := by
      rw [List.map_map]
      exact (List.map_congr_left fun _ _ => rfl).trans (List.map_id _)
    obtain ⟨GP0, g150, gln⟩ := goodP_of n1 n4 gl glo ghi (ss := (spotsG g n).map fun z => (z, (0 : Rat))) e0 (fun s hs => by
      obtain ⟨z, _, rfl⟩ := List.mem_map.mp hs
      exact ⟨bd0.mono (by decide), Rat.le_refl⟩)
    refine ⟨_, rfl, _, rfl, dl, _, rfl, SqL.of (s5 _ _ hdl), fun p np => ?_⟩
    rw [show cutV (ds.map V.int) (some 10) none = (ds.map V.int).drop 10 from cut_from _ 10, ← List.map_drop]
    have s6 := Same.new (o := .lst ((ds.drop 10).map V.int)) np
    have hp : upd H5 p (.lst ((ds.drop 10).map V.int)) p = some (.lst ((ds.drop 10).map V.int)) := upd_same
    generalize upd H5 p (.lst ((ds.drop 10).map V.int)) = H6 at s6 hp ⊢
    have wls : ∀ (Hx : Hp) (kv : List (Key × V)) (hs : List (Rat × Rat)), Hx d = some (.dK kv) → valV kv (Sum.inr ("long" : Str)) = some (.int g.sum) → valV kv (Sum.inr ("spots" : Str)) = some (.ref D2) → Hx D2 = some (.lst ((spotsG g n).map V.int)) → WLS Hx (.ref d) ⟨g.sum, (spotsG g n).map fun z => (z, (0 : Rat)), hs⟩ := fun Hx kv hs a b c e => ⟨d, D2, kv, rfl, a, b, c, by rw [e0]; exact e⟩
    refine ⟨_, rfl, p, ds.drop 10, .ref d, ⟨g.sum, (spotsG g n).map fun z => (z, (0 : Rat)), []⟩, rfl, hp, by rw [List.length_drop]; omega, fun x hx => hD x (List.mem_of_mem_drop hx), wls H6 kv1 [] (s6 _ _ hd5) kl ks (s6 _ _ hsp5), GP0, g150, by show 1 ≤ ((spotsG g n).map fun z => (z, (0 : Rat))).length; omega, fun H7 lw ws hs s7 hlw hws hlh hg9 => ?_⟩
    have s57 := s6.trans s7
    have hd7 := s57 _ _ hd5
    refine ⟨_, rfl, d, _, rfl, DPut.k (k := Sum.inr ("heavy" : Str)) hd7 (szl (by omega)), ?_⟩
    have hlw7 : lw ≠ d := fun z => by rw [z, hd7] at hlw; cases hlw
    have kl2 : valV (putK kv1 (Sum.inr "heavy") (.ref lw)) (Sum.inr ("long" : Str)) = some (.int g.sum) := by rw [valV_put, if_neg (by decide)]; exact kl
    have ks2 : valV (putK kv1 (Sum.inr "heavy") (.ref lw)) (Sum.inr ("spots" : Str)) = some (.ref D2) := by rw [valV_put, if_neg (by decide)]; exact ks
    have kh2 : valV (putK kv1 (Sum.inr "heavy") (.ref lw)) (Sum.inr ("heavy" : Str)) = some (.ref lw) := by rw [valV_put, if_pos rfl]
    have kn2 := length_putK kv1 (Sum.inr "heavy") (V.ref lw)
    generalize putK kv1 (Sum.inr "heavy") (V.ref lw) = kv2 at kl2 ks2 kh2 kn2 ⊢
    have tu8 := Tu.upd (o := .dK kv2) hd7 trivial
    have s8 : Same H (upd H7 d (.dK kv2)) := (s5.trans s57).mut ndH
    have hd8 : upd H7 d (.dK kv2) d = some (.dK kv2) := upd_same
    have hsp8 : upd H7 d (.dK kv2) D2 = some (.lst ((spotsG g n).map V.int)) := by
      have h := s57 _ _ hsp5
      rw [upd_ne (fun z => by rw [z, hd7] at h; cases h)]
      exact h
    have hlw8 : upd H7 d (.dK kv2) lw = some (.lst ws) := by rw [upd_ne hlw7]; exact hlw
    have hws8 := pr_mono hws fun _ _ h => h.mono tu8
    generalize upd H7 d (.dK kv2) = H8 at s8 hd8 hsp8 hlw8 hws8 ⊢
    refine ⟨by show 0 ≤ sizeLine; decide, fun sl nsl => ?_⟩
    have s9 := Same.new (o := .lst []) nsl
    have hsl9 : upd H8 sl (.lst []) sl = some (.lst []) := upd_same
    have nslH : H sl = none := s8.free nsl
    generalize upd H8 sl (.lst []) = H9 at s9 hsl9 ⊢
    have hd9 := s9 _ _ hd8
    refine ⟨_, rfl, d, _, rfl, DPut.k (k := Sum.inr ("strong" : Str)) hd9 (szl (by omega)), ?_⟩
    have kl3 : valV (putK kv2 (Sum.inr "strong") (.ref sl)) (Sum.inr ("long" : Str)) = some (.int g.sum) := by rw [valV_put, if_neg (by decide)]; exact kl2
    have ks3 : valV (putK kv2 (Sum.inr "strong") (.ref sl)) (Sum.inr ("spots" : Str)) = some (.ref D2) := by rw [valV_put, if_neg (by decide)]; exact ks2
    have kh3 : valV (putK kv2 (Sum.inr "strong") (.ref sl)) (Sum.inr ("heavy" : Str)) = some (.ref lw) := by rw [valV_put, if_neg (by decide)]; exact kh2
    have kg3 : valV (putK kv2 (Sum.inr "strong") (.ref sl)) (Sum.inr ("strong" : Str)) = some (.ref sl) := by rw [valV_put, if_pos rfl]
    have kn3 := length_putK kv2 (Sum.inr "strong") (V.ref sl)
    generalize putK kv2 (Sum.inr "strong") (V.ref sl) = kv3 at kl3 ks3 kh3 kg3 kn3 ⊢
    have tu10 := Tu.upd (o := .dK kv3) hd9 trivial
    have sH : Same H (upd H9 d (.dK kv3)) := (s8.trans s9).mut ndH
    have hd : upd H9 d (.dK kv3) d = some (.dK kv3) := upd_same
    have other : ∀ b o, H9 b = some (.lst o) → upd H9 d (.dK kv3) b = some (.lst o) := fun b o h => by
      rw [upd_ne (fun z => by rw [z, hd9] at h; cases h)]
      exact h
    have hspA := other _ _ (s9 _ _ hsp8)
    have hlwA := other _ _ (s9 _ _ hlw8)
    have hslA := other _ _ hsl9
    have hwsA := pr_mono hws8 fun _ _ h => (h.mono s9.tu).mono tu10
    generalize upd H9 d (.dK kv3) = HA at sH hd hspA hlwA hslA hwsA ⊢
    have nds : d ≠ sl := fun z => by rw [z, hslA] at hd; cases hd
    have nps : D2 ≠ sl := ne_of_none hsp8 nsl
    have nws : lw ≠ sl := ne_of_none hlw8 nsl
    refine ⟨_, rfl, _, rfl, by omega, by omega, for_it walk_rg0 (fun i σ H' => (∃ c5 c7 c8, σ = [some (.ref dl), some (.int most), some (.int (n : Int)), some (.int wd), some (.ref D), c5, some (.ref d), c7, c8]) ∧ But sl HA H' ∧ Tu HA H' ∧ ∃ gs qs, H' sl = some (.lst gs) ∧ Paired (Fr K H') gs qs ∧ qs.length = i ∧ ∀ q ∈ qs, Bd 208 q ∧ 0 ≤ q) ⟨⟨_, _, _, rfl⟩, fun b u _ e => e, Tu.refl _, [], [], hslA, .nil, rfl, fun q hq => by simp at hq⟩ (fun _ _ _ _ _ => trivial) ?_ ?_⟩
    · rintro i x σ H1 Hq hi ⟨⟨c5, c7, c8, rfl⟩, bt, tu, gs, qs, hgs, hqs, hql, hqb⟩ ⟨rfl, rfl⟩
      have hi2 : i < n := by omega
      have hd1 := bt _ _ nds hd
      have hlw1 := bt _ _ nws hlwA
      have hsp1 := bt _ _ nps hspA
      have hws1 := pr_mono hwsA fun _ _ h => h.mono tu
      have sf := bt.mut sH nslH
      have gH := DGet.k (k := Sum.inr ("heavy" : Str)) hd1
      rw [kh3] at gH
      have gG := DGet.k (k := Sum.inr ("strong" : Str)) hd1
      rw [kg3] at gG
      have GW0 : GoodW ⟨g.sum, (spotsG g n).map fun z => (z, (0 : Rat)), hs⟩ := ⟨GP0, by show hs.length ≤ 6; omega, fun h hh => good9 (hg9 h hh)⟩
      have gk : GoodKey ((spotsG g n).map fun z => (z, (0 : Rat))).length (((i : Int) - 1, (i : Int), (i : Int) + 1) : Ky) := by
        rw [gln]
        exact ⟨by show -1 ≤ (i : Int) - 1; omega, by show (i : Int) - 1 < (i : Int); omega, by show (i : Int) < (i : Int) + 1; omega, by show (i : Int) + 1 ≤ (n : Int); omega, by show 0 ≤ (i : Int); omega⟩
      refine ⟨_, rfl, _, rfl, d, _, rfl, gd_mono gH (Same.refl _), _, rfl, _, _, rfl, rfl, _, rfl, _, rfl, _, _, rfl, rfl, (by show 3 ≤ sizeLine; decide), fun t nt => ?_⟩
      have st := Same.new (o := .tup [.int ((i : Int) - 1), .int (i : Int), .int ((i : Int) + 1)]) nt
      refine ⟨.ref d, .ref t, lw, ws, ⟨g.sum, (spotsG g n).map fun z => (z, (0 : Rat)), hs⟩, ((i : Int) - 1, (i : Int), (i : Int) + 1), rfl, wls _ kv3 hs (st _ _ hd1) kl3 ks3 (st _ _ hsp1), st _ _ hlw1, pr_mono hws1 fun _ _ h => h.mono st.tu, ⟨t, rfl, SqT.of upd_same⟩, GW0, gk, fun H2 v2 s2' f2 => ?_⟩
      have s2 := st.trans s2'
      have bl := load9 (W := ⟨g.sum, (spotsG g n).map fun z => (z, (0 : Rat)), hs⟩) (k := ((i : Int) - 1, (i : Int), (i : Int) + 1)) GP0 hlh hg9 gk
      generalize loadOf (⟨g.sum, (spotsG g n).map fun z => (z, (0 : Rat)), hs⟩ : Wd) (((i : Int) - 1, (i : Int), (i : Int) + 1) : Ky) = load at f2 bl
      refine ⟨(by show 2 ≤ sizeLine; decide), fun t1 nt1 => ?_⟩
      have u1 := Same.new (o := .tup [.int 0, .int 1]) nt1
      have g1 : FrN (upd H2 t1 (.tup [.int 0, .int 1])) (.ref t1) 0 := ⟨t1, rfl, upd_same⟩
      generalize upd H2 t1 (.tup [.int 0, .int 1]) = J1 at u1 g1 ⊢
      refine ⟨_, rfl, (by show 2 ≤ sizeLine; decide), fun t2 nt2 => ?_⟩
      have u2 := Same.new (o := .tup [.int (-1), .int 2]) nt2
      have g2 : FrN (upd J1 t2 (.tup [.int (-1), .int 2])) (.ref t2) r12 := ⟨t2, rfl, upd_same⟩
      generalize upd J1 t2 (.tup [.int (-1), .int 2]) = J2 at u2 g2 ⊢
      refine ⟨(by show 2 ≤ sizeLine; decide), fun t3 nt3 => ?_⟩
      have u3 := Same.new (o := .tup [.int 1, .int 3]) nt3
      have g3 : FrN (upd J2 t3 (.tup [.int 1, .int 3])) (.ref t3) r13 := ⟨t3, rfl, upd_same⟩
      generalize upd J2 t3 (.tup [.int 1, .int 3]) = J3 at u3 g3 ⊢
      refine ⟨(by show 2 ≤ sizeLine; decide), fun t4 nt4 => ?_⟩
      have u4 := Same.new (o := .tup [.int 1, .int 1]) nt4
      have g4 : FrN (upd J3 t4 (.tup [.int 1, .int 1])) (.ref t4) 1 := ⟨t4, rfl, upd_same⟩
      generalize upd J3 t4 (.tup [.int 1, .int 1]) = J4 at u4 g4 ⊢
      refine ⟨(by show 2 ≤ sizeLine; decide), fun t5 nt5 => ?_⟩
      have u5 := Same.new (o := .tup [.int 4, .int 1]) nt5
      have g5 : FrN (upd J4 t5 (.tup [.int 4, .int 1])) (.ref t5) 4 := ⟨t5, rfl, upd_same⟩
      generalize upd J4 t5 (.tup [.int 4, .int 1]) = J5 at u5 g5 ⊢
      have v15 := (((u1.trans u2).trans u3).trans u4).trans u5
      have sdl5 := (sf.trans s2).trans v15 |>.seq (SqL.of (K := K) hdl)
      have q50 := bd (50 + i)
      have q40 := bd (40 + i)
      refine ⟨_, rfl, _, rfl, _, _, rfl, rfl, dl, _, _, _, rfl, rfl, sdl5, at_of (j := 50 + i) (by omega) (dat (by omega)), .inl ⟨_, rfl, _, _, rfl, rfl, (by show (0 : Int) < 20; decide), (by show 2 ≤ sizeLine; decide), fun t6 nt6 => ?_⟩⟩
      have u6 := Same.new (o := .tup [.int (ds.getD (50 + i) 0 % 20), .int 1]) nt6
      have g6 : FrN (upd J5 t6 (.tup [.int (ds.getD (50 + i) 0 % 20), .int 1])) (.ref t6) ((ds.getD (50 + i) 0 % 20 : Int) : Rat) := ⟨t6, rfl, upd_same⟩
      have b6 : Bd 6 ((ds.getD (50 + i) 0 % 20 : Int) : Rat) := bd_int (by omega) (by decide)
      dsimp only
      generalize ds.getD (50 + i) 0 % 20 = z6 at u6 g6 b6 ⊢
      generalize upd J5 t6 (.tup [.int z6, .int 1]) = J6 at u6 g6 ⊢
      refine ⟨(by show 6 ≤ sizeLine; decide), fun l nl => ?_⟩
      have u7 := Same.new (o := .lst [.ref t1, .ref t2, .ref t3, .ref t4, .ref t5, .ref t6]) nl
      have hl7 : upd J6 l (.lst [.ref t1, .ref t2, .ref t3, .ref t4, .ref t5, .ref t6]) l = some (.lst [.ref t1, .ref t2, .ref t3, .ref t4, .ref t5, .ref t6]) := upd_same
      generalize upd J6 l (.lst [.ref t1, .ref t2, .ref t3, .ref t4, .ref t5, .ref t6]) = J7 at u7 hl7 ⊢
      have v67 := u6.trans u7
      have v57 := u5.trans v67
      have v47 := u4.trans v57
      have v37 := u3.trans v47
      have v27 := u2.trans v37
      have six : Paired (Fr K J7) [.ref t1, .ref t2, .ref t3, .ref t4, .ref t5, .ref t6] [0, r12, r13, 1, 4, (z6 : Rat)] := .cons (g1.fr.mono v27.tu) (.cons (g2.fr.mono v37.tu) (.cons (g3.fr.mono v47.tu) (.cons (g4.fr.mono v57.tu) (.cons (g5.fr.mono v67.tu) (.cons (g6.fr.mono u7.tu) .nil)))))
      obtain ⟨vm, qm, hvm, fvm, bvm⟩ := six_at six rfl (fun q hq => by
        simp only [List.mem_cons, List.not_mem_nil, or_false] at hq
        rcases hq with rfl | rfl | rfl | rfl | rfl | rfl
        · exact bd0.mono (by decide)
        · exact ⟨by decide, by decide⟩
        · exact ⟨by decide, by decide⟩
        · exact bd1.mono (by decide)
        · exact ⟨by decide, by decide⟩
        · exact b6) (z := ds.getD (40 + i) 0 % 6) (by omega) (by omega)
      have s27 := u1.trans v27
      have sdl7 := (sf.trans s2).trans s27 |>.seq (SqL.of (K := K) hdl)
      refine ⟨_, rfl, _, rfl, _, _, rfl, rfl, dl, _, _, _, rfl, rfl, sdl7, at_of (j := 40 + i) (by omega) (dat (by omega)), .inl ⟨_, rfl, _, _, rfl, rfl, (by show (0 : Int) < 6; decide), l, _, _, _, rfl, rfl, SqL.of hl7, hvm, ?_⟩⟩
      refine ⟨_, rfl, _, rfl, v2, vm, load, qm, 201, 6, rfl, f2.mono s27.tu, fvm, bl, bvm, by decide, trivial, fun H4 v4 s4 f4 => ?_⟩
      have b4 : Bd 208 (load + qm) := (bl.add bvm).mono (by decide)
      have f4 : FrN H4 v4 (load + qm) := f4
      generalize load + qm = q4 at f4 b4
      have s14 := (s2.trans s27).trans s4
      have hd4' := s14 _ _ hd1
      have hgs4 := s14 _ _ hgs
      obtain ⟨p4, rfl, hp4⟩ := f4
      refine ⟨_, rfl, d, _, rfl, gd_mono gG s14, .inl ⟨rfl, _, SqL.of hgs4⟩, _, rfl, (by show 2 ≤ sizeLine; decide), fun t7 nt7 => ?_⟩
      have u8 := Same.new (o := .tup [.int 0, .int 1]) nt7
      have g7 : FrN (upd H4 t7 (.tup [.int 0, .int 1])) (.ref t7) 0 := ⟨t7, rfl, upd_same⟩
      generalize upd H4 t7 (.tup [.int 0, .int 1]) = H5' at u8 g7 ⊢
      refine ⟨(by show 2 ≤ sizeLine; decide), fun l2 nl2 => ?_⟩
      have u9 := Same.new (o := .lst [.ref p4, .ref t7]) nl2
      have hl9 : upd H5' l2 (.lst [.ref p4, .ref t7]) l2 = some (.lst [.ref p4, .ref t7]) := upd_same
      generalize upd H5' l2 (.lst [.ref p4, .ref t7]) = H6' at u9 hl9 ⊢
      have hp46 := (u8.trans u9) _ _ hp4
      have pick : ∃ v q, atI [V.ref p4, V.ref t7] (if decide (q4.num < 0) = true then 1 else 0) = some v ∧ Fr K H6' v q ∧ Bd 208 q ∧ 0 ≤ q := by
        by_cases c : q4.num < 0
        · rw [if_pos (decide_eq_true c)]
          exact ⟨.ref t7, 0, rfl, g7.fr.mono u9.tu, bd0.mono (by decide), Rat.le_refl⟩
        · rw [if_neg (by simpa using c)]
          exact ⟨.ref p4, q4, rfl, ⟨p4, rfl, SqT.of hp46⟩, b4, by have := num_ge.mp (show q4.num ≥ 0 by omega); rwa [Rat.not_lt] at this⟩
      obtain ⟨v, q, hat, fv, bv, pv0⟩ := pick
      refine ⟨_, rfl, _, _, _, _, rfl, rfl, SqT.of hp46, rfl, _, _, rfl, rfl, .inr ⟨_, rfl, l2, _, _, _, rfl, rfl, SqL.of hl9, hat, ?_⟩⟩
      have s16 := s14.trans (u8.trans u9)
      have hgs6 := s16 _ _ hgs
      have lg := pr_len hqs
      refine ⟨sl, _, _, rfl, rfl, hgs6, szl (by omega), ?_⟩
      have tuX := Tu.upd (o := .lst (gs ++ [v])) hgs6 trivial
      refine ⟨⟨_, _, _, rfl⟩, (bt.trans (But.same s16)).trans But.upd, (tu.trans s16.tu).trans tuX, gs ++ [v], qs ++ [q], upd_same, pr_snoc (fv.mono tuX) (pr_mono hqs fun _ _ h => (h.mono s16.tu).mono tuX), by rw [List.length_append, hql]; rfl, fun y hy => ?_⟩
      rcases List.mem_append.mp hy with hy | hy
      · exact hqb y hy
      · rw [List.mem_singleton.mp hy]
        exact ⟨bv, pv0⟩
    · rintro σ H1 ⟨⟨c5, c7, c8, rfl⟩, bt, tu, gs, qs, hgs, hqs, hql, hqb⟩
      have hql2 : qs.length = n := hql
      have sf : Same H H1 := bt.mut sH nslH
      have em : ((spotsG g n).zip qs).map (·.1) = spotsG g n := List.map_fst_zip (by rw [spotsG_len]; omega)
      have em2 : ((spotsG g n).zip qs).map (·.2) = qs := List.map_snd_zip (by rw [spotsG_len]; omega)
      have hmem : ∀ s ∈ (spotsG g n).zip qs, Bd 208 s.2 ∧ 0 ≤ s.2 := fun s hs => hqb _ (by rw [← em2]; exact List.mem_map.mpr ⟨s, hs, rfl⟩)
      obtain ⟨GP, _, gln2⟩ := goodP_of n1 n4 gl glo ghi (ss := (spotsG g n).zip qs) em (fun s hs => ⟨(hmem s hs).1.mono (by decide), (hmem s hs).2⟩)
      refine ⟨_, rfl, k _ (.ref d) ⟨g.sum, (spotsG g n).zip qs, hs⟩ sf ⟨d, D2, sl, lw, kv3, gs, ws, rfl, bt _ _ nds hd, kl3, ks3, by rw [em]; exact bt _ _ nps hspA, kg3, hgs, by rw [em2]; exact hqs, kh3, bt _ _ nws hlwA, pr_mono hwsA fun _ _ h => h.mono tu, by omega⟩ GP g150 (by show 1 ≤ ((spotsG g n).zip qs).length; omega) (by show ((spotsG g n).zip qs).length ≤ 4; omega) hlh hg9 fun s hs => (hmem s hs).1⟩
end
end PF
end
section
set_option maxHeartbeats 4000000
set_option exponentiation.threshold 20000
namespace PF
open PySem L2
def spMade (K : PySem.W.Frag) (CP : Addr) : Sp := fun vs H Q _ => ∃ (v : V) (W : Wd), vs = [v] ∧ WSt K H v W ∧ GoodP W.long W.ss ∧ ∀ H' q, Same H H' → PlankAt K CP H' q W.long W.ss → Q q H'
section
variable {P : Program} {w : World} {K : PySem.W.Frag} {mg : Str → Option Value} {base : Heap} {aN aO : Addr} {tL tM tP : Tok} {CPlank CLoads : Addr}
abbrev s_law_made : Stmt := topS 66
abbrev n_law_made : List Str := ["_law_world_here"]
theorem sc_law_made : FnScope n_law_made ["_law_world_here"] (defScope s_law_made) := ⟨rfl, rfl, rfl, by decide +kernel, rfl, by decide +kernel, by decide +kernel⟩
theorem ok_law_made {f : Addr} {fd : FuncData} (F : Fun K "_law_made" "_law_made" s_law_made f fd) (T : Txt K mg aN aO tL tM tP) (G_Plank___init__ : CFn P w K mg base 6 CPlank "Plank" ["self", "length", "props", "bend"] [.non] (spPlankInit K CPlank)) : FnOk P w K mg base CX0 8 f fd ["_law_world_here"] (spMade K CPlank) := by
  have sc := sc_law_made
  refine F.ok sc (fun vs H Q E h => ?_) (fun cdv A outer s H vs Q E hr h => ?_)
  · (repeat (rcases h with ⟨_, h⟩))
    subst_vars
    rfl
  · obtain ⟨v, W, rfl, WS, GP, k⟩ := h
    obtain ⟨d, ls, lg, kvs, gs, rfl, hd, hlong, hspots, hls, hstrong, hlg, hgs⟩ := id WS
    have gL := DGet.k (k := Sum.inr ("long" : Str)) hd
    rw [hlong] at gL
    have gS := DGet.k (k := Sum.inr ("spots" : Str)) hd
    rw [hspots] at gS
    have gG := DGet.k (k := Sum.inr ("strong" : Str)) hd
    rw [hstrong] at gG
    have lg2 := pr_len hgs
    rw [List.length_map] at lg2
    refine ⟨_, (pss_one (ps_ret (pe_mk G_Plank___init__ hr (pa_cons (pe_dget (hu_of hr) (pv 0) pe_str (fun _ _ => rfl)) (pa_cons (pe_listZip2 rfl (by rfl) T.blist (by rfl) T.bzip (pa_cons (pe_dget (hu_of hr) (pv 0) pe_str (fun _ _ => rfl)) (pa_cons (pe_dget (hu_of hr) (pv 0) pe_str (fun _ _ => rfl)) pa_nil))) pa_nil))))), ?_⟩
    refine ⟨_, rfl, d, _, rfl, gd_mono gL (Same.refl _), _, rfl, d, _, rfl, gd_mono gS (Same.refl _), _, rfl, d, _, rfl, gd_mono gG (Same.refl _), ls, lg, _, _, rfl, SqL.of hls, SqL.of hlg, fun p as H1 LD => fun x dx nx ndx ne => ?_⟩
    have hp := LD.2.2.1
    have s1 := LD.1
    have hst : Paired (Stk K H1) (as.map V.ref) W.ss := pr_laid LD (by simp [lg2]) fun j a row b e1 e2 e3 => by
      rw [List.getElem?_zipWith] at e1
      have hj := (List.getElem?_eq_some_iff.mp e2).1
      have eb : W.ss[j] = b := by
        rw [List.getElem?_eq_getElem hj] at e2
        exact Option.some.inj e2
      obtain ⟨gv, hgv, fgv⟩ := pr_get hgs (i := j) (a := b.2) (by rw [List.getElem?_map, e2]; rfl)
      rw [hgv, List.getElem?_map, List.getElem?_map, e2] at e1
      have e4 : row = [.int b.1, gv] := (Option.some.inj e1).symm
      subst e4
      exact ⟨a, gv, rfl, SqT.of e3, fgv.mono s1.tu⟩
    have s2 : Same H1 (upd (upd H1 dx (.own x)) x (.ins CPlank dx [])) := (Same.new ndx).trans (Same.new (by rw [upd_ne (Ne.symm ne)]; exact nx))
    refine ⟨H1, x, dx, p, as.map V.ref, W.long, W.ss, rfl, s2, nx, upd_same, s2 _ _ hp, pr_mono hst fun _ _ h => h.mono s2.tu, GP, fun H' s PL => ⟨rfl, k _ _ (s1.trans s) PL⟩⟩
end
end PF
end
section
set_option maxHeartbeats 4000000
set_option exponentiation.threshold 20000
namespace PF
open PySem L2
theorem goodP_swap {long : Int} {ss ss' : List (Int × Rat)} (G : GoodP long ss) (e : ss'.map (·.1) = ss.map (·.1)) (st : ∀ s ∈ ss', Bd 320 s.2 ∧ 0 ≤ s.2) : GoodP long ss' := by
  have el : ss'.length = ss.length := by
    have := congrArg List.length e
    simpa using this
  refine ⟨G.lo, G.hi, by have := G.few; omega, fun s hs => ?_, by rw [e]; exact G.rise⟩
  have hm : s.1 ∈ ss.map (·.1) := by
    rw [← e]
    exact List.mem_map.mpr ⟨s, hs, rfl⟩
  obtain ⟨z, hz, ez⟩ := List.mem_map.mp hm
  have g := G.each z hz
  have ez : z.1 = s.1 := ez
  exact ⟨by rw [← ez]; exact g.1, by rw [← ez]; exact g.2.1, (st s hs).1, (st s hs).2⟩
theorem ix_nat {n j : Nat} (h : j < n) : ixN n (j : Int) = some j := by
  unfold ixN
  rw [if_pos (by omega), if_pos (by omega)]
  simp
theorem putK_len {kvs : List (Key × V)} {k : Key} {v x : V} (h : valV kvs k = some x) : (putK kvs k v).length = kvs.length := by
  have a : (kvs.any fun kv => decide (kv.1 = k)) = true := by
    rw [valV_any, h]
    rfl
  unfold putK
  rw [if_pos a, List.length_map]
def spFine (K : PySem.W.Frag) : Sp := fun vs H Q _ => ∃ (dl : Addr) (ds : List Int) (v : V) (W : Wd), vs = [.ref dl, v] ∧ H dl = some (.lst (ds.map V.int)) ∧ 12 ≤ ds.length ∧ Dig ds ∧ WFull K H v W ∧ GoodP W.long W.ss ∧ W.long ≤ 150 ∧ 1 ≤ W.ss.length ∧ W.ss.length ≤ 4 ∧ W.heavy.length ≤ 5 ∧ (∀ h ∈ W.heavy, Good9 W.long h) ∧ (∀ s ∈ W.ss, Bd 208 s.2) ∧
  ∀ H' v' W', Same H H' → WFull K H' v' W' → GoodW W' → W'.ss.length ≤ 4 → Q v' H'
theorem pr_set {α : Type} {R : V → α → Prop} {v : V} {a : α} (r : R v a) : ∀ {vs : List V} {as : List α} {j : Nat}, Paired R vs as → Paired R (vs.set j v) (as.set j a)
  | _, _, _, .nil => .nil
  | _, _, 0, .cons _ t => .cons r t
  | _, _, j + 1, .cons q t => .cons q (pr_set r t)
theorem p1009 (i : Nat) (h : i ≤ 9) : (1009 : Int) ^ i ≤ 1009 ^ 9 := by
  have := Nat.pow_le_pow_right (n := 1009) (by decide) h
  have e1 : ((1009 ^ i : Nat) : Int) = (1009 : Int) ^ i := by rw [Int.natCast_pow]; rfl
  have e2 : ((1009 ^ 9 : Nat) : Int) = (1009 : Int) ^ 9 := by rw [Int.natCast_pow]; rfl
  omega
section
variable {P : Program} {w : World} {K : PySem.W.Frag} {mg : Str → Option Value} {base : Heap} {aN aO : Addr} {tL tM tP : Tok} {CPlank CLoads : Addr}
abbrev s_law_fine : Stmt := topS 72
abbrev n_law_fine : List Str := ["_law_digits_here", "_law_world_here", "_law_number", "_law_one", "_law_bottom", "_law_spot", "_law_at_here", "_law_strong", "_law_found"]
theorem sc_law_fine : FnScope n_law_fine ["_law_digits_here", "_law_world_here"] (defScope s_law_fine) := ⟨rfl, rfl, rfl, by decide +kernel, rfl, by decide +kernel, by decide +kernel⟩
theorem ok_law_fine {f : Addr} {fd : FuncData} (F : Fun K "_law_fine" "_law_fine" s_law_fine f fd) (T : Txt K mg aN aO tL tM tP) (G_law_cut : Fn P w K mg base 1 "_law_cut" ["_law_top", "_law_bottom"] spCut) (G_law_plus : Fn P w K mg base 2 "_law_plus" ["_law_one", "_law_other"] (sp2 K (fun a b => a + b) (fun _ _ => True))) : FnOk P w K mg base CX0 3 f fd ["_law_digits_here", "_law_world_here"] (spFine K) := by
  have sc := sc_law_fine
  refine F.ok sc (fun vs H Q E h => ?_) (fun cdv A outer s H vs Q E hr h => ?_)
  · (repeat (rcases h with ⟨_, h⟩))
    subst_vars
    rfl
  · obtain ⟨dl, ds, v, W, rfl, hdl, hlen, hD, WF, GP, g150, o1, o4, hv5, hg9, hs8, k⟩ := h
    obtain ⟨d, ls, lg, lw, kvs, gs, ws, rfl, hd, hlong, hspots, hls, hstrong, hlg, hgs, hheavy, hlw, hws, hkn⟩ := id WF
    have gL := DGet.k (k := Sum.inr ("long" : Str)) hd
    rw [hlong] at gL
    have gS := DGet.k (k := Sum.inr ("spots" : Str)) hd
    rw [hspots] at gS
    have gG := DGet.k (k := Sum.inr ("strong" : Str)) hd
    rw [hstrong] at gG
    have gH := DGet.k (k := Sum.inr ("heavy" : Str)) hd
    rw [hheavy] at gH
    have bd := dig_bd hD
    have lgs := pr_len hgs
    rw [List.length_map] at lgs
    have lo := GP.lo
    refine ⟨_, (pss_cons (ps_set (i := 2) sc.nd rfl (Or.inl rfl) pe_int)
 (pss_cons (ps_for PassesOwn.never rfl (piL K (pe_slice (slL K) (pv 0) po_none (po_some pe_int))) (pg_name (i := 3) sc.nd rfl (Or.inl rfl))
 (pss_one (ps_set (i := 2) sc.nd rfl (Or.inl rfl) (pe_op op_add (pe_op op_mulW (pv 2) pe_int) (pv 3)))))
 (pss_cons (ps_set (i := 4) sc.nd rfl (Or.inl rfl) (pe_op op_add (pe_op op_pow pe_int pe_int) (pv 2)))
 (pss_cons (ps_set (i := 5) sc.nd rfl (Or.inl rfl) (pe_fn G_law_cut hr (pa_cons (pe_op op_mod (pe_callTy call_int1 (by rfl) T.bint (by decide +kernel) (pa_cons (pe_op op_mulW (pv 2) pe_int) pa_nil)) (pe_op op_add (pe_op op_mulW (pe_dget (hu_of hr) (pv 1) pe_str (fun _ _ => rfl)) (pv 4)) pe_int)) (pa_cons (pv 4) pa_nil))))
 (pss_cons (ps_set (i := 6) sc.nd rfl (Or.inl rfl) (pe_op op_mod (pe_callTy call_int1 (by rfl) T.bint (by decide +kernel) (pa_cons (pe_ix (ixL K) (pv 0) pe_int (fun _ _ => rfl)) pa_nil)) (pe_callB (cLen K) (by rfl) T.blen (by decide +kernel) (pa_cons (pe_dget (hu_of hr) (pv 1) pe_str (fun _ _ => rfl)) pa_nil))))
 (pss_cons (ps_set (i := 7) sc.nd rfl (Or.inl rfl) (pe_callTy (cList K) (by rfl) T.blist (by decide +kernel) (pa_cons (pe_dget (hu_of hr) (pv 1) pe_str (fun _ _ => rfl)) pa_nil)))
 (pss_cons (ps_asg (pe_fn G_law_plus hr (pa_cons (pe_ix (ixL K) (pv 7) (pv 6) (fun _ _ => rfl)) (pa_cons (pe_fn G_law_cut hr (pa_cons (pv 2) (pa_cons (pe_op op_add (pv 4) pe_int) pa_nil))) pa_nil))) (pg_sub (pv 7) (pv 6) set_list))
 (pss_cons (ps_set (i := 8) sc.nd rfl (Or.inl rfl) (pe_callTy call_dictD (by rfl) T.bdict (by decide +kernel) (pa_cons (pv 1) pa_nil)))
 (pss_cons (ps_dput (hu_of hr) (pv 8) pe_str (pe_op op_cat (pe_dget (hu_of hr) (pv 1) pe_str (fun _ _ => rfl)) (pe_lst (pa_cons (pe_tup (pa_cons (pv 5) (pa_cons (pe_fn G_law_cut hr (pa_cons (pe_op op_mulW (pv 2) pe_int) (pa_cons (pe_op op_add (pv 4) pe_int) pa_nil))) pa_nil))) pa_nil))) rfl)
 (pss_cons (ps_dput (hu_of hr) (pv 8) pe_str (pv 7) rfl)
 (pss_one (ps_ret (pv 8))))))))))))), ?_⟩
    refine ⟨_, rfl, _, rfl, dl, _, rfl, SqL.of hdl, fun p np => ?_⟩
    rw [show cutV (ds.map V.int) none (some 9) = (ds.map V.int).take 9 from cut_to _ 9, ← List.map_take]
    have s1 := Same.new (o := .lst ((ds.take 9).map V.int)) np
    have hp : upd H p (.lst ((ds.take 9).map V.int)) p = some (.lst ((ds.take 9).map V.int)) := upd_same
    generalize upd H p (.lst ((ds.take 9).map V.int)) = H1 at s1 hp ⊢
    refine ⟨p, rfl, ⟨_, SqL.of hp⟩, for_it walk_list (fun i σ H' => Same H1 H' ∧ i ≤ 9 ∧ ∃ (num : Int) (c3 c4 c5 c6 c7 c8 : Option V), σ = [some (.ref dl), some (.ref d), some (.int num), c3, c4, c5, c6, c7, c8] ∧ 1 ≤ num ∧ num + 1 ≤ 2 * 1009 ^ i) ⟨Same.refl _, by decide, 1, _, _, _, _, _, _, rfl, by decide, by decide⟩ (fun i σ H' _ q => SqL.of (q.1 _ _ hp)) ?_ ?_⟩
    · rintro i x σ H2 H3 hi ⟨s2, i9, num, c3, c4, c5, c6, c7, c8, rfl, n1, n2⟩ ⟨rfl, hx⟩
      rw [List.getElem?_map] at hx
      obtain ⟨z, hz, rfl⟩ := Option.map_eq_some_iff.mp hx
      have dz := hD z (List.mem_of_mem_take (List.mem_of_getElem? hz))
      have i8 : i < 9 := by
        rw [List.length_map, List.length_take] at hi
        omega
      have pb := p1009 i i9
      have big : (1009 : Int) ^ 9 = 1083961000000000000000000000 + ((1009 : Int) ^ 9 - 1083961000000000000000000000) := by omega
      have b9 : (1009 : Int) ^ 9 < 2 ^ 91 := by decide
      refine ⟨_, rfl, _, _, rfl, rfl, mulW (a := 93) (b := 10) (by omega) (by decide) (by decide), _, rfl, _, _, rfl, rfl, ?_⟩
      refine ⟨s2, by omega, num * 1009 + z, _, _, _, _, _, _, rfl, by omega, ?_⟩
      rw [Int.pow_succ]
      omega
    · rintro σ H2 ⟨s2, i9, num, c3, c4, c5, c6, c7, c8, rfl, n1, n2⟩
      have e9 : ((ds.take 9).map V.int).length = 9 := by rw [List.length_map, List.length_take]; omega
      rw [e9] at n2
      have n91 : num < 2 ^ 91 := by
        have : (2 : Int) * 1009 ^ 9 < 2 ^ 91 := by decide
        omega
      have s02 := s1.trans s2
      refine ⟨_, _, rfl, rfl, ⟨by decide, by decide, by decide⟩, _, rfl, _, _, rfl, rfl, ?_⟩
      dsimp only
      obtain ⟨B, hB⟩ : ∃ B : Int, B = (10 : Int) ^ (30 : Int).toNat + num := ⟨_, rfl⟩
      rw [← hB]
      have e30 : (10 : Int) ^ (30 : Int).toNat = 1000000000000000000000000000000 := by decide
      have B1 : 1 ≤ B := by omega
      have B2 : B < 2 ^ 100 := by omega
      clear hB
      have L1 : W.long * B ≤ 150 * B := Int.mul_le_mul_of_nonneg_right g150 (by omega)
      have L0 : 0 ≤ W.long * B := Int.mul_nonneg (by omega) (by omega)
      have md := Int.emod_nonneg (num * 7919) (b := W.long * B + 1) (by omega)
      have me := Int.emod_lt_of_pos (num * 7919) (b := W.long * B + 1) (by omega)
      refine ⟨_, rfl, _, _, rfl, rfl, mulW (a := 92) (b := 13) (by omega) (by decide) (by decide), .inl ⟨_, rfl, _, rfl, d, _, rfl, gd_mono gL s02, _, rfl, _, _, rfl, rfl, mulW (a := 8) (b := 100) (by omega) (by omega) (by decide), _, _, rfl, rfl, _, _, rfl, rfl, (by show (0 : Int) < W.long * B + 1; omega), _, rfl, _, _, rfl, (by omega), Nat.lt_of_lt_of_le (show B.natAbs < 2 ^ 100 by omega) (two_le (by decide)), fun q nq => ?_⟩⟩
      dsimp only at nq ⊢
      generalize num * 7919 % (W.long * B + 1) = tt at md me nq ⊢
      have rp := le_long (t := tt) (b := B) (long := W.long) md (by omega) (by omega)
      have bp : Bd 110 (Rat.divInt tt B) := divInt_bd (by omega) (by omega) (by omega)
      have s3 := Same.new (o := frO (Rat.divInt tt B)) nq
      have fq : FrN (upd H2 q (frO (Rat.divInt tt B))) (.ref q) (Rat.divInt tt B) := ⟨q, rfl, upd_same⟩
      generalize upd H2 q (frO (Rat.divInt tt B)) = H3 at s3 fq
      generalize Rat.divInt tt B = xq at rp bp fq
      have s03 := s02.trans s3
      have ll : ((W.ss.map (·.1)).map V.int).length = W.ss.length := by simp
      have q11 := bd 11
      refine ⟨_, rfl, dl, _, _, _, rfl, rfl, SqL.of (s03 _ _ hdl), at_of (j := 11) rfl (dat (by omega)), .inl ⟨_, rfl, _, rfl, d, _, rfl, gd_mono gS s03, ls, _, rfl, .inl (SqL.of (s03 _ _ hls)), _, _, rfl, rfl, (by show (0 : Int) < _; rw [ll]; omega), ?_⟩⟩
      rw [ll]
      dsimp only
      have ne := Int.emod_nonneg (ds.getD 11 0) (b := (W.ss.length : Int)) (by omega)
      have nf := Int.emod_lt_of_pos (ds.getD 11 0) (b := (W.ss.length : Int)) (by omega)
      obtain ⟨z, hz⟩ : ∃ z : Nat, ds.getD 11 0 % (W.ss.length : Int) = (z : Int) := ⟨(ds.getD 11 0 % (W.ss.length : Int)).toNat, by omega⟩
      rw [hz] at ne nf ⊢
      have zl : z < W.ss.length := by omega
      refine ⟨_, rfl, d, _, rfl, gd_mono gG s03, lg, gs, rfl, .inl (SqL.of (s03 _ _ hlg)), fun l nl => ?_⟩
      have s4 := Same.new (o := .lst gs) nl
      have hl4 : upd H3 l (.lst gs) l = some (.lst gs) := upd_same
      have nlH : H l = none := s03.free nl
      generalize upd H3 l (.lst gs) = H4 at s4 hl4 ⊢
      have s04 := s03.trans s4
      obtain ⟨gv, hgv, fgv⟩ := pr_get hgs (i := z) (a := W.ss[z].2) (by rw [List.getElem?_map, List.getElem?_eq_getElem zl]; rfl)
      refine ⟨_, rfl, _, rfl, l, _, _, _, rfl, rfl, SqL.of hl4, at_of (j := z) rfl hgv, _, rfl, _, rfl, _, _, rfl, rfl, _, _, rfl, (by show (0 : Int) < B + 2; omega), Nat.lt_of_lt_of_le (show (B + 2).natAbs < 2 ^ 101 by omega) (two_le (by decide)), fun q2 nq2 => ?_⟩
      dsimp only at nq2 ⊢
      have s5 := Same.new (o := frO (Rat.divInt num (B + 2))) nq2
      have fq2 : FrN (upd H4 q2 (frO (Rat.divInt num (B + 2)))) (.ref q2) (Rat.divInt num (B + 2)) := ⟨q2, rfl, upd_same⟩
      have bq2 : Bd 101 (Rat.divInt num (B + 2)) := divInt_bd (by omega) (by omega) (by omega)
      have pq2 := div_posI (t := num) (b := B + 2) (by omega) (by omega)
      generalize upd H4 q2 (frO (Rat.divInt num (B + 2))) = H5 at s5 fq2
      generalize Rat.divInt num (B + 2) = yq at fq2 bq2 pq2
      have s05 := s04.trans s5
      have bz := hs8 _ (List.getElem_mem zl)
      refine ⟨gv, .ref q2, W.ss[z].2, yq, 208, 101, rfl, fgv.mono s05.tu, fq2.fr, bz, bq2, by decide, trivial, fun H6 v6 s6 f6 => ?_⟩
      have f6 : FrN H6 v6 (W.ss[z].2 + yq) := f6
      have s06 := s05.trans s6
      have hl6 := (s5.trans s6) _ _ hl4
      refine ⟨_, rfl, _, rfl, l, gs, _, z, rfl, rfl, hl6, ix_nat (by omega), ?_⟩
      have tu7 := Tu.upd (o := .lst (gs.set z v6)) hl6 trivial
      have s07 : Same H (upd H6 l (.lst (gs.set z v6))) := s06.mut nlH
      have hl7 : upd H6 l (.lst (gs.set z v6)) l = some (.lst (gs.set z v6)) := upd_same
      have f67 := f6.fr (K := K) |>.mono tu7
      have fq7 := (fq.fr (K := K)).mono ((s4.trans s5).trans s6).tu |>.mono tu7
      generalize upd H6 l (.lst (gs.set z v6)) = H7 at tu7 s07 hl7 f67 fq7 ⊢
      refine ⟨_, rfl, d, kvs, rfl, .inl (s07 _ _ hd), fun nd nnd => ?_⟩
      have s8 := Same.new (o := .dK kvs) nnd
      have hnd8 : upd H7 nd (.dK kvs) nd = some (.dK kvs) := upd_same
      have nndH : H nd = none := s07.free nnd
      have nndl : l ≠ nd := ne_of_none hl7 nnd
      generalize upd H7 nd (.dK kvs) = H8 at s8 hnd8 ⊢
      have s08 := s07.trans s8
      refine ⟨_, rfl, d, _, rfl, gd_mono gH s08, _, rfl, _, rfl, _, _, rfl, rfl, mulW (a := 92) (b := 10) (by omega) (by decide) (by decide), _, rfl, _, _, rfl, rfl, _, _, rfl, (by show (0 : Int) < B + 1; omega), Nat.lt_of_lt_of_le (show (B + 1).natAbs < 2 ^ 101 by omega) (two_le (by decide)), fun q3 nq3 => ?_⟩
      dsimp only at nq3 ⊢
      have s9 := Same.new (o := frO (Rat.divInt (num * 1009) (B + 1))) nq3
      have fq3 : FrN (upd H8 q3 (frO (Rat.divInt (num * 1009) (B + 1)))) (.ref q3) (Rat.divInt (num * 1009) (B + 1)) := ⟨q3, rfl, upd_same⟩
      have bq3 : Bd 110 (Rat.divInt (num * 1009) (B + 1)) := divInt_bd (by omega) (by omega) (by omega)
      have pq3 := div_posI (t := num * 1009) (b := B + 1) (by omega) (by omega)
      generalize upd H8 q3 (frO (Rat.divInt (num * 1009) (B + 1))) = H9 at s9 fq3
      generalize Rat.divInt (num * 1009) (B + 1) = wq at fq3 bq3 pq3
      refine ⟨(by show 2 ≤ sizeLine; decide), fun tp ntp => ?_⟩
      have s10 := Same.new (o := .tup [.ref q, .ref q3]) ntp
      have htp : upd H9 tp (.tup [.ref q, .ref q3]) tp = some (.tup [.ref q, .ref q3]) := upd_same
      generalize upd H9 tp (.tup [.ref q, .ref q3]) = HA at s10 htp ⊢
      refine ⟨(by show 1 ≤ sizeLine; decide), fun l1 nl1 => ?_⟩
      have s11 := Same.new (o := .lst [.ref tp]) nl1
      have hl1 : upd HA l1 (.lst [.ref tp]) l1 = some (.lst [.ref tp]) := upd_same
      generalize upd HA l1 (.lst [.ref tp]) = HB at s11 hl1 ⊢
      have s8B := (s9.trans s10).trans s11
      have s0B := s08.trans s8B
      have lws := pr_len hws
      refine ⟨lw, l1, _, _, rfl, rfl, s0B _ _ hlw, hl1, (by show ws.length + 1 ≤ sizeLine; exact szL (by omega)), fun lh nlh => ?_⟩
      have s12 := Same.new (o := .lst (ws ++ [.ref tp])) nlh
      have hlh : upd HB lh (.lst (ws ++ [.ref tp])) lh = some (.lst (ws ++ [.ref tp])) := upd_same
      generalize upd HB lh (.lst (ws ++ [.ref tp])) = HC at s12 hlh ⊢
      have s8C := s8B.trans s12
      have s0C := s08.trans s8C
      have hndC := s8C _ _ hnd8
      refine ⟨_, rfl, nd, _, rfl, DPut.k (k := Sum.inr ("heavy" : Str)) hndC (szl (by omega)), ?_⟩
      have tuD := Tu.upd (o := .dK (putK kvs (Sum.inr "heavy") (.ref lh))) hndC trivial
      have s0D : Same H (upd HC nd (.dK (putK kvs (Sum.inr "heavy") (.ref lh)))) := s0C.mut nndH
      have hndD : upd HC nd (.dK (putK kvs (Sum.inr "heavy") (.ref lh))) nd = some (.dK (putK kvs (Sum.inr "heavy") (.ref lh))) := upd_same
      have hlD : upd HC nd (.dK (putK kvs (Sum.inr "heavy") (.ref lh))) l = some (.lst (gs.set z v6)) := by rw [upd_ne nndl]; exact s8C _ _ (s8 _ _ hl7)
      have hlhD : upd HC nd (.dK (putK kvs (Sum.inr "heavy") (.ref lh))) lh = some (.lst (ws ++ [.ref tp])) := by
        rw [upd_ne (fun e => by rw [e, hndC] at hlh; cases hlh)]
        exact hlh
      have s8t : Tu H7 (upd HC nd (.dK (putK kvs (Sum.inr "heavy") (.ref lh)))) := (s8.trans s8C).tu.trans tuD
      have htpD := tuD.t _ _ (s12 _ _ (s11 _ _ htp))
      have fq3D := (fq3.fr (K := K)).mono (((s10.trans s11).trans s12).tu.trans tuD)
      have kl2 : valV (putK kvs (Sum.inr "heavy") (.ref lh)) (Sum.inr ("long" : Str)) = some (.int W.long) := by rw [valV_put, if_neg (by decide)]; exact hlong
      have ks2 : valV (putK kvs (Sum.inr "heavy") (.ref lh)) (Sum.inr ("spots" : Str)) = some (.ref ls) := by rw [valV_put, if_neg (by decide)]; exact hspots
      have kh2 : valV (putK kvs (Sum.inr "heavy") (.ref lh)) (Sum.inr ("heavy" : Str)) = some (.ref lh) := by rw [valV_put, if_pos rfl]
      have kn2 := putK_len (v := .ref lh) hheavy
      have kg2 : valV (putK kvs (Sum.inr "heavy") (.ref lh)) (Sum.inr ("strong" : Str)) = some (.ref lg) := by rw [valV_put, if_neg (by decide)]; exact hstrong
      have kb : kvs.length ≤ 4 ∨ True := .inr trivial
      generalize putK kvs (Sum.inr "heavy") (V.ref lh) = kv2 at tuD s0D hndD hlD hlhD s8t htpD fq3D kl2 ks2 kh2 kn2 kg2 ⊢
      generalize upd HC nd (.dK kv2) = HD at tuD s0D hndD hlD hlhD s8t htpD fq3D ⊢
      refine ⟨_, rfl, _, rfl, nd, _, rfl, DPut.k (k := Sum.inr ("strong" : Str)) hndD (szl (by omega)), ?_⟩
      have tuE := Tu.upd (o := .dK (putK kv2 (Sum.inr "strong") (.ref l))) hndD trivial
      have kl3 : valV (putK kv2 (Sum.inr "strong") (.ref l)) (Sum.inr ("long" : Str)) = some (.int W.long) := by rw [valV_put, if_neg (by decide)]; exact kl2
      have ks3 : valV (putK kv2 (Sum.inr "strong") (.ref l)) (Sum.inr ("spots" : Str)) = some (.ref ls) := by rw [valV_put, if_neg (by decide)]; exact ks2
      have kh3 : valV (putK kv2 (Sum.inr "strong") (.ref l)) (Sum.inr ("heavy" : Str)) = some (.ref lh) := by rw [valV_put, if_neg (by decide)]; exact kh2
      have kg3 : valV (putK kv2 (Sum.inr "strong") (.ref l)) (Sum.inr ("strong" : Str)) = some (.ref l) := by rw [valV_put, if_pos rfl]
      have kn3 := putK_len (v := .ref l) kg2
      have s0E : Same H (upd HD nd (.dK (putK kv2 (Sum.inr "strong") (.ref l)))) := s0D.mut nndH
      have hndE : upd HD nd (.dK (putK kv2 (Sum.inr "strong") (.ref l))) nd = some (.dK (putK kv2 (Sum.inr "strong") (.ref l))) := upd_same
      have hlE : upd HD nd (.dK (putK kv2 (Sum.inr "strong") (.ref l))) l = some (.lst (gs.set z v6)) := by rw [upd_ne nndl]; exact hlD
      have hlhE : upd HD nd (.dK (putK kv2 (Sum.inr "strong") (.ref l))) lh = some (.lst (ws ++ [.ref tp])) := by
        rw [upd_ne (fun e => by rw [e, hndD] at hlhD; cases hlhD)]
        exact hlhD
      generalize putK kv2 (Sum.inr "strong") (V.ref l) = kv3 at tuE kl3 ks3 kh3 kg3 kn3 s0E hndE hlE hlhE ⊢
      generalize upd HD nd (.dK kv3) = HE at tuE s0E hndE hlE hlhE ⊢
      have st7E := s8t.trans tuE
      have eZ : ((W.ss.map (·.1)).zip ((W.ss.map (·.2)).set z (W.ss[z].2 + yq))).map (·.1) = W.ss.map (·.1) := List.map_fst_zip (by simp)
      have eZ2 : ((W.ss.map (·.1)).zip ((W.ss.map (·.2)).set z (W.ss[z].2 + yq))).map (·.2) = (W.ss.map (·.2)).set z (W.ss[z].2 + yq) := List.map_snd_zip (by simp)
      have hz0 : ∀ s ∈ W.ss, 0 ≤ s.2 := fun s hs => (GP.each s hs).2.2.2
      have hst : ∀ s ∈ (W.ss.map (·.1)).zip ((W.ss.map (·.2)).set z (W.ss[z].2 + yq)), Bd 320 s.2 ∧ 0 ≤ s.2 := fun s hs => by
        have hm : s.2 ∈ (W.ss.map (·.2)).set z (W.ss[z].2 + yq) := by rw [← eZ2]; exact List.mem_map.mpr ⟨s, hs, rfl⟩
        rcases List.mem_or_eq_of_mem_set hm with h | h
        · obtain ⟨s', hs', e⟩ := List.mem_map.mp h
          rw [← e]
          exact ⟨(hs8 s' hs').mono (by decide), hz0 s' hs'⟩
        · rw [h]
          have := hz0 _ (List.getElem_mem zl)
          exact ⟨(bz.add bq2).mono (by decide), by grind⟩
      have gsE : Paired (Fr K HE) (gs.set z v6) ((W.ss.map (·.2)).set z (W.ss[z].2 + yq)) := pr_set (f67.mono st7E) (pr_mono hgs fun _ _ h => h.mono s0E.tu)
      have hvE : Paired (Hvy K HE) (ws ++ [.ref tp]) (W.heavy ++ [(xq, wq)]) := pr_snoc ⟨tp, .ref q, .ref q3, rfl, SqT.of (tuE.t _ _ htpD), fq7.mono st7E, fq3D.mono tuE⟩ (pr_mono hws fun _ _ h => h.mono s0E.tu)
      refine ⟨_, rfl, k HE (.ref nd) ⟨W.long, (W.ss.map (·.1)).zip ((W.ss.map (·.2)).set z (W.ss[z].2 + yq)), W.heavy ++ [(xq, wq)]⟩ s0E ⟨nd, ls, l, lh, kv3, _, _, rfl, hndE, kl3, ks3, by rw [eZ]; exact s0E _ _ hls, kg3, hlE, by rw [eZ2]; exact gsE, kh3, hlhE, hvE, by omega⟩ ⟨goodP_swap GP eZ hst, by show (W.heavy ++ [(xq, wq)]).length ≤ 6; rw [List.length_append]; show W.heavy.length + 1 ≤ 6; omega, fun h hh => ?_⟩ (by show ((W.ss.map (·.1)).zip ((W.ss.map (·.2)).set z (W.ss[z].2 + yq))).length ≤ 4; rw [List.length_zip, List.length_map]; omega)⟩
      rcases List.mem_append.mp hh with hh | hh
      · exact good9 (hg9 h hh)
      · rw [List.mem_singleton.mp hh]
        exact ⟨bp, bq3, rp.1, rp.2, pq3⟩
end
end PF
end
section
set_option maxHeartbeats 4000000
set_option exponentiation.threshold 20000
namespace PF
open PySem L2
def spBare : Sp := fun vs H Q _ => ∃ (dl : Addr) (ds : List Int), vs = [.ref dl] ∧ H dl = some (.lst (ds.map V.int)) ∧ 9 ≤ ds.length ∧ Dig ds ∧ ∀ H', Same H H' → Q (.bl true) H'
theorem bare_left (long : Int) (hs : List (Rat × Rat)) (much x : Rat) : leftOf ⟨long, [], hs⟩ much x = [] := by
  unfold leftOf settle
  rfl
theorem bare_turns {long : Int} (h : 2 ≤ long) {hs : List (Rat × Rat)} {much : Rat} {R : List Rat} (T : TurnsAre ⟨long, [], hs⟩ much R) : R = [0, (long : Rat)] := by
  have p : (0 : Rat) < (long : Rat) := ipos (by omega)
  refine rise_ext T.1 ?_ fun x => ?_
  · exact List.pairwise_cons.mpr ⟨fun a ha => by rw [List.mem_singleton.mp ha]; exact p, List.pairwise_singleton _ _⟩
  · rw [T.2]
    show x ∈ placesL ⟨long, [], hs⟩ ++ [] ↔ _
    rw [List.append_nil, placesL_eq]
    show x ∈ [((0 : Int) : Rat), (long : Rat)] ↔ _
    exact Iff.rfl
theorem bare_good {long : Int} (h : 2 ≤ long) (h2 : long ≤ 1000) : GoodP long [] := ⟨h, h2, by decide, fun s hs => by simp at hs, List.Pairwise.nil⟩
theorem one_lot {M : List (List Int)} {rows : List Row} (pw : M.Pairwise sizeLt) (e : rows = [((0 : Rat), ([] : List Int), ([] : List Int))]) (mem : ∀ l, l ∈ M ↔ l ∈ lotsIn rows []) : M = [[]] := by
  refine size_ext pw (List.pairwise_singleton _ _) fun x => ?_
  rw [mem, e]
  unfold lotsIn
  simp
section
variable {P : Program} {w : World} {K : PySem.W.Frag} {mg : Str → Option Value} {base : Heap} {aN aO : Addr} {tL tM tP : Tok} {CPlank CLoads : Addr}
abbrev s_law_bare_right : Stmt := topS 78
abbrev n_law_bare_right : List Str := ["_law_digits_here", "_law_long", "_law_spots", "_law_k", "_law_heavy_here", "_law_spot", "_law_plank", "_law_much"]
theorem sc_law_bare_right : FnScope n_law_bare_right ["_law_digits_here"] (defScope s_law_bare_right) := ⟨rfl, rfl, rfl, by decide +kernel, rfl, by decide +kernel, by decide +kernel⟩
theorem ok_law_bare_right {f : Addr} {fd : FuncData} (F : Fun K "_law_bare_right" "_law_bare_right" s_law_bare_right f fd) (T : Txt K mg aN aO tL tM tP) (G_Plank___init__ : CFn P w K mg base 6 CPlank "Plank" ["self", "length", "props", "bend"] [.non] (spPlankInit K CPlank)) (G_law_cut : Fn P w K mg base 1 "_law_cut" ["_law_top", "_law_bottom"] spCut) (G_mapped : Fn P w K mg base 9 "mapped" ["plank", "weights", "weight"] (spMapped K CPlank)) (G_lots_left : Fn P w K mg base 10 "lots_left" ["plank", "weights", "weight"] (spLotsLeft K CPlank)) : FnOk P w K mg base CX0 11 f fd ["_law_digits_here"] spBare := by
  have sc := sc_law_bare_right
  refine F.ok sc (fun vs H Q E h => ?_) (fun cdv A outer s H vs Q E hr h => ?_)
  · (repeat (rcases h with ⟨_, h⟩))
    subst_vars
    rfl
  · obtain ⟨dl, ds, rfl, hdl, hlen, hD, k⟩ := h
    have bd := dig_bd hD
    refine ⟨_, (pss_cons (ps_set (i := 1) sc.nd rfl (Or.inr rfl) (pe_op op_add pe_int (pe_op op_mod (pe_callTy call_int1 (by rfl) T.bint (by decide +kernel) (pa_cons (pe_ix (ixL K) (pv 0) pe_int (fun _ _ => rfl)) pa_nil)) pe_int)))
 (pss_cons (ps_setLc (i := 2) (own := [("_law_k", 3)]) (g := (gName 3)) rfl sc.nd rfl rfl (sw_true rfl rfl rfl (by decide +kernel)) (pi_range1 rfl T.brange (pa_cons (pe_op op_mod (pe_callTy call_int1 (by rfl) T.bint (by decide +kernel) (pa_cons (pe_ix (ixL K) (pv 0) pe_int (fun _ _ => rfl)) pa_nil)) pe_int) pa_nil)) (blkOk_by (N := n_law_bare_right) (sc := defScope s_law_bare_right) (own := [("_law_k", 3)]) (by decide +kernel)) (fun _ _ _ _ _ => (pg_name (i := 3) sc.nd rfl (Or.inl rfl))) (fun _ _ _ _ _ => pts_nil) (fun _ _ _ _ _ => (pe_fn G_law_cut hr (pa_cons (pe_op op_mod (pe_callTy call_int1 (by rfl) T.bint (by decide +kernel) (pa_cons (pe_ix (ixL K) (pv 0) (pe_op op_add pe_int (pv 3)) (fun _ _ => rfl)) pa_nil)) (pe_op op_add (pe_op op_mulW pe_int (pv 1)) pe_int)) (pa_cons pe_int pa_nil)))))
 (pss_cons (ps_setLc (i := 4) (own := [("_law_k", 3), ("_law_spot", 5)]) (g := (gTup K 2 (gCons (gName 3) (gCons (gName 5) gNil)))) rfl sc.nd rfl rfl (sw_true rfl rfl rfl (by decide +kernel)) (pi_enum (by rfl) T.benumerate (pa_cons (pv 2) pa_nil)) (blkOk_by (N := n_law_bare_right) (sc := defScope s_law_bare_right) (own := [("_law_k", 3), ("_law_spot", 5)]) (by decide +kernel)) (fun _ _ _ _ _ => (pg_tup rfl (pgs_cons (pg_name (i := 3) sc.nd rfl (Or.inl rfl)) (pgs_cons (pg_name (i := 5) sc.nd rfl (Or.inl rfl)) pgs_nil)))) (fun _ _ _ _ _ => pts_nil) (fun _ _ _ _ _ => (pe_tup (pa_cons (pv 5) (pa_cons (pe_tup (pa_cons (pe_op op_add pe_int (pe_op op_mod (pe_callTy call_int1 (by rfl) T.bint (by decide +kernel) (pa_cons (pe_ix (ixL K) (pv 0) (pe_op op_add pe_int (pv 3)) (fun _ _ => rfl)) pa_nil)) pe_int)) (pa_cons pe_int pa_nil))) pa_nil)))))
 (pss_cons (ps_set (i := 6) sc.nd rfl (Or.inl rfl) (pe_mk G_Plank___init__ hr (pa_cons (pv 1) (pa_cons (pe_lst pa_nil) pa_nil))))
 (pss_cons (ps_set (i := 7) sc.nd rfl (Or.inl rfl) (pe_tup (pa_cons (pe_op op_add pe_int (pe_op op_mod (pe_callTy call_int1 (by rfl) T.bint (by decide +kernel) (pa_cons (pe_ix (ixL K) (pv 0) pe_int (fun _ _ => rfl)) pa_nil)) pe_int)) (pa_cons pe_int pa_nil))))
 (pss_cons (ps_if (pt_cmpR (oNeD K (hru hr)) (pe_fn G_mapped hr (pa_cons (pv 6) (pa_cons (pv 4) (pa_cons (pv 7) pa_nil)))) (pe_lst (pa_cons (pe_tup (pa_cons (pe_tup (pa_cons pe_int (pa_cons pe_int pa_nil))) (pa_cons (pe_tup pa_nil) (pa_cons (pe_tup pa_nil) pa_nil)))) (pa_cons (pe_tup (pa_cons (pe_tup (pa_cons (pv 1) (pa_cons pe_int pa_nil))) (pa_cons (pe_tup pa_nil) (pa_cons pe_non pa_nil)))) pa_nil))) (nomark _))
 (pss_one (ps_ret pe_bl))
 pss_nil)
 (pss_one (ps_ret (pe_cmpR (oEqD K (hru hr)) (pe_fn G_lots_left hr (pa_cons (pv 6) (pa_cons (pv 4) (pa_cons (pv 7) pa_nil)))) (pe_lst (pa_cons (pe_tup pa_nil) pa_nil)) (nomark _)))))))))), ?_⟩
    have b0 := bd 0
    have b1 := bd 1
    have b8 := bd 8
    have sd0 := SqL.of (K := K) hdl
    refine ⟨_, rfl, dl, _, _, _, rfl, rfl, sd0, at_of (j := 0) rfl (dat (by omega)), .inl ⟨_, rfl, _, _, rfl, rfl, (by show (0 : Int) < 9; decide), _, _, rfl, rfl, ?_⟩⟩
    dsimp only
    obtain ⟨L, hL⟩ : ∃ L : Int, L = 2 + ds.getD 0 0 % 9 := ⟨_, rfl⟩
    rw [← hL]
    have L2 : 2 ≤ L := by omega
    have L10 : L ≤ 10 := by omega
    clear hL
    refine ⟨_, rfl, dl, _, _, _, rfl, rfl, sd0, at_of (j := 1) rfl (dat (by omega)), .inl ⟨_, rfl, _, _, rfl, rfl, (by show (0 : Int) < 3; decide), _, rfl, by omega, by omega, fun D nD => lc_map walk_rg0 (fun i => Rat.divInt (ds.getD (2 + i) 0 % (2 * L + 1)) 2) (Fr K) (fun _ _ _ _ u h => h.mono u) nD (by omega) (fun _ _ => trivial) (fun i y H1 H2 hi s1 yy => ?_) (fun H1 ys s1 hDl hys => ?_)⟩⟩
    · obtain ⟨rfl, rfl⟩ := yy
      refine ⟨Same.refl _, fun Qk kk => ?_⟩
      have hi3 : i < 2 := by omega
      refine ⟨rfl, _, rfl, _, rfl, _, _, rfl, rfl, dl, _, _, _, rfl, rfl, SqL.of (s1 _ _ hdl), at_of (j := 2 + i) (by omega) (dat (by omega)), .inl ⟨_, rfl, _, rfl, _, _, rfl, rfl, mulW (a := 2) (b := 4) (by decide) (by omega) (by decide), _, _, rfl, rfl, _, _, rfl, rfl, (by show (0 : Int) < 2 * L + 1; omega), _, _, rfl, (by decide), Nat.lt_of_lt_of_le (show (2 : Int).natAbs < 2 ^ 2 by decide) (two_le (by decide)), fun p np => ?_⟩⟩
      exact kk _ _ (Same.new np) ⟨p, rfl, SqT.of upd_same⟩
    have lys := pr_len hys
    rw [List.length_map, List.length_range] at lys
    have ln2 : ys.length ≤ 2 := by omega
    obtain ⟨qs, hqs, gq⟩ : ∃ qs, Paired (Fr K H1) ys qs ∧ ∀ q ∈ qs, Bd 9 q ∧ 0 ≤ q ∧ q ≤ (L : Rat) := ⟨_, hys, fun q hq => by
      obtain ⟨i, _, rfl⟩ := List.mem_map.mp hq
      have md := Int.emod_nonneg (ds.getD (2 + i) 0) (b := 2 * L + 1) (by omega)
      have me := Int.emod_lt_of_pos (ds.getD (2 + i) 0) (b := 2 * L + 1) (by omega)
      exact ⟨divInt_bd (by decide) (by omega) (by decide), le_long md (by decide) (by omega)⟩⟩
    have lq := pr_len hqs
    refine ⟨_, rfl, D, _, rfl, SqL.of hDl, fun D2 nD2 => lc_map walk_enum (fun i => (((qs[i]?).getD 0, ((1 + ds.getD (5 + i) 0 % 5 : Int) : Rat)) : Rat × Rat)) (Hvy K) (fun _ _ _ _ u h => h.mono u) nD2 (by omega) (fun H' s => s.seq (SqL.of hDl)) (fun i y H2 H3 hi s2 yy => ?_) (fun H2 ws s2 hD2 hws => ?_)⟩
    · obtain ⟨T, x, z, rfl, nT, rfl, e1, e2⟩ := yy
      cases e1
      have b5 := bd (5 + i)
      have s3 := Same.new (o := .tup [.int (i : Int), z]) nT
      have hT : upd H2 T (.tup [.int (i : Int), z]) T = some (.tup [.int (i : Int), z]) := upd_same
      refine ⟨s3, fun Qk kk => ?_⟩
      obtain ⟨q, hq, fq⟩ := pr_get' hqs e2
      have s13 := s2.trans s3
      have fq3 := fq.mono s13.tu
      refine ⟨T, _, rfl, SqT.of hT, rfl, _, _, rfl, _, _, rfl, rfl, rfl, ?_⟩
      refine ⟨_, rfl, _, rfl, _, rfl, _, _, rfl, rfl, dl, _, _, _, rfl, rfl, SqL.of ((s1.trans s13) _ _ hdl), at_of (j := 5 + i) (by omega) (dat (by omega)), .inl ⟨_, rfl, _, _, rfl, rfl, (by show (0 : Int) < 5; decide), _, _, rfl, rfl, (by show 2 ≤ sizeLine; decide), fun t nt => ⟨(by show 2 ≤ sizeLine; decide), fun tp ntp => ?_⟩⟩⟩
      have s4 := Same.new (o := .tup [.int (1 + ds.getD (5 + i) 0 % 5), .int 1]) nt
      have s5 := Same.new (o := .tup [z, .ref t]) ntp
      refine kk _ _ (s4.trans s5) ⟨tp, z, .ref t, rfl, SqT.of upd_same, ?_, ?_⟩
      · rw [hq]
        exact (fq3.mono s4.tu).mono s5.tu
      · exact ((show FrN (upd _ t (.tup [.int (1 + ds.getD (5 + i) 0 % 5), .int 1])) (.ref t) ((1 + ds.getD (5 + i) 0 % 5 : Int) : Rat) from ⟨t, rfl, upd_same⟩).fr).mono s5.tu
    obtain ⟨hs, hhs, gh, lh⟩ : ∃ hs, Paired (Hvy K H2) ws hs ∧ (∀ h ∈ hs, GoodH L h) ∧ hs.length ≤ 6 := ⟨_, hws, fun h hh => by
      obtain ⟨i, hi, rfl⟩ := List.mem_map.mp hh
      rw [List.mem_range] at hi
      have hi2 : i < qs.length := by omega
      obtain ⟨a, b, c⟩ := gq _ (List.getElem_mem hi2)
      have b5 := bd (5 + i)
      refine ⟨?_, (bd_int (n := 9) (by omega) (by decide)).mono (by decide), ?_, ?_, ipos (by omega)⟩
      · show Bd 110 ((qs[i]?).getD 0)
        rw [List.getElem?_eq_getElem hi2]
        exact a.mono (by decide)
      · show 0 ≤ ((qs[i]?).getD 0)
        rw [List.getElem?_eq_getElem hi2]
        exact b
      · show ((qs[i]?).getD 0) ≤ (L : Rat)
        rw [List.getElem?_eq_getElem hi2]
        exact c, by rw [List.length_map, List.length_range]; omega⟩
    have s02 := s1.trans s2
    refine ⟨_, rfl, (by show 0 ≤ sizeLine; decide), fun l0 nl0 => fun x dx nx ndx ne => ?_⟩
    have s3 := Same.new (o := .lst []) nl0
    have hl0 : upd H2 l0 (.lst []) l0 = some (.lst []) := upd_same
    generalize upd H2 l0 (.lst []) = H3 at s3 hl0 nx ndx ⊢
    have s4 : Same H3 (upd (upd H3 dx (.own x)) x (.ins CPlank dx [])) := (Same.new ndx).trans (Same.new (by rw [upd_ne (Ne.symm ne)]; exact nx))
    refine ⟨H3, x, dx, l0, [], L, [], rfl, s4, nx, upd_same, s4 _ _ hl0, .nil, bare_good L2 (by omega), fun H5 s5 PL => ⟨rfl, ?_⟩⟩
    have s35 := s3.trans s5
    have s05 := s02.trans s35
    refine ⟨_, rfl, dl, _, _, _, rfl, rfl, SqL.of (s05 _ _ hdl), at_of (j := 8) rfl (dat (by omega)), .inl ⟨_, rfl, _, _, rfl, rfl, (by show (0 : Int) < 9; decide), _, _, rfl, rfl, (by show 2 ≤ sizeLine; decide), fun t nt => ?_⟩⟩
    dsimp only at nt ⊢
    generalize hZ : 1 + ds.getD 8 0 % 9 = Z at nt ⊢
    have s6 := Same.new (o := .tup [.int Z, .int 1]) nt
    have fm : FrN (upd H5 t (.tup [.int Z, .int 1])) (.ref t) (Z : Rat) := ⟨t, rfl, upd_same⟩
    generalize upd H5 t (.tup [.int Z, .int 1]) = H6 at s6 fm ⊢
    have s26 := s35.trans s6
    have s06 := s02.trans s26
    have PL6 := PL.mono s6
    have GW : GoodW ⟨L, [], hs⟩ := ⟨bare_good (long := L) L2 (by omega), lh, gh⟩
    have bm : Bd 430 (Z : Rat) := (bd_int (n := 9) (by omega) (by decide)).mono (by decide)
    have pm : (0 : Rat) < (Z : Rat) := ipos (by omega)
    refine ⟨_, rfl, _, rfl, _, rfl, .ref x, .ref t, D2, ws, ⟨L, [], hs⟩, (Z : Rat), rfl, PL6, s26 _ _ hD2, pr_mono hhs fun _ _ h => h.mono s26.tu, GW, fm.fr, bm, pm, fun H7 p R s7 np TR hRl MA => ?_⟩
    obtain rfl := bare_turns L2 TR
    have eR : rowsOf (leftOf ⟨L, [], hs⟩ (Z : Rat)) [0, (L : Rat)] = [((0 : Rat), ([] : List Int), ([] : List Int))] := by
      unfold rowsOf rowAt
      simp only [List.drop_succ_cons, List.drop_zero, List.zip_cons_cons, List.zip_nil_right, List.map_cons, List.map_nil, List.foldl_cons, List.foldl_nil, bare_left]
      rfl
    have eE : endOf [0, (L : Rat)] = (L : Rat) := rfl
    rw [eR, eE, bare_left] at MA
    refine ⟨(by show 2 ≤ sizeLine; decide), fun t1 nt1 => ⟨(by show 0 ≤ sizeLine; decide), fun t2 nt2 => ⟨(by show 0 ≤ sizeLine; decide), fun t3 nt3 => ⟨(by show 3 ≤ sizeLine; decide), fun t4 nt4 => ⟨_, rfl, (by show 2 ≤ sizeLine; decide), fun t5 nt5 => ⟨(by show 0 ≤ sizeLine; decide), fun t6 nt6 => ⟨(by show 3 ≤ sizeLine; decide), fun t7 nt7 => ⟨(by show 2 ≤ sizeLine; decide), fun l2 nl2 => ?_⟩⟩⟩⟩⟩⟩⟩⟩
    have w1 := Same.new (o := .tup [.int 0, .int 1]) nt1
    have w2 := Same.new (o := .tup []) nt2
    have w3 := Same.new (o := .tup []) nt3
    have w4 := Same.new (o := .tup [.ref t1, .ref t2, .ref t3]) nt4
    have w5 := Same.new (o := .tup [.int L, .int 1]) nt5
    have w6 := Same.new (o := .tup []) nt6
    have w7 := Same.new (o := .tup [.ref t5, .ref t6, .non]) nt7
    have w8 := Same.new (o := .lst [.ref t4, .ref t7]) nl2
    have w78 := w7.trans w8
    have w68 := w6.trans w78
    have w58 := w5.trans w68
    have w48 := w4.trans w58
    have w38 := w3.trans w48
    have w28 := w2.trans w38
    have w18 := w1.trans w28
    have f1 : Fr K _ (.ref t1) 0 := (show FrN (upd H7 t1 (.tup [.int 0, .int 1])) (.ref t1) 0 from ⟨t1, rfl, upd_same⟩).fr.mono w28.tu
    have MA8 := MA.mono w18
    refine ⟨tabD [((0 : Rat), ([] : List Int), ([] : List Int))] (L : Rat) [], tabD [((0 : Rat), ([] : List Int), ([] : List Int))] (L : Rat) [], tab_dp MA8, tab_dp ⟨[.ref t4], .ref t7, upd_same, .cons ⟨t4, .ref t1, .ref t2, .ref t3, rfl, w58 _ _ upd_same, f1, ⟨t2, rfl, w38 _ _ upd_same⟩, ⟨t3, rfl, w48 _ _ upd_same⟩⟩ .nil, t7, .ref t5, .ref t6, rfl, w8 _ _ upd_same, ⟨t5, rfl, SqT.of (w68 _ _ upd_same)⟩, ⟨t6, rfl, w78 _ _ upd_same⟩⟩, tab_sh _ _ _, tab_sh _ _ _, _, rfl, ?_⟩
    rw [tab_eq]
    refine ifF rfl ?_
    have s8' := s7.trans w18
    have s28 := s26.trans s8'
    refine ⟨_, rfl, _, rfl, _, rfl, .ref x, .ref t, D2, ws, ⟨L, [], hs⟩, (Z : Rat), rfl, PL6.mono s8', s28 _ _ hD2, pr_mono hhs fun _ _ h => h.mono s28.tu, GW, (fm.fr).mono s8'.tu, bm, pm, fun H9 p2 fs R2 M s9 hp2 TR2 hM pwM memM => ?_⟩
    obtain rfl := bare_turns L2 TR2
    rw [eE, bare_left] at memM
    have eM := one_lot pwM eR memM
    subst eM
    refine ⟨(by show 0 ≤ sizeLine; decide), fun t9 nt9 => ⟨(by show 1 ≤ sizeLine; decide), fun l9 nl9 => ?_⟩⟩
    have w9 := Same.new (o := .tup []) nt9
    have w10 := Same.new (o := .lst [.ref t9]) nl9
    have hM9 := pr_mono hM fun _ _ h => h.mono (w9.trans w10).tu
    refine ⟨.list ([[]].map lotD), .list ([[]].map lotD), .lst (SqL.of ((w9.trans w10) _ _ hp2)) (dpA_lots hM9), .lst (SqL.of upd_same) (dpA_lots (.cons ⟨t9, rfl, w10 _ _ upd_same⟩ .nil)), lst_sh (lots_mem _), lst_sh (lots_mem _), ?_⟩
    rw [lst_refl (lots_mem [[]])]
    exact k _ ((s06.trans s8').trans (s9.trans (w9.trans w10)))
end
end PF
end
section
set_option maxHeartbeats 4000000
set_option exponentiation.threshold 20000
namespace PF
open PySem L2
def spLaw (K : PySem.W.Frag) : Sp := fun vs H Q _ => ∃ (a : Addr) (ns : List Int), vs = [.ref a] ∧ SqL K H a (ns.map V.int) ∧ ns.length ≤ 63 ∧ ∀ H', Q (.bl true) H'
theorem spare9 {W : Wd} (G : GoodP W.long W.ss) (few : W.heavy.length ≤ 5) (g9 : ∀ h ∈ W.heavy, Good9 W.long h) (s8 : ∀ s ∈ W.ss, Bd 208 s.2) {k : Ky} (g : GoodKey W.ss.length k) : Bd 430 (spare W k) := by
  have l := load9 G few g9 g
  obtain ⟨g1, g2, g3, g4, g5⟩ := g
  have hi : k.2.1.toNat < W.ss.length := by omega
  have e : strongOf W k.2.1 = W.ss[k.2.1.toNat].2 := by
    unfold strongOf
    rw [List.getD_eq_getElem?_getD, List.getElem?_map, List.getElem?_eq_getElem hi]
    rfl
  unfold spare
  rw [e]
  exact ((s8 _ (List.getElem_mem hi)).sub l).mono (by decide)
theorem pos_num {q : Rat} : 0 < q.num ↔ 0 < q := by
  refine ⟨fun h => ?_, num_pos⟩
  apply Rat.not_le.mp
  intro z
  by_cases c : q < 0
  · have := num_neg c
    omega
  · have e : q = 0 := by grind
    rw [e] at h
    exact absurd h (by decide)
def GoodM (q : Rat) : Prop := Bd 430 q ∧ 0 < q
theorem pick_at {K : PySem.W.Frag} {H : Hp} {vs : List V} {qs : List Rat} (h : Paired (Fr K H) vs qs) (g : ∀ q ∈ qs, GoodM q) {z : Int} (h0 : 0 ≤ z) (h1 : z < (qs.length : Int)) : ∃ v q, atI vs z = some v ∧ Fr K H v q ∧ GoodM q := by
  have lv := pr_len h
  have hz : z.toNat < qs.length := by omega
  obtain ⟨v, e, f⟩ := pr_get h (List.getElem?_eq_getElem hz)
  exact ⟨v, _, at_of (j := z.toNat) (by omega) e, f, g _ (List.getElem_mem hz)⟩
theorem pr_erase {α : Type} {R : V → α → Prop} : ∀ {vs : List V} {as : List α} (j : Nat), Paired R vs as → Paired R (vs.eraseIdx j) (as.eraseIdx j)
  | _, _, _, .nil => .nil
  | _, _, 0, .cons _ t => t
  | _, _, j + 1, .cons q t => .cons q (pr_erase j t)
def r05 : Rat := ⟨1, 2, by decide, by decide⟩
def r19 : Rat := ⟨1, 9, by decide, by decide⟩
def r10007 : Rat := ⟨1000, 7, by decide, by decide⟩
section
variable {P : Program} {w : World} {K : PySem.W.Frag} {mg : Str → Option Value} {base : Heap} {aN aO : Addr} {tL tM tP : Tok} {CPlank CLoads : Addr}
abbrev s_law : Stmt := topS 79
abbrev n_law : List Str := ["_law_script", "_law_place", "_law_digits_here", "_law_is_fine", "_law_world_here", "_law_some", "_law_rest", "_law_spares_here", "_law_heavier", "_law_much"]
theorem sc_law : FnScope n_law ["_law_script"] (defScope s_law) := ⟨rfl, rfl, rfl, by decide +kernel, rfl, by decide +kernel, by decide +kernel⟩
theorem ok_law {f : Addr} {fd : FuncData} (F : Fun K "law" "law" s_law f fd) (T : Txt K mg aN aO tL tM tP) (G_law_digits : Fn P w K mg base 1 "_law_digits" ["_law_cell_here", "_law_wanted"] spDigits) (G_law_world : Fn P w K mg base 4 "_law_world" ["_law_digits_here", "_law_most"] (spWorld K)) (G_law_spares : Fn P w K mg base 4 "_law_spares" ["_law_world_here", "_law_heavy_here"] (spSpares K)) (G_law_cell : Fn P w K mg base 1 "_law_cell" ["_law_script", "_law_k"] (spCell K)) (G_law_fine : Fn P w K mg base 3 "_law_fine" ["_law_digits_here", "_law_world_here"] (spFine K)) (G_law_cut : Fn P w K mg base 1 "_law_cut" ["_law_top", "_law_bottom"] spCut) (G_law_bare_right : Fn P w K mg base 11 "_law_bare_right" ["_law_digits_here"] spBare) (G_law_right : Fn P w K mg base 11 "_law_right" ["_law_world_here", "_law_plank", "_law_spares_here", "_law_much"] (spRight K CPlank)) (G_law_made : Fn P w K mg base 8 "_law_made" ["_law_world_here"] (spMade K CPlank)) : FnOk P w K mg base CX0 12 f fd ["_law_script"] (spLaw K) := by
  have sc := sc_law
  refine F.ok sc (fun vs H Q E h => ?_) (fun cdv A outer s H vs Q E hr h => ?_)
  · (repeat (rcases h with ⟨_, h⟩))
    subst_vars
    rfl
  · obtain ⟨a, ns, rfl, ha, hns, k⟩ := h
    refine ⟨_, (pss_cons (ps_for PassesOwn.never rfl (pi_range1 rfl T.brange (pa_cons (pe_callB (call_max2 rfl) (by rfl) T.bmax (by decide +kernel) (pa_cons pe_int (pa_cons (pe_callB (call_min2 rfl) (by rfl) T.bmin (by decide +kernel) (pa_cons pe_int (pa_cons (pe_callB (cLen K) (by rfl) T.blen (by decide +kernel) (pa_cons (pv 0) pa_nil)) pa_nil))) pa_nil))) pa_nil)) (pg_name (i := 1) sc.nd rfl (Or.inl rfl))
 (pss_cons (ps_set (i := 2) sc.nd rfl (Or.inl rfl) (pe_fn G_law_digits hr (pa_cons (pe_fn G_law_cell hr (pa_cons (pv 0) (pa_cons (pv 1) pa_nil))) (pa_cons pe_int pa_nil))))
 (pss_cons (ps_set (i := 3) sc.nd rfl (Or.inl rfl) (pe_cmpR op_eq (pe_op op_mod (pe_callTy call_int1 (by rfl) T.bint (by decide +kernel) (pa_cons (pe_ix (ixL K) (pv 2) pe_int (fun _ _ => rfl)) pa_nil)) pe_int) pe_int (nomark _)))
 (pss_cons (ps_set (i := 4) sc.nd rfl (Or.inl rfl) (pe_fn G_law_world hr (pa_cons (pv 2) (pa_cons (pe_ix (ixL K) (pe_lst (pa_cons pe_int (pa_cons pe_int pa_nil))) (pe_callTy call_int1 (by rfl) T.bint (by decide +kernel) (pa_cons (pv 3) pa_nil)) (fun _ _ => rfl)) pa_nil))))
 (pss_cons (ps_set (i := 5) sc.nd rfl (Or.inl rfl) (pe_op op_cat (pe_lc (own := [("_law_rest", 6)]) (g := (gName 6)) rfl sc.nd (pi_valuesT (pe_frz (pe_fn G_law_spares hr (pa_cons (pv 4) (pa_cons (pe_dget (hu_of hr) (pv 4) pe_str (fun _ _ => rfl)) pa_nil))))) (blkOk_by (N := n_law) (sc := defScope s_law) (own := [("_law_rest", 6)]) (by decide +kernel)) (fun _ _ _ _ _ => (pg_name (i := 6) sc.nd rfl (Or.inl rfl))) (fun _ _ _ _ _ => pts_one (pt_cmpR op_gt (pe_ix (ixT K) (pv 6) pe_int (fun _ _ => rfl)) pe_int (nomark _))) (fun _ _ _ _ _ => (pv 6))) (pe_lst (pa_cons (pe_tup (pa_cons pe_int (pa_cons pe_int pa_nil))) pa_nil))))
 (pss_cons (ps_if (pt_val (pv 3))
 (pss_one (ps_set (i := 4) sc.nd rfl (Or.inl rfl) (pe_fn G_law_fine hr (pa_cons (pe_slice (slL K) (pv 2) (po_some pe_int) po_none) (pa_cons (pv 4) pa_nil)))))
 pss_nil)
 (pss_cons (ps_set (i := 7) sc.nd rfl (Or.inl rfl) (pe_frz (pe_fn G_law_spares hr (pa_cons (pv 4) (pa_cons (pe_dget (hu_of hr) (pv 4) pe_str (fun _ _ => rfl)) pa_nil)))))
 (pss_cons (ps_set (i := 8) sc.nd rfl (Or.inl rfl) (pe_lst (pa_cons (pe_fn G_law_cut hr (pa_cons (pe_op op_add pe_int (pe_op op_mod (pe_callTy call_int1 (by rfl) T.bint (by decide +kernel) (pa_cons (pe_ix (ixL K) (pv 2) pe_int (fun _ _ => rfl)) pa_nil)) pe_int)) (pa_cons (pe_op op_add pe_int (pe_op op_mod (pe_callTy call_int1 (by rfl) T.bint (by decide +kernel) (pa_cons (pe_ix (ixL K) (pv 2) pe_int (fun _ _ => rfl)) pa_nil)) pe_int)) pa_nil))) (pa_cons (pe_ix (ixL K) (pv 5) (pe_op op_mod (pe_callTy call_int1 (by rfl) T.bint (by decide +kernel) (pa_cons (pe_ix (ixL K) (pv 2) pe_int (fun _ _ => rfl)) pa_nil)) (pe_callB (cLen K) (by rfl) T.blen (by decide +kernel) (pa_cons (pv 5) pa_nil))) (fun _ _ => rfl)) pa_nil))))
 (pss_cons (ps_expr (pe_bm PySem.F.plainAttrs_list PySem.F.slot_list_append PySem.F.type_list_append mt_append (pv 8) (pa_cons (pe_ix (ixL K) (pe_lst (pa_cons (pe_tup (pa_cons pe_int (pa_cons pe_int pa_nil))) (pa_cons (pe_tup (pa_cons pe_int (pa_cons pe_int pa_nil))) (pa_cons (pe_tup (pa_cons pe_int (pa_cons pe_int pa_nil))) pa_nil)))) (pe_op op_mod (pe_callTy call_int1 (by rfl) T.bint (by decide +kernel) (pa_cons (pe_ix (ixL K) (pv 2) pe_int (fun _ _ => rfl)) pa_nil)) pe_int) (fun _ _ => rfl)) pa_nil)))
 (pss_cons (ps_expr (pe_bm PySem.F.plainAttrs_list PySem.F.slot_list_pop PySem.F.type_list_pop mt_popAt (pv 8) (pa_cons (pe_op op_mod (pe_callTy call_int1 (by rfl) T.bint (by decide +kernel) (pa_cons (pe_ix (ixL K) (pv 2) pe_int (fun _ _ => rfl)) pa_nil)) pe_int) pa_nil)))
 (pss_cons (ps_for PassesOwn.never rfl (piL K (pv 8)) (pg_name (i := 9) sc.nd rfl (Or.inl rfl))
 (pss_one (ps_if (pt_not (pt_val (pe_fn G_law_right hr (pa_cons (pv 4) (pa_cons (pe_fn G_law_made hr (pa_cons (pv 4) pa_nil)) (pa_cons (pv 7) (pa_cons (pv 9) pa_nil)))))))
 (pss_one (ps_ret pe_bl))
 pss_nil)))
 (pss_one (ps_if (pt_not (pt_val (pe_fn G_law_bare_right hr (pa_cons (pe_slice (slL K) (pv 2) (po_some pe_int) po_none) pa_nil))))
 (pss_one (ps_ret pe_bl))
 pss_nil)))))))))))))
 (pss_one (ps_ret pe_bl))), ?_⟩
    refine ⟨_, rfl, a, _, rfl, .inl ha, _, _, rfl, _, _, rfl, _, rfl, ?_, ?_, ?_⟩
    · split <;> split <;> omega
    · split <;> split <;> omega
    refine for_it walk_rg0 (fun i σ H' => (∃ c1 c2 c3 c4 c5 c6 c7 c8 c9, σ = [some (.ref a), c1, c2, c3, c4, c5, c6, c7, c8, c9]) ∧ Same H H') ⟨⟨_, _, _, _, _, _, _, _, _, rfl⟩, Same.refl _⟩ (fun _ _ _ _ _ => trivial) ?_ ?_
    · rintro i x σ H0 Hq hi ⟨⟨c1, c2, c3, c4, c5, c6, c7, c8, c9, rfl⟩, s0⟩ ⟨rfl, rfl⟩
      have hi100 : (i : Int) ≤ 100 := by
        revert hi
        split <;> split <;> omega
      refine ⟨_, rfl, _, rfl, a, ns, (i : Int), rfl, s0.seq ha, by omega, hi100, fun c => ?_⟩
      refine ⟨c, 80, rfl, by decide, fun H1 l ds s1 hl hlen hD => ?_⟩
      have bd := dig_bd hD
      have s01 := s0.trans s1
      refine ⟨_, rfl, l, _, _, _, rfl, rfl, SqL.of hl, at_of (j := 74) rfl (dat (by omega)), .inl ⟨_, rfl, _, _, rfl, rfl, (by show (0 : Int) < 3; decide), rfl, ?_⟩⟩
      dsimp only
      generalize decide (V.int (ds.getD 74 0 % 3) = V.int 0) = fine
      refine ⟨_, rfl, (by show 2 ≤ sizeLine; decide), fun l0 nl0 => ?_⟩
      have s2 := Same.new (o := .lst [.int 4, .int 3]) nl0
      have hl0 : upd H1 l0 (.lst [.int 4, .int 3]) l0 = some (.lst [.int 4, .int 3]) := upd_same
      generalize upd H1 l0 (.lst [.int 4, .int 3]) = H2 at s2 hl0 ⊢
      have hm : ∃ most : Int, 1 ≤ most ∧ most ≤ 4 ∧ atI [V.int 4, V.int 3] (if fine = true then 1 else 0) = some (.int most) := by
        cases fine
        · exact ⟨4, by decide, by decide, rfl⟩
        · exact ⟨3, by decide, by decide, rfl⟩
      obtain ⟨most, m1, m4, hmost⟩ := hm
      have s12 := s2
      refine ⟨_, rfl, .inr ⟨_, rfl, l0, _, _, _, rfl, rfl, SqL.of hl0, hmost, ?_⟩⟩
      refine ⟨l, ds, most, rfl, s2 _ _ hl, hlen, hD, m1, m4, fun H3 v W s3 WF GP g150 o1 o4 hv5 hg9 hs8 => ?_⟩
      have s03 := (s01.trans s2).trans s3
      have hl3 := (s2.trans s3) _ _ hl
      have GW : GoodW W := ⟨GP, by omega, fun h hh => good9 (hg9 h hh)⟩
      obtain ⟨d, ls, lg, lw, kvs, gs, ws, rfl, hd, hlong, hspots, hls, hstrong, hlg, hgs, hheavy, hlw, hws, hkn⟩ := id WF
      have gH := DGet.k (k := Sum.inr ("heavy" : Str)) hd
      rw [hheavy] at gH
      refine ⟨_, rfl, _, rfl, d, _, rfl, gd_mono gH (Same.refl _), .ref d, lw, ws, W, rfl, WF.st, hlw, hws, GW, fun H4 sd s4 nsd dm => ?_⟩
      obtain ⟨skv, sqs, hsd, hkq, snd, smem, sql, spr⟩ := dm.keys kyK_inj'
      have few := GP.few
      have lk : (keys W.ss.length).length ≤ 2500 := by
        have := kp_len (n := W.ss.length) (p := W.ss.length) (l := 0) (r := 0) few (Nat.le_refl _) (by omega) (by omega)
        rw [kp1_all] at this
        simp at this
        omega
      have lsq := Paired.length spr
      refine ⟨sd, _, rfl, hsd, trivial, fun od => ?_⟩
      have s5 : Same H3 (upd H4 sd (.frz od (.dT skv))) := s4.mut nsd
      have hz5 : upd H4 sd (.frz od (.dT skv)) sd = some (.frz od (.dT skv)) := upd_same
      have tu5 := Tu.upd (o := .frz od (.dT skv)) hsd trivial
      have spr5 := Paired.mapP spr fun e a h => (⟨h.1, h.2.mono tu5⟩ : e.1 = kyK a ∧ Fr K (upd H4 sd (.frz od (.dT skv))) e.2 (spare W a))
      generalize upd H4 sd (.frz od (.dT skv)) = H5 at s5 hz5 tu5 spr5 ⊢
      refine ⟨sd, od, skv, rfl, hz5, fun D nD => lc_filt walk_valsT (fun i => spare W ((sqs[i]?).getD (0, 0, 0))) (fun q => decide (0 < q)) (Fr K) (fun _ _ _ _ u h => h.mono u) nD (by omega) (fun H' s => s _ _ hz5) (fun i y H6 H7 hi s6 yy => ?_) (fun H6 vs s6 hDv hvs => ?_)⟩
      · obtain ⟨rfl, ke, hke⟩ := yy
        refine ⟨Same.refl _, fun Qk Qn k1 k2 => ?_⟩
        obtain ⟨ky, hky, _, fy⟩ := LiI.paired_get spr5 hke
        have fy : Fr K H5 y (spare W ky) := fy
        have fy6 := fy.mono s6.tu
        obtain ⟨py, rfl, hpy⟩ := id fy6
        have ek : (sqs[i]?).getD (0, 0, 0) = ky := by rw [hky]; rfl
        refine ⟨rfl, _, rfl, _, _, _, _, rfl, rfl, hpy, rfl, _, _, rfl, rfl, _, rfl, ?_⟩
        refine ifB (fun c => ?_) (fun c => ?_)
        · have c1 : (spare W ky).num > 0 := of_decide_eq_true c
          exact ⟨_, rfl, k1 (by rw [ek]; exact decide_eq_true (pos_num.mp c1)) _ _ (Same.refl _) (by rw [ek]; exact fy6)⟩
        · have c1 : ¬ (spare W ky).num > 0 := of_decide_eq_false c
          exact k2 (by rw [ek]; exact decide_eq_false fun z => c1 (pos_num.mpr z)) _ (Same.refl _)
      obtain ⟨qs0, hqs0, gq0, lq0⟩ : ∃ qs, Paired (Fr K H6) vs qs ∧ (∀ q ∈ qs, GoodM q) ∧ qs.length ≤ 2500 := ⟨_, hvs, fun q hq => by
        obtain ⟨h1, h2⟩ := List.mem_filter.mp hq
        obtain ⟨i, hi, rfl⟩ := List.mem_map.mp h1
        rw [List.mem_range] at hi
        have hi2 : i < sqs.length := by omega
        rw [List.getElem?_eq_getElem hi2] at h2 ⊢
        exact ⟨spare9 GP hv5 hg9 hs8 (keys_good.mp ((smem _).mp (List.getElem_mem hi2))), of_decide_eq_true h2⟩, by
        refine Nat.le_trans (List.length_filter_le _ _) ?_
        rw [List.length_map, List.length_range]
        omega⟩
      have lv0 := pr_len hqs0
      refine ⟨(by show 2 ≤ sizeLine; decide), fun t1 nt1 => ?_⟩
      have u1 := Same.new (o := .tup [.int 1, .int 2]) nt1
      have f1 : FrN (upd H6 t1 (.tup [.int 1, .int 2])) (.ref t1) r05 := ⟨t1, rfl, upd_same⟩
      generalize upd H6 t1 (.tup [.int 1, .int 2]) = J1 at u1 f1 ⊢
      refine ⟨(by show 1 ≤ sizeLine; decide), fun l1 nl1 => ?_⟩
      have u2 := Same.new (o := .lst [.ref t1]) nl1
      have hl1 : upd J1 l1 (.lst [.ref t1]) l1 = some (.lst [.ref t1]) := upd_same
      generalize upd J1 l1 (.lst [.ref t1]) = J2 at u2 hl1 ⊢
      refine ⟨D, l1, vs, [.ref t1], rfl, rfl, (u1.trans u2) _ _ hDv, hl1, szL (by show vs.length + 1 ≤ 100000; omega), fun sl nsl => ?_⟩
      have u3 := Same.new (o := .lst (vs ++ [.ref t1])) nsl
      have hsl : upd J2 sl (.lst (vs ++ [.ref t1])) sl = some (.lst (vs ++ [.ref t1])) := upd_same
      generalize upd J2 sl (.lst (vs ++ [.ref t1])) = J3 at u3 hsl ⊢
      have u13 := (u1.trans u2).trans u3
      have hall : Paired (Fr K J3) (vs ++ [.ref t1]) (qs0 ++ [r05]) := pr_snoc (f1.fr.mono (u2.trans u3).tu) (pr_mono hqs0 fun _ _ h => h.mono u13.tu)
      have gall : ∀ q ∈ qs0 ++ [r05], GoodM q := fun q hq => by
        rcases List.mem_append.mp hq with hq | hq
        · exact gq0 q hq
        · rw [List.mem_singleton.mp hq]
          exact ⟨⟨by decide, by decide⟩, by decide⟩
      have sJ3 := (s5.trans s6).trans u13
      have hlJ := sJ3 _ _ hl3
      have WFJ := WF.mono sJ3
      have sJ := s03.trans sJ3
      refine ⟨_, rfl, _, rfl, ?_⟩
      refine ifB (fun c => ?_) (fun c => ?_)
      · refine ⟨_, rfl, _, rfl, l, _, rfl, SqL.of hlJ, fun p np => ?_⟩
        rw [show cutV (ds.map V.int) (some 58) none = (ds.map V.int).drop 58 from cut_from _ 58, ← List.map_drop]
        have w1 := Same.new (o := .lst ((ds.drop 58).map V.int)) np
        refine ⟨_, rfl, p, ds.drop 58, .ref d, W, rfl, upd_same, by rw [List.length_drop]; omega, fun x hx => hD x (List.mem_of_mem_drop hx), WFJ.mono w1, GP, g150, o1, o4, hv5, hg9, hs8, fun HX v' W' sX WF' GW' o4' => ?_⟩
        have sJX := w1.trans sX
        have sHX := sJ.trans sJX
        have hlX := sJX _ _ hlJ
        have hslX := sJX _ _ hsl
        have hallX := pr_mono hall fun _ _ h => h.mono sJX.tu
        obtain ⟨d', ls', lg', lw', kv', gs', ws', hv', hd', hlong', hspots', hls', hstrong', hlg', hgs', hheavy', hlw', hws', hkn'⟩ := id WF'
        subst hv'
        have gH' := DGet.k (k := Sum.inr ("heavy" : Str)) hd'
        rw [hheavy'] at gH'
        refine ⟨_, rfl, _, rfl, d', _, rfl, gd_mono gH' (Same.refl _), .ref d', lw', ws', W', rfl, WF'.st, hlw', hws', GW', fun H7 sd' s7 nsd' dm' => ?_⟩
        obtain ⟨skv', hsd'⟩ := dm'.dT
        refine ⟨sd', _, rfl, hsd', trivial, fun od' => ?_⟩
        have FM := dm'.frz kyK_inj' (fun _ _ _ _ u h => h.mono u) hsd' od'
        have s8 : Same HX (upd H7 sd' (.frz od' (.dT skv'))) := s7.mut nsd'
        generalize upd H7 sd' (.frz od' (.dT skv')) = H8 at s8 FM ⊢
        have q70 := bd 70
        have q71 := bd 71
        have q72 := bd 72
        have q73 := bd 73
        have q75 := bd 75
        have sl8 := SqL.of (K := K) (s8 _ _ hlX)
        refine ⟨_, rfl, l, _, _, _, rfl, rfl, sl8, at_of (j := 70) rfl (dat (by omega)), .inl ⟨_, rfl, _, _, rfl, rfl, (by show (0 : Int) < 12; decide), _, _, rfl, rfl, _, rfl, l, _, _, _, rfl, rfl, sl8, at_of (j := 71) rfl (dat (by omega)), .inl ⟨_, rfl, _, _, rfl, rfl, (by show (0 : Int) < 4; decide), _, _, rfl, rfl, _, _, rfl, (by show (0 : Int) < 1 + ds.getD 71 0 % 4; omega), Nat.lt_of_lt_of_le (show (1 + ds.getD 71 0 % 4).natAbs < 2 ^ 3 by omega) (two_le (by decide)), fun p9 np9 => ?_⟩⟩⟩
        dsimp only at np9 ⊢
        have s9 := Same.new (o := frO (Rat.divInt (1 + ds.getD 70 0 % 12) (1 + ds.getD 71 0 % 4))) np9
        have f9 : FrN (upd H8 p9 (frO (Rat.divInt (1 + ds.getD 70 0 % 12) (1 + ds.getD 71 0 % 4)))) (.ref p9) (Rat.divInt (1 + ds.getD 70 0 % 12) (1 + ds.getD 71 0 % 4)) := ⟨p9, rfl, upd_same⟩
        have g9 : GoodM (Rat.divInt (1 + ds.getD 70 0 % 12) (1 + ds.getD 71 0 % 4)) := ⟨(divInt_bd (n := 9) (by omega) (by omega) (by omega)).mono (by decide), div_posI (by omega) (by omega)⟩
        generalize upd H8 p9 (frO (Rat.divInt (1 + ds.getD 70 0 % 12) (1 + ds.getD 71 0 % 4))) = H9 at s9 f9
        generalize Rat.divInt (1 + ds.getD 70 0 % 12) (1 + ds.getD 71 0 % 4) = q9 at f9 g9
        have s89 := s8.trans s9
        have lall := pr_len hallX
        have lpos : 0 < (vs ++ [V.ref t1]).length := by rw [List.length_append, List.length_singleton]; omega
        obtain ⟨vp, qp, hvp, fvp, gvp⟩ := pick_at (pr_mono hallX fun _ _ h => h.mono s89.tu) gall (z := ds.getD 72 0 % (((vs ++ [V.ref t1]).length : Nat) : Int)) (Int.emod_nonneg _ (by omega)) (by rw [← lall]; exact Int.emod_lt_of_pos _ (by omega))
        refine ⟨_, rfl, _, rfl, l, _, _, _, rfl, rfl, SqL.of (s89 _ _ hlX), at_of (j := 72) rfl (dat (by omega)), .inl ⟨_, rfl, _, rfl, sl, _, rfl, .inl (SqL.of (s89 _ _ hslX)), _, _, rfl, rfl, (by show (0 : Int) < (((vs ++ [V.ref t1]).length : Nat) : Int); omega), sl, _, _, _, rfl, rfl, SqL.of (s89 _ _ hslX), hvp, (by show 2 ≤ sizeLine; decide), fun hl nhl => ?_⟩⟩
        have s10 := Same.new (o := .lst [.ref p9, vp]) nhl
        have hhl : upd H9 hl (.lst [.ref p9, vp]) hl = some (.lst [.ref p9, vp]) := upd_same
        have two : Paired (Fr K (upd H9 hl (.lst [.ref p9, vp]))) [.ref p9, vp] [q9, qp] := .cons (f9.fr.mono s10.tu) (.cons (fvp.mono s10.tu) .nil)
        generalize upd H9 hl (.lst [.ref p9, vp]) = H10 at s10 hhl two ⊢
        refine ⟨_, rfl, .inl ⟨rfl, _, SqL.of hhl⟩, (by show 2 ≤ sizeLine; decide), fun t5 nt5 => ?_⟩
        have x5 := Same.new (o := .tup [.int 1, .int 9]) nt5
        have g5 : FrN (upd H10 t5 (.tup [.int 1, .int 9])) (.ref t5) r19 := ⟨t5, rfl, upd_same⟩
        generalize upd H10 t5 (.tup [.int 1, .int 9]) = K5 at x5 g5 ⊢
        refine ⟨(by show 2 ≤ sizeLine; decide), fun t6 nt6 => ?_⟩
        have x6 := Same.new (o := .tup [.int 40, .int 1]) nt6
        have g6 : FrN (upd K5 t6 (.tup [.int 40, .int 1])) (.ref t6) 40 := ⟨t6, rfl, upd_same⟩
        generalize upd K5 t6 (.tup [.int 40, .int 1]) = K6 at x6 g6 ⊢
        refine ⟨(by show 2 ≤ sizeLine; decide), fun t7 nt7 => ?_⟩
        have x7 := Same.new (o := .tup [.int 1000, .int 7]) nt7
        have g7 : FrN (upd K6 t7 (.tup [.int 1000, .int 7])) (.ref t7) r10007 := ⟨t7, rfl, upd_same⟩
        generalize upd K6 t7 (.tup [.int 1000, .int 7]) = K7 at x7 g7 ⊢
        refine ⟨(by show 3 ≤ sizeLine; decide), fun l3 nl3 => ?_⟩
        have x8 := Same.new (o := .lst [.ref t5, .ref t6, .ref t7]) nl3
        have hl3' : upd K7 l3 (.lst [.ref t5, .ref t6, .ref t7]) l3 = some (.lst [.ref t5, .ref t6, .ref t7]) := upd_same
        generalize upd K7 l3 (.lst [.ref t5, .ref t6, .ref t7]) = K8 at x8 hl3' ⊢
        have x78 := x7.trans x8
        have x68 := x6.trans x78
        have x58 := x5.trans x68
        have three : Paired (Fr K K8) [.ref t5, .ref t6, .ref t7] [r19, 40, r10007] := .cons (g5.fr.mono x68.tu) (.cons (g6.fr.mono x78.tu) (.cons (g7.fr.mono x8.tu) .nil))
        obtain ⟨v3, q3, hv3, fv3, gv3⟩ := pick_at three (fun q hq => by
          simp only [List.mem_cons, List.not_mem_nil, or_false] at hq
          rcases hq with rfl | rfl | rfl
          · exact ⟨(show Bd 20 r19 from ⟨by decide, by decide⟩).mono (by decide), by decide⟩
          · exact ⟨(show Bd 20 (40 : Rat) from ⟨by decide, by decide⟩).mono (by decide), by decide⟩
          · exact ⟨(show Bd 20 r10007 from ⟨by decide, by decide⟩).mono (by decide), by decide⟩) (z := ds.getD 73 0 % 3) (by omega) (by show ds.getD 73 0 % 3 < 3; omega)
        have s8K := (s89.trans s10).trans x58
        have hhl8 := x58 _ _ hhl
        refine ⟨_, rfl, l, _, _, _, rfl, rfl, SqL.of (s8K _ _ hlX), at_of (j := 73) rfl (dat (by omega)), .inl ⟨_, rfl, _, _, rfl, rfl, (by show (0 : Int) < 3; decide), l3, _, _, _, rfl, rfl, SqL.of hl3', hv3, hl, _, _, rfl, rfl, hhl8, (by show 2 < sizeLine; decide), ?_⟩⟩
        have sXK : Same HX K8 := s8K
        have nhlX : HX hl = none := s89.free nhl
        have tu9 := Tu.upd (o := .lst ([.ref p9, vp] ++ [v3])) hhl8 trivial
        have s11 : Same HX (upd K8 hl (.lst ([.ref p9, vp] ++ [v3]))) := sXK.mut nhlX
        have s11h : Same H8 (upd K8 hl (.lst ([.ref p9, vp] ++ [v3]))) := ((s9.trans s10).trans x58).mut (s9.free nhl)
        have hhl9 : upd K8 hl (.lst ([.ref p9, vp] ++ [v3])) hl = some (.lst ([.ref p9, vp] ++ [v3])) := upd_same
        have hthree : Paired (Fr K (upd K8 hl (.lst ([.ref p9, vp] ++ [v3])))) ([.ref p9, vp] ++ [v3]) ([q9, qp] ++ [q3]) := pr_snoc (fv3.mono tu9) (pr_mono two fun _ _ h => (h.mono x58.tu).mono tu9)
        generalize upd K8 hl (.lst ([.ref p9, vp] ++ [v3])) = K9 at s11 s11h hhl9 hthree tu9 ⊢
        obtain ⟨zn, hzn⟩ : ∃ zn : Nat, ds.getD 75 0 % 3 = (zn : Int) := ⟨(ds.getD 75 0 % 3).toNat, by omega⟩
        have zn3 : zn < 3 := by omega
        have hget : ([V.ref p9, vp] ++ [v3])[zn]? = some (([V.ref p9, vp] ++ [v3])[zn]'zn3) := List.getElem?_eq_getElem _
        refine ⟨_, rfl, .inl ⟨rfl, _, SqL.of hhl9⟩, _, rfl, l, _, _, _, rfl, rfl, SqL.of (s11 _ _ hlX), at_of (j := 75) rfl (dat (by omega)), .inl ⟨_, rfl, _, _, rfl, rfl, (by show (0 : Int) < 3; decide), hl, _, (zn : Int), zn, _, rfl, by rw [← hzn], hhl9, by omega, by omega, (ixN_seq (ix_nat (n := 3) zn3)).1, hget, ?_⟩⟩
        have tu10 := Tu.upd (o := .lst (([.ref p9, vp] ++ [v3]).eraseIdx zn)) hhl9 trivial
        have s12 : Same HX (upd K9 hl (.lst (([.ref p9, vp] ++ [v3]).eraseIdx zn))) := s11.mut nhlX
        have s12h : Same H8 (upd K9 hl (.lst (([.ref p9, vp] ++ [v3]).eraseIdx zn))) := s11h.mut (s9.free nhl)
        have hhlA : upd K9 hl (.lst (([.ref p9, vp] ++ [v3]).eraseIdx zn)) hl = some (.lst (([.ref p9, vp] ++ [v3]).eraseIdx zn)) := upd_same
        have hher := pr_mono (pr_erase zn hthree) fun _ _ h => h.mono tu10
        have gher : ∀ q ∈ ([q9, qp] ++ [q3]).eraseIdx zn, GoodM q := fun q hq => by
          have := List.mem_of_mem_eraseIdx hq
          simp only [List.mem_append, List.mem_cons, List.not_mem_nil, or_false] at this
          rcases this with (rfl | rfl) | rfl
          · exact g9
          · exact gvp
          · exact gv3
        generalize ([V.ref p9, vp] ++ [v3]).eraseIdx zn = hvs at s12 s12h hhlA hher tu10 ⊢
        generalize ([q9, qp] ++ [q3]).eraseIdx zn = hqs at hher gher
        generalize upd K9 hl (.lst hvs) = KA at s12 s12h hhlA hher ⊢
        refine ⟨_, rfl, hl, rfl, ⟨_, SqL.of hhlA⟩, for_it walk_list (fun j σ H' => (∃ c9, σ = [some (.ref a), some (.int (i : Int)), some (.ref l), some (.bl fine), some (.ref d'), some (.ref sl), c6, some (.ref sd'), some (.ref hl), c9]) ∧ Same KA H') ⟨⟨_, rfl⟩, Same.refl _⟩ (fun j σ H' _ q => SqL.of (q.2 _ _ hhlA)) ?_ ?_⟩
        · rintro j y σ HB HC hj ⟨⟨c9, rfl⟩, sB⟩ ⟨rfl, hy⟩
          obtain ⟨qm, hqm, fqm⟩ := pr_get' hher hy
          have gqm := gher qm (List.mem_of_getElem? hqm)
          have sXB := s12.trans sB
          have WFB := WF'.mono sXB
          refine ⟨_, rfl, _, rfl, .ref d', W', rfl, WFB.st, GW'.p, fun HD pq sD PL => ?_⟩
          have sXD := sXB.trans sD
          have FMD := FM.mono (fun _ _ _ _ u h => h.mono u) ((s12h.trans sB).trans sD)
          refine ⟨_, rfl, _, rfl, .ref d', pq, sd', y, W', qm, rfl, WF'.mono sXD, PL, o4', GW', FMD, fqm.mono (sB.trans sD).tu, gqm.1, gqm.2, fun HE sE => ⟨_, rfl, ?_⟩⟩
          refine ifF rfl ?_
          exact ⟨⟨_, rfl⟩, (sB.trans sD).trans sE⟩
        · rintro σ HB ⟨⟨c9, rfl⟩, sB⟩
          have sXB := s12.trans sB
          refine ⟨_, rfl, _, rfl, l, _, rfl, SqL.of (sXB _ _ hlX), fun p np => ?_⟩
          rw [show cutV (ds.map V.int) (some 60) none = (ds.map V.int).drop 60 from cut_from _ 60, ← List.map_drop]
          have sp := Same.new (o := .lst ((ds.drop 60).map V.int)) np
          refine ⟨p, ds.drop 60, rfl, upd_same, by rw [List.length_drop]; omega, fun x hx => hD x (List.mem_of_mem_drop hx), fun HF sF => ⟨_, rfl, ?_⟩⟩
          refine ifF rfl ?_
          exact ⟨⟨_, _, _, _, _, _, _, _, _, rfl⟩, ((sHX.trans sXB).trans sp).trans sF⟩
      · have sJX := Same.refl J3
        have WF' := WFJ
        have GW' := GW
        have o4' := o4
        generalize V.ref d = v' at WF' ⊢
        generalize W = W' at WF' GW' o4'
        have sJ3 := sJ.trans sJX
        have hlX := sJX _ _ hlJ
        have hslX := sJX _ _ hsl
        have hallX := pr_mono hall fun _ _ h => h.mono sJX.tu
        obtain ⟨d', ls', lg', lw', kv', gs', ws', hv', hd', hlong', hspots', hls', hstrong', hlg', hgs', hheavy', hlw', hws', hkn'⟩ := id WF'
        subst hv'
        have gH' := DGet.k (k := Sum.inr ("heavy" : Str)) hd'
        rw [hheavy'] at gH'
        refine ⟨_, rfl, _, rfl, d', _, rfl, gd_mono gH' (Same.refl _), .ref d', lw', ws', W', rfl, WF'.st, hlw', hws', GW', fun H7 sd' s7 nsd' dm' => ?_⟩
        obtain ⟨skv', hsd'⟩ := dm'.dT
        refine ⟨sd', _, rfl, hsd', trivial, fun od' => ?_⟩
        have FM := dm'.frz kyK_inj' (fun _ _ _ _ u h => h.mono u) hsd' od'
        have s8 : Same J3 (upd H7 sd' (.frz od' (.dT skv'))) := s7.mut nsd'
        generalize upd H7 sd' (.frz od' (.dT skv')) = H8 at s8 FM ⊢
        have q70 := bd 70
        have q71 := bd 71
        have q72 := bd 72
        have q73 := bd 73
        have q75 := bd 75
        have sl8 := SqL.of (K := K) (s8 _ _ hlX)
        refine ⟨_, rfl, l, _, _, _, rfl, rfl, sl8, at_of (j := 70) rfl (dat (by omega)), .inl ⟨_, rfl, _, _, rfl, rfl, (by show (0 : Int) < 12; decide), _, _, rfl, rfl, _, rfl, l, _, _, _, rfl, rfl, sl8, at_of (j := 71) rfl (dat (by omega)), .inl ⟨_, rfl, _, _, rfl, rfl, (by show (0 : Int) < 4; decide), _, _, rfl, rfl, _, _, rfl, (by show (0 : Int) < 1 + ds.getD 71 0 % 4; omega), Nat.lt_of_lt_of_le (show (1 + ds.getD 71 0 % 4).natAbs < 2 ^ 3 by omega) (two_le (by decide)), fun p9 np9 => ?_⟩⟩⟩
        dsimp only at np9 ⊢
        have s9 := Same.new (o := frO (Rat.divInt (1 + ds.getD 70 0 % 12) (1 + ds.getD 71 0 % 4))) np9
        have f9 : FrN (upd H8 p9 (frO (Rat.divInt (1 + ds.getD 70 0 % 12) (1 + ds.getD 71 0 % 4)))) (.ref p9) (Rat.divInt (1 + ds.getD 70 0 % 12) (1 + ds.getD 71 0 % 4)) := ⟨p9, rfl, upd_same⟩
        have g9 : GoodM (Rat.divInt (1 + ds.getD 70 0 % 12) (1 + ds.getD 71 0 % 4)) := ⟨(divInt_bd (n := 9) (by omega) (by omega) (by omega)).mono (by decide), div_posI (by omega) (by omega)⟩
        generalize upd H8 p9 (frO (Rat.divInt (1 + ds.getD 70 0 % 12) (1 + ds.getD 71 0 % 4))) = H9 at s9 f9
        generalize Rat.divInt (1 + ds.getD 70 0 % 12) (1 + ds.getD 71 0 % 4) = q9 at f9 g9
        have s89 := s8.trans s9
        have lall := pr_len hallX
        have lpos : 0 < (vs ++ [V.ref t1]).length := by rw [List.length_append, List.length_singleton]; omega
        obtain ⟨vp, qp, hvp, fvp, gvp⟩ := pick_at (pr_mono hallX fun _ _ h => h.mono s89.tu) gall (z := ds.getD 72 0 % (((vs ++ [V.ref t1]).length : Nat) : Int)) (Int.emod_nonneg _ (by omega)) (by rw [← lall]; exact Int.emod_lt_of_pos _ (by omega))
        refine ⟨_, rfl, _, rfl, l, _, _, _, rfl, rfl, SqL.of (s89 _ _ hlX), at_of (j := 72) rfl (dat (by omega)), .inl ⟨_, rfl, _, rfl, sl, _, rfl, .inl (SqL.of (s89 _ _ hslX)), _, _, rfl, rfl, (by show (0 : Int) < (((vs ++ [V.ref t1]).length : Nat) : Int); omega), sl, _, _, _, rfl, rfl, SqL.of (s89 _ _ hslX), hvp, (by show 2 ≤ sizeLine; decide), fun hl nhl => ?_⟩⟩
        have s10 := Same.new (o := .lst [.ref p9, vp]) nhl
        have hhl : upd H9 hl (.lst [.ref p9, vp]) hl = some (.lst [.ref p9, vp]) := upd_same
        have two : Paired (Fr K (upd H9 hl (.lst [.ref p9, vp]))) [.ref p9, vp] [q9, qp] := .cons (f9.fr.mono s10.tu) (.cons (fvp.mono s10.tu) .nil)
        generalize upd H9 hl (.lst [.ref p9, vp]) = H10 at s10 hhl two ⊢
        refine ⟨_, rfl, .inl ⟨rfl, _, SqL.of hhl⟩, (by show 2 ≤ sizeLine; decide), fun t5 nt5 => ?_⟩
        have x5 := Same.new (o := .tup [.int 1, .int 9]) nt5
        have g5 : FrN (upd H10 t5 (.tup [.int 1, .int 9])) (.ref t5) r19 := ⟨t5, rfl, upd_same⟩
        generalize upd H10 t5 (.tup [.int 1, .int 9]) = K5 at x5 g5 ⊢
        refine ⟨(by show 2 ≤ sizeLine; decide), fun t6 nt6 => ?_⟩
        have x6 := Same.new (o := .tup [.int 40, .int 1]) nt6
        have g6 : FrN (upd K5 t6 (.tup [.int 40, .int 1])) (.ref t6) 40 := ⟨t6, rfl, upd_same⟩
        generalize upd K5 t6 (.tup [.int 40, .int 1]) = K6 at x6 g6 ⊢
        refine ⟨(by show 2 ≤ sizeLine; decide), fun t7 nt7 => ?_⟩
        have x7 := Same.new (o := .tup [.int 1000, .int 7]) nt7
        have g7 : FrN (upd K6 t7 (.tup [.int 1000, .int 7])) (.ref t7) r10007 := ⟨t7, rfl, upd_same⟩
        generalize upd K6 t7 (.tup [.int 1000, .int 7]) = K7 at x7 g7 ⊢
        refine ⟨(by show 3 ≤ sizeLine; decide), fun l3 nl3 => ?_⟩
        have x8 := Same.new (o := .lst [.ref t5, .ref t6, .ref t7]) nl3
        have hl3' : upd K7 l3 (.lst [.ref t5, .ref t6, .ref t7]) l3 = some (.lst [.ref t5, .ref t6, .ref t7]) := upd_same
        generalize upd K7 l3 (.lst [.ref t5, .ref t6, .ref t7]) = K8 at x8 hl3' ⊢
        have x78 := x7.trans x8
        have x68 := x6.trans x78
        have x58 := x5.trans x68
        have three : Paired (Fr K K8) [.ref t5, .ref t6, .ref t7] [r19, 40, r10007] := .cons (g5.fr.mono x68.tu) (.cons (g6.fr.mono x78.tu) (.cons (g7.fr.mono x8.tu) .nil))
        obtain ⟨v3, q3, hv3, fv3, gv3⟩ := pick_at three (fun q hq => by
          simp only [List.mem_cons, List.not_mem_nil, or_false] at hq
          rcases hq with rfl | rfl | rfl
          · exact ⟨(show Bd 20 r19 from ⟨by decide, by decide⟩).mono (by decide), by decide⟩
          · exact ⟨(show Bd 20 (40 : Rat) from ⟨by decide, by decide⟩).mono (by decide), by decide⟩
          · exact ⟨(show Bd 20 r10007 from ⟨by decide, by decide⟩).mono (by decide), by decide⟩) (z := ds.getD 73 0 % 3) (by omega) (by show ds.getD 73 0 % 3 < 3; omega)
        have s8K := (s89.trans s10).trans x58
        have hhl8 := x58 _ _ hhl
        refine ⟨_, rfl, l, _, _, _, rfl, rfl, SqL.of (s8K _ _ hlX), at_of (j := 73) rfl (dat (by omega)), .inl ⟨_, rfl, _, _, rfl, rfl, (by show (0 : Int) < 3; decide), l3, _, _, _, rfl, rfl, SqL.of hl3', hv3, hl, _, _, rfl, rfl, hhl8, (by show 2 < sizeLine; decide), ?_⟩⟩
        have sXK : Same J3 K8 := s8K
        have nhlX : J3 hl = none := s89.free nhl
        have tu9 := Tu.upd (o := .lst ([.ref p9, vp] ++ [v3])) hhl8 trivial
        have s11 : Same J3 (upd K8 hl (.lst ([.ref p9, vp] ++ [v3]))) := sXK.mut nhlX
        have s11h : Same H8 (upd K8 hl (.lst ([.ref p9, vp] ++ [v3]))) := ((s9.trans s10).trans x58).mut (s9.free nhl)
        have hhl9 : upd K8 hl (.lst ([.ref p9, vp] ++ [v3])) hl = some (.lst ([.ref p9, vp] ++ [v3])) := upd_same
        have hthree : Paired (Fr K (upd K8 hl (.lst ([.ref p9, vp] ++ [v3])))) ([.ref p9, vp] ++ [v3]) ([q9, qp] ++ [q3]) := pr_snoc (fv3.mono tu9) (pr_mono two fun _ _ h => (h.mono x58.tu).mono tu9)
        generalize upd K8 hl (.lst ([.ref p9, vp] ++ [v3])) = K9 at s11 s11h hhl9 hthree tu9 ⊢
        obtain ⟨zn, hzn⟩ : ∃ zn : Nat, ds.getD 75 0 % 3 = (zn : Int) := ⟨(ds.getD 75 0 % 3).toNat, by omega⟩
        have zn3 : zn < 3 := by omega
        have hget : ([V.ref p9, vp] ++ [v3])[zn]? = some (([V.ref p9, vp] ++ [v3])[zn]'zn3) := List.getElem?_eq_getElem _
        refine ⟨_, rfl, .inl ⟨rfl, _, SqL.of hhl9⟩, _, rfl, l, _, _, _, rfl, rfl, SqL.of (s11 _ _ hlX), at_of (j := 75) rfl (dat (by omega)), .inl ⟨_, rfl, _, _, rfl, rfl, (by show (0 : Int) < 3; decide), hl, _, (zn : Int), zn, _, rfl, by rw [← hzn], hhl9, by omega, by omega, (ixN_seq (ix_nat (n := 3) zn3)).1, hget, ?_⟩⟩
        have tu10 := Tu.upd (o := .lst (([.ref p9, vp] ++ [v3]).eraseIdx zn)) hhl9 trivial
        have s12 : Same J3 (upd K9 hl (.lst (([.ref p9, vp] ++ [v3]).eraseIdx zn))) := s11.mut nhlX
        have s12h : Same H8 (upd K9 hl (.lst (([.ref p9, vp] ++ [v3]).eraseIdx zn))) := s11h.mut (s9.free nhl)
        have hhlA : upd K9 hl (.lst (([.ref p9, vp] ++ [v3]).eraseIdx zn)) hl = some (.lst (([.ref p9, vp] ++ [v3]).eraseIdx zn)) := upd_same
        have hher := pr_mono (pr_erase zn hthree) fun _ _ h => h.mono tu10
        have gher : ∀ q ∈ ([q9, qp] ++ [q3]).eraseIdx zn, GoodM q := fun q hq => by
          have := List.mem_of_mem_eraseIdx hq
          simp only [List.mem_append, List.mem_cons, List.not_mem_nil, or_false] at this
          rcases this with (rfl | rfl) | rfl
          · exact g9
          · exact gvp
          · exact gv3
        generalize ([V.ref p9, vp] ++ [v3]).eraseIdx zn = hvs at s12 s12h hhlA hher tu10 ⊢
        generalize ([q9, qp] ++ [q3]).eraseIdx zn = hqs at hher gher
        generalize upd K9 hl (.lst hvs) = KA at s12 s12h hhlA hher ⊢
        refine ⟨_, rfl, hl, rfl, ⟨_, SqL.of hhlA⟩, for_it walk_list (fun j σ H' => (∃ c9, σ = [some (.ref a), some (.int (i : Int)), some (.ref l), some (.bl fine), some (.ref d'), some (.ref sl), c6, some (.ref sd'), some (.ref hl), c9]) ∧ Same KA H') ⟨⟨_, rfl⟩, Same.refl _⟩ (fun j σ H' _ q => SqL.of (q.2 _ _ hhlA)) ?_ ?_⟩
        · rintro j y σ HB HC hj ⟨⟨c9, rfl⟩, sB⟩ ⟨rfl, hy⟩
          obtain ⟨qm, hqm, fqm⟩ := pr_get' hher hy
          have gqm := gher qm (List.mem_of_getElem? hqm)
          have sXB := s12.trans sB
          have WFB := WF'.mono sXB
          refine ⟨_, rfl, _, rfl, .ref d', W', rfl, WFB.st, GW'.p, fun HD pq sD PL => ?_⟩
          have sXD := sXB.trans sD
          have FMD := FM.mono (fun _ _ _ _ u h => h.mono u) ((s12h.trans sB).trans sD)
          refine ⟨_, rfl, _, rfl, .ref d', pq, sd', y, W', qm, rfl, WF'.mono sXD, PL, o4', GW', FMD, fqm.mono (sB.trans sD).tu, gqm.1, gqm.2, fun HE sE => ⟨_, rfl, ?_⟩⟩
          refine ifF rfl ?_
          exact ⟨⟨_, rfl⟩, (sB.trans sD).trans sE⟩
        · rintro σ HB ⟨⟨c9, rfl⟩, sB⟩
          have sXB := s12.trans sB
          refine ⟨_, rfl, _, rfl, l, _, rfl, SqL.of (sXB _ _ hlX), fun p np => ?_⟩
          rw [show cutV (ds.map V.int) (some 60) none = (ds.map V.int).drop 60 from cut_from _ 60, ← List.map_drop]
          have sp := Same.new (o := .lst ((ds.drop 60).map V.int)) np
          refine ⟨p, ds.drop 60, rfl, upd_same, by rw [List.length_drop]; omega, fun x hx => hD x (List.mem_of_mem_drop hx), fun HF sF => ⟨_, rfl, ?_⟩⟩
          refine ifF rfl ?_
          exact ⟨⟨_, _, _, _, _, _, _, _, _, rfl⟩, ((sJ3.trans sXB).trans sp).trans sF⟩
    · rintro σ H1 ⟨⟨c1, c2, c3, c4, c5, c6, c7, c8, c9, rfl⟩, s1⟩
      exact k _
end
end PF
end
section
set_option maxHeartbeats 4000000
namespace PF
open PySem L2
theorem all_mk {l : PySem.W.OpenLaw} {w : World} {K : PySem.W.Frag} {h : Heap} {mg : Str → Option Value} {fa : Addr} (X : K.In h) (G : h.Ns mainGlobals mg) (hfa : mg "law" = some (.ref fa))
    {f0 : Addr} {od0 an0 : Option Addr} {sl0 : Array (Option Value)} {oc0 kV0 dc0 pm0 cd0 ct0 : Value}
    {f1 : Addr} {od1 an1 : Option Addr} {sl1 : Array (Option Value)} {oc1 kV1 dc1 pm1 cd1 ct1 : Value}
    {f2 : Addr} {od2 an2 : Option Addr} {sl2 : Array (Option Value)} {oc2 kV2 dc2 pm2 cd2 ct2 : Value}
    {f3 : Addr} {od3 an3 : Option Addr} {sl3 : Array (Option Value)} {oc3 kV3 dc3 pm3 cd3 ct3 : Value}
    {f4 : Addr} {od4 an4 : Option Addr} {sl4 : Array (Option Value)} {oc4 kV4 dc4 pm4 cd4 ct4 : Value}
    {f5 : Addr} {od5 an5 : Option Addr} {sl5 : Array (Option Value)} {oc5 kV5 dc5 pm5 cd5 ct5 : Value}
    {f6 : Addr} {od6 an6 : Option Addr} {sl6 : Array (Option Value)} {oc6 kV6 dc6 pm6 cd6 ct6 : Value}
    {f7 : Addr} {od7 an7 : Option Addr} {sl7 : Array (Option Value)} {oc7 kV7 dc7 pm7 cd7 ct7 : Value}
    {f8 : Addr} {od8 an8 : Option Addr} {sl8 : Array (Option Value)} {oc8 kV8 dc8 pm8 cd8 ct8 : Value}
    {f9 : Addr} {od9 an9 : Option Addr} {sl9 : Array (Option Value)} {oc9 kV9 dc9 pm9 cd9 ct9 : Value}
    {f10 : Addr} {od10 an10 : Option Addr} {sl10 : Array (Option Value)} {oc10 kV10 dc10 pm10 cd10 ct10 : Value}
    {f11 : Addr} {od11 an11 : Option Addr} {sl11 : Array (Option Value)} {oc11 kV11 dc11 pm11 cd11 ct11 : Value}
    {f12 : Addr} {od12 an12 : Option Addr} {sl12 : Array (Option Value)} {oc12 kV12 dc12 pm12 cd12 ct12 : Value}
    {f13 : Addr} {od13 an13 : Option Addr} {sl13 : Array (Option Value)} {oc13 kV13 dc13 pm13 cd13 ct13 : Value}
    {f14 : Addr} {od14 an14 : Option Addr} {sl14 : Array (Option Value)} {oc14 kV14 dc14 pm14 cd14 ct14 : Value}
    {f15 : Addr} {od15 an15 : Option Addr} {sl15 : Array (Option Value)} {oc15 kV15 dc15 pm15 cd15 ct15 : Value}
    {f16 : Addr} {od16 an16 : Option Addr} {sl16 : Array (Option Value)} {oc16 kV16 dc16 pm16 cd16 ct16 : Value}
    {f17 : Addr} {od17 an17 : Option Addr} {sl17 : Array (Option Value)} {oc17 kV17 dc17 pm17 cd17 ct17 : Value}
    {f18 : Addr} {od18 an18 : Option Addr} {sl18 : Array (Option Value)} {oc18 kV18 dc18 pm18 cd18 ct18 : Value}
    {f19 : Addr} {od19 an19 : Option Addr} {sl19 : Array (Option Value)} {oc19 kV19 dc19 pm19 cd19 ct19 : Value}
    {f20 : Addr} {od20 an20 : Option Addr} {sl20 : Array (Option Value)} {oc20 dc20 pm20 cd20 ct20 : Value}
    {f21 : Addr} {od21 an21 : Option Addr} {sl21 : Array (Option Value)} {oc21 kV21 dc21 pm21 cd21 ct21 : Value}
    {f22 : Addr} {od22 an22 : Option Addr} {sl22 : Array (Option Value)} {oc22 kV22 dc22 pm22 cd22 ct22 : Value}
    {f23 : Addr} {od23 an23 : Option Addr} {sl23 : Array (Option Value)} {oc23 kV23 dc23 pm23 cd23 ct23 : Value}
    {f24 : Addr} {od24 an24 : Option Addr} {sl24 : Array (Option Value)} {oc24 kV24 dc24 pm24 cd24 ct24 : Value}
    {f25 : Addr} {od25 an25 : Option Addr} {sl25 : Array (Option Value)} {oc25 kV25 dc25 pm25 cd25 ct25 : Value}
    {f26 : Addr} {od26 an26 : Option Addr} {sl26 : Array (Option Value)} {oc26 kV26 dc26 pm26 cd26 ct26 : Value}
    {f27 : Addr} {od27 an27 : Option Addr} {sl27 : Array (Option Value)} {oc27 kV27 dc27 pm27 cd27 ct27 : Value}
    {f28 : Addr} {od28 an28 : Option Addr} {sl28 : Array (Option Value)} {oc28 kV28 dc28 pm28 cd28 ct28 : Value}
    {f29 : Addr} {od29 an29 : Option Addr} {sl29 : Array (Option Value)} {oc29 kV29 dc29 pm29 cd29 ct29 : Value}
    {f30 : Addr} {od30 an30 : Option Addr} {sl30 : Array (Option Value)} {oc30 kV30 dc30 pm30 cd30 ct30 : Value}
    {f31 : Addr} {od31 an31 : Option Addr} {sl31 : Array (Option Value)} {oc31 kV31 dc31 pm31 cd31 ct31 : Value}
    {f32 : Addr} {od32 an32 : Option Addr} {sl32 : Array (Option Value)} {oc32 kV32 dc32 pm32 cd32 ct32 : Value}
    {f33 : Addr} {od33 an33 : Option Addr} {sl33 : Array (Option Value)} {oc33 kV33 dc33 pm33 cd33 ct33 : Value}
    {f34 : Addr} {od34 an34 : Option Addr} {sl34 : Array (Option Value)} {oc34 kV34 dc34 pm34 cd34 ct34 : Value}
    {f35 : Addr} {od35 an35 : Option Addr} {sl35 : Array (Option Value)} {oc35 kV35 dc35 pm35 cd35 ct35 : Value}
    {f36 : Addr} {od36 an36 : Option Addr} {sl36 : Array (Option Value)} {oc36 kV36 dc36 pm36 cd36 ct36 : Value}
    {f37 : Addr} {od37 an37 : Option Addr} {sl37 : Array (Option Value)} {oc37 kV37 dc37 pm37 cd37 ct37 : Value}
    {f38 : Addr} {od38 an38 : Option Addr} {sl38 : Array (Option Value)} {oc38 kV38 dc38 pm38 cd38 ct38 : Value}
    {f39 : Addr} {od39 an39 : Option Addr} {sl39 : Array (Option Value)} {oc39 kV39 dc39 pm39 cd39 ct39 : Value}
    {f40 : Addr} {od40 an40 : Option Addr} {sl40 : Array (Option Value)} {oc40 kV40 dc40 pm40 cd40 ct40 : Value}
    {f41 : Addr} {od41 an41 : Option Addr} {sl41 : Array (Option Value)} {oc41 kV41 dc41 pm41 cd41 ct41 : Value}
    {f42 : Addr} {od42 an42 : Option Addr} {sl42 : Array (Option Value)} {oc42 kV42 dc42 pm42 cd42 ct42 : Value}
    {f43 : Addr} {od43 an43 : Option Addr} {sl43 : Array (Option Value)} {oc43 kV43 dc43 pm43 cd43 ct43 : Value}
    {f44 : Addr} {od44 an44 : Option Addr} {sl44 : Array (Option Value)} {oc44 kV44 dc44 pm44 cd44 ct44 : Value}
    {f45 : Addr} {od45 an45 : Option Addr} {sl45 : Array (Option Value)} {oc45 kV45 dc45 pm45 cd45 ct45 : Value}
    {f46 : Addr} {od46 an46 : Option Addr} {sl46 : Array (Option Value)} {oc46 kV46 dc46 pm46 cd46 ct46 : Value}
    {f47 : Addr} {od47 an47 : Option Addr} {sl47 : Array (Option Value)} {oc47 kV47 dc47 pm47 cd47 ct47 : Value}
    {f48 : Addr} {od48 an48 : Option Addr} {sl48 : Array (Option Value)} {oc48 kV48 dc48 pm48 cd48 ct48 : Value}
    {f49 : Addr} {od49 an49 : Option Addr} {sl49 : Array (Option Value)} {oc49 kV49 dc49 pm49 cd49 ct49 : Value}
    {f50 : Addr} {od50 an50 : Option Addr} {sl50 : Array (Option Value)} {oc50 kV50 dc50 pm50 cd50 ct50 : Value}
    {f51 : Addr} {od51 an51 : Option Addr} {sl51 : Array (Option Value)} {oc51 kV51 dc51 pm51 cd51 ct51 : Value}
    {f52 : Addr} {od52 an52 : Option Addr} {sl52 : Array (Option Value)} {oc52 kV52 dc52 pm52 cd52 ct52 : Value}
    {f53 : Addr} {od53 an53 : Option Addr} {sl53 : Array (Option Value)} {oc53 kV53 dc53 pm53 cd53 ct53 : Value}
    {f54 : Addr} {od54 an54 : Option Addr} {sl54 : Array (Option Value)} {oc54 kV54 dc54 pm54 cd54 ct54 : Value}
    {f55 : Addr} {od55 an55 : Option Addr} {sl55 : Array (Option Value)} {oc55 kV55 dc55 pm55 cd55 ct55 : Value}
    {f56 : Addr} {od56 an56 : Option Addr} {sl56 : Array (Option Value)} {oc56 kV56 dc56 pm56 cd56 ct56 : Value}
    {f57 : Addr} {od57 an57 : Option Addr} {sl57 : Array (Option Value)} {oc57 kV57 dc57 pm57 cd57 ct57 : Value}
    {f58 : Addr} {od58 an58 : Option Addr} {sl58 : Array (Option Value)} {oc58 kV58 dc58 pm58 cd58 ct58 : Value}
    {f59 : Addr} {od59 an59 : Option Addr} {sl59 : Array (Option Value)} {oc59 kV59 dc59 pm59 cd59 ct59 : Value}
    {f60 : Addr} {od60 an60 : Option Addr} {sl60 : Array (Option Value)} {oc60 kV60 dc60 pm60 cd60 ct60 : Value}
    {f61 : Addr} {od61 an61 : Option Addr} {sl61 : Array (Option Value)} {oc61 kV61 dc61 pm61 cd61 ct61 : Value}
    {f62 : Addr} {od62 an62 : Option Addr} {sl62 : Array (Option Value)} {oc62 kV62 dc62 pm62 cd62 ct62 : Value}
    {f63 : Addr} {od63 an63 : Option Addr} {sl63 : Array (Option Value)} {oc63 kV63 dc63 pm63 cd63 ct63 : Value}
    {f64 : Addr} {od64 an64 : Option Addr} {sl64 : Array (Option Value)} {oc64 kV64 dc64 pm64 cd64 ct64 : Value}
    {f65 : Addr} {od65 an65 : Option Addr} {sl65 : Array (Option Value)} {oc65 kV65 dc65 pm65 cd65 ct65 : Value}
    {CPlank : Addr}
    {CLoads : Addr}
    {DP : Addr}
    {aN aO : Addr} {odN odO : Option Addr} {slN slO : Array (Option Value)} {tN1 tN2 tO1 tO2 tL tM tP : Tok} {nN nO : Nat}
    (a0 : PySem.W.nsIn K mainGlobals "divisor" = some (some (.ref f0)))
    (l0 : K.lookup f0 = some ⟨oc0, od0, .func (PySem.W.fnOf "divisor" "divisor" (defArgs s_divisor) (defBody s_divisor) (defScope s_divisor) .none kV0 dc0 pm0 an0 cd0 ct0), sl0⟩)
    (c0 : PySem.W.codeIn K cd0 "divisor" = true)
    (k0 : PySem.W.keepIn K (.ref f0) = true)
    (a1 : PySem.W.nsIn K mainGlobals "cut" = some (some (.ref f1)))
    (l1 : K.lookup f1 = some ⟨oc1, od1, .func (PySem.W.fnOf "cut" "cut" (defArgs s_cut) (defBody s_cut) (defScope s_cut) .none kV1 dc1 pm1 an1 cd1 ct1), sl1⟩)
    (c1 : PySem.W.codeIn K cd1 "cut" = true)
    (k1 : PySem.W.keepIn K (.ref f1) = true)
    (a2 : PySem.W.nsIn K mainGlobals "_law_cut" = some (some (.ref f2)))
    (l2 : K.lookup f2 = some ⟨oc2, od2, .func (PySem.W.fnOf "_law_cut" "_law_cut" (defArgs s_law_cut) (defBody s_law_cut) (defScope s_law_cut) .none kV2 dc2 pm2 an2 cd2 ct2), sl2⟩)
    (c2 : PySem.W.codeIn K cd2 "_law_cut" = true)
    (k2 : PySem.W.keepIn K (.ref f2) = true)
    (a3 : PySem.W.nsIn K mainGlobals "plus" = some (some (.ref f3)))
    (l3 : K.lookup f3 = some ⟨oc3, od3, .func (PySem.W.fnOf "plus" "plus" (defArgs s_plus) (defBody s_plus) (defScope s_plus) .none kV3 dc3 pm3 an3 cd3 ct3), sl3⟩)
    (c3 : PySem.W.codeIn K cd3 "plus" = true)
    (k3 : PySem.W.keepIn K (.ref f3) = true)
    (a4 : PySem.W.nsIn K mainGlobals "less" = some (some (.ref f4)))
    (l4 : K.lookup f4 = some ⟨oc4, od4, .func (PySem.W.fnOf "less" "less" (defArgs s_less) (defBody s_less) (defScope s_less) .none kV4 dc4 pm4 an4 cd4 ct4), sl4⟩)
    (c4 : PySem.W.codeIn K cd4 "less" = true)
    (k4 : PySem.W.keepIn K (.ref f4) = true)
    (a5 : PySem.W.nsIn K mainGlobals "times" = some (some (.ref f5)))
    (l5 : K.lookup f5 = some ⟨oc5, od5, .func (PySem.W.fnOf "times" "times" (defArgs s_times) (defBody s_times) (defScope s_times) .none kV5 dc5 pm5 an5 cd5 ct5), sl5⟩)
    (c5 : PySem.W.codeIn K cd5 "times" = true)
    (k5 : PySem.W.keepIn K (.ref f5) = true)
    (a6 : PySem.W.nsIn K mainGlobals "over" = some (some (.ref f6)))
    (l6 : K.lookup f6 = some ⟨oc6, od6, .func (PySem.W.fnOf "over" "over" (defArgs s_over) (defBody s_over) (defScope s_over) .none kV6 dc6 pm6 an6 cd6 ct6), sl6⟩)
    (c6 : PySem.W.codeIn K cd6 "over" = true)
    (k6 : PySem.W.keepIn K (.ref f6) = true)
    (a7 : PySem.W.nsIn K mainGlobals "is_below" = some (some (.ref f7)))
    (l7 : K.lookup f7 = some ⟨oc7, od7, .func (PySem.W.fnOf "is_below" "is_below" (defArgs s_is_below) (defBody s_is_below) (defScope s_is_below) .none kV7 dc7 pm7 an7 cd7 ct7), sl7⟩)
    (c7 : PySem.W.codeIn K cd7 "is_below" = true)
    (k7 : PySem.W.keepIn K (.ref f7) = true)
    (a8 : PySem.W.nsIn K mainGlobals "whole" = some (some (.ref f8)))
    (l8 : K.lookup f8 = some ⟨oc8, od8, .func (PySem.W.fnOf "whole" "whole" (defArgs s_whole) (defBody s_whole) (defScope s_whole) .none kV8 dc8 pm8 an8 cd8 ct8), sl8⟩)
    (c8 : PySem.W.codeIn K cd8 "whole" = true)
    (k8 : PySem.W.keepIn K (.ref f8) = true)
    (a9 : PySem.W.nsIn K mainGlobals "_law_plus" = some (some (.ref f9)))
    (l9 : K.lookup f9 = some ⟨oc9, od9, .func (PySem.W.fnOf "_law_plus" "_law_plus" (defArgs s_law_plus) (defBody s_law_plus) (defScope s_law_plus) .none kV9 dc9 pm9 an9 cd9 ct9), sl9⟩)
    (c9 : PySem.W.codeIn K cd9 "_law_plus" = true)
    (k9 : PySem.W.keepIn K (.ref f9) = true)
    (a10 : PySem.W.nsIn K mainGlobals "_law_minus" = some (some (.ref f10)))
    (l10 : K.lookup f10 = some ⟨oc10, od10, .func (PySem.W.fnOf "_law_minus" "_law_minus" (defArgs s_law_minus) (defBody s_law_minus) (defScope s_law_minus) .none kV10 dc10 pm10 an10 cd10 ct10), sl10⟩)
    (c10 : PySem.W.codeIn K cd10 "_law_minus" = true)
    (k10 : PySem.W.keepIn K (.ref f10) = true)
    (a11 : PySem.W.nsIn K mainGlobals "_law_by" = some (some (.ref f11)))
    (l11 : K.lookup f11 = some ⟨oc11, od11, .func (PySem.W.fnOf "_law_by" "_law_by" (defArgs s_law_by) (defBody s_law_by) (defScope s_law_by) .none kV11 dc11 pm11 an11 cd11 ct11), sl11⟩)
    (c11 : PySem.W.codeIn K cd11 "_law_by" = true)
    (k11 : PySem.W.keepIn K (.ref f11) = true)
    (a12 : PySem.W.nsIn K mainGlobals "_law_part_of" = some (some (.ref f12)))
    (l12 : K.lookup f12 = some ⟨oc12, od12, .func (PySem.W.fnOf "_law_part_of" "_law_part_of" (defArgs s_law_part_of) (defBody s_law_part_of) (defScope s_law_part_of) .none kV12 dc12 pm12 an12 cd12 ct12), sl12⟩)
    (c12 : PySem.W.codeIn K cd12 "_law_part_of" = true)
    (k12 : PySem.W.keepIn K (.ref f12) = true)
    (a13 : PySem.W.nsIn K mainGlobals "_law_is_below" = some (some (.ref f13)))
    (l13 : K.lookup f13 = some ⟨oc13, od13, .func (PySem.W.fnOf "_law_is_below" "_law_is_below" (defArgs s_law_is_below) (defBody s_law_is_below) (defScope s_law_is_below) .none kV13 dc13 pm13 an13 cd13 ct13), sl13⟩)
    (c13 : PySem.W.codeIn K cd13 "_law_is_below" = true)
    (k13 : PySem.W.keepIn K (.ref f13) = true)
    (a14 : PySem.W.nsIn K mainGlobals "is_whole" = some (some (.ref f14)))
    (l14 : K.lookup f14 = some ⟨oc14, od14, .func (PySem.W.fnOf "is_whole" "is_whole" (defArgs s_is_whole) (defBody s_is_whole) (defScope s_is_whole) .none kV14 dc14 pm14 an14 cd14 ct14), sl14⟩)
    (c14 : PySem.W.codeIn K cd14 "is_whole" = true)
    (k14 : PySem.W.keepIn K (.ref f14) = true)
    (a15 : PySem.W.nsIn K mainGlobals "is_fraction" = some (some (.ref f15)))
    (l15 : K.lookup f15 = some ⟨oc15, od15, .func (PySem.W.fnOf "is_fraction" "is_fraction" (defArgs s_is_fraction) (defBody s_is_fraction) (defScope s_is_fraction) .none kV15 dc15 pm15 an15 cd15 ct15), sl15⟩)
    (c15 : PySem.W.codeIn K cd15 "is_fraction" = true)
    (k15 : PySem.W.keepIn K (.ref f15) = true)
    (a16 : PySem.W.nsIn K mainGlobals "is_measure" = some (some (.ref f16)))
    (l16 : K.lookup f16 = some ⟨oc16, od16, .func (PySem.W.fnOf "is_measure" "is_measure" (defArgs s_is_measure) (defBody s_is_measure) (defScope s_is_measure) .none kV16 dc16 pm16 an16 cd16 ct16), sl16⟩)
    (c16 : PySem.W.codeIn K cd16 "is_measure" = true)
    (k16 : PySem.W.keepIn K (.ref f16) = true)
    (a17 : PySem.W.nsIn K mainGlobals "is_prop" = some (some (.ref f17)))
    (l17 : K.lookup f17 = some ⟨oc17, od17, .func (PySem.W.fnOf "is_prop" "is_prop" (defArgs s_is_prop) (defBody s_is_prop) (defScope s_is_prop) .none kV17 dc17 pm17 an17 cd17 ct17), sl17⟩)
    (c17 : PySem.W.codeIn K cd17 "is_prop" = true)
    (k17 : PySem.W.keepIn K (.ref f17) = true)
    (a18 : PySem.W.nsIn K mainGlobals "are_props" = some (some (.ref f18)))
    (l18 : K.lookup f18 = some ⟨oc18, od18, .func (PySem.W.fnOf "are_props" "are_props" (defArgs s_are_props) (defBody s_are_props) (defScope s_are_props) .none kV18 dc18 pm18 an18 cd18 ct18), sl18⟩)
    (c18 : PySem.W.codeIn K cd18 "are_props" = true)
    (k18 : PySem.W.keepIn K (.ref f18) = true)
    (a19 : PySem.W.nsIn K mainGlobals "sum_of" = some (some (.ref f19)))
    (l19 : K.lookup f19 = some ⟨oc19, od19, .func (PySem.W.fnOf "sum_of" "sum_of" (defArgs s_sum_of) (defBody s_sum_of) (defScope s_sum_of) .none kV19 dc19 pm19 an19 cd19 ct19), sl19⟩)
    (c19 : PySem.W.codeIn K cd19 "sum_of" = true)
    (k19 : PySem.W.keepIn K (.ref f19) = true)
    (a20 : PySem.W.findIn K (.ref CPlank) "__init__" = some (some (.ref f20)))
    (i20 : PySem.W.isFn K (.ref f20) = true)
    (l20 : K.lookup f20 = some ⟨oc20, od20, .func (PySem.W.fnOf "__init__" "Plank.__init__" (defArgs s_Plank___init__) (defBody s_Plank___init__) (defScope s_Plank___init__) .none (.ref DP) dc20 pm20 an20 cd20 ct20), sl20⟩)
    (c20 : PySem.W.codeIn K cd20 "Plank.__init__" = true)
    (k20 : PySem.W.keepIn K (.ref f20) = true)
    (a21 : PySem.W.findIn K (.ref CPlank) "length" = some (some (.ref f21)))
    (i21 : PySem.W.isFn K (.ref f21) = true)
    (l21 : K.lookup f21 = some ⟨oc21, od21, .func (PySem.W.fnOf "length" "Plank.length" (defArgs s_Plank_length) (defBody s_Plank_length) (defScope s_Plank_length) .none kV21 dc21 pm21 an21 cd21 ct21), sl21⟩)
    (c21 : PySem.W.codeIn K cd21 "Plank.length" = true)
    (k21 : PySem.W.keepIn K (.ref f21) = true)
    (a22 : PySem.W.findIn K (.ref CPlank) "count" = some (some (.ref f22)))
    (i22 : PySem.W.isFn K (.ref f22) = true)
    (l22 : K.lookup f22 = some ⟨oc22, od22, .func (PySem.W.fnOf "count" "Plank.count" (defArgs s_Plank_count) (defBody s_Plank_count) (defScope s_Plank_count) .none kV22 dc22 pm22 an22 cd22 ct22), sl22⟩)
    (c22 : PySem.W.codeIn K cd22 "Plank.count" = true)
    (k22 : PySem.W.keepIn K (.ref f22) = true)
    (a23 : PySem.W.findIn K (.ref CPlank) "props" = some (some (.ref f23)))
    (i23 : PySem.W.isFn K (.ref f23) = true)
    (l23 : K.lookup f23 = some ⟨oc23, od23, .func (PySem.W.fnOf "props" "Plank.props" (defArgs s_Plank_props) (defBody s_Plank_props) (defScope s_Plank_props) .none kV23 dc23 pm23 an23 cd23 ct23), sl23⟩)
    (c23 : PySem.W.codeIn K cd23 "Plank.props" = true)
    (k23 : PySem.W.keepIn K (.ref f23) = true)
    (a24 : PySem.W.findIn K (.ref CPlank) "place_of" = some (some (.ref f24)))
    (i24 : PySem.W.isFn K (.ref f24) = true)
    (l24 : K.lookup f24 = some ⟨oc24, od24, .func (PySem.W.fnOf "place_of" "Plank.place_of" (defArgs s_Plank_place_of) (defBody s_Plank_place_of) (defScope s_Plank_place_of) .none kV24 dc24 pm24 an24 cd24 ct24), sl24⟩)
    (c24 : PySem.W.codeIn K cd24 "Plank.place_of" = true)
    (k24 : PySem.W.keepIn K (.ref f24) = true)
    (a25 : PySem.W.nsIn K mainGlobals "lot_of" = some (some (.ref f25)))
    (l25 : K.lookup f25 = some ⟨oc25, od25, .func (PySem.W.fnOf "lot_of" "lot_of" (defArgs s_lot_of) (defBody s_lot_of) (defScope s_lot_of) .none kV25 dc25 pm25 an25 cd25 ct25), sl25⟩)
    (c25 : PySem.W.codeIn K cd25 "lot_of" = true)
    (k25 : PySem.W.keepIn K (.ref f25) = true)
    (a26 : PySem.W.nsIn K mainGlobals "rests_of" = some (some (.ref f26)))
    (l26 : K.lookup f26 = some ⟨oc26, od26, .func (PySem.W.fnOf "rests_of" "rests_of" (defArgs s_rests_of) (defBody s_rests_of) (defScope s_rests_of) .none kV26 dc26 pm26 an26 cd26 ct26), sl26⟩)
    (c26 : PySem.W.codeIn K cd26 "rests_of" = true)
    (k26 : PySem.W.keepIn K (.ref f26) = true)
    (a27 : PySem.W.nsIn K mainGlobals "is_spot" = some (some (.ref f27)))
    (l27 : K.lookup f27 = some ⟨oc27, od27, .func (PySem.W.fnOf "is_spot" "is_spot" (defArgs s_is_spot) (defBody s_is_spot) (defScope s_is_spot) .none kV27 dc27 pm27 an27 cd27 ct27), sl27⟩)
    (c27 : PySem.W.codeIn K cd27 "is_spot" = true)
    (k27 : PySem.W.keepIn K (.ref f27) = true)
    (a28 : PySem.W.nsIn K mainGlobals "is_weight" = some (some (.ref f28)))
    (l28 : K.lookup f28 = some ⟨oc28, od28, .func (PySem.W.fnOf "is_weight" "is_weight" (defArgs s_is_weight) (defBody s_is_weight) (defScope s_is_weight) .none kV28 dc28 pm28 an28 cd28 ct28), sl28⟩)
    (c28 : PySem.W.codeIn K cd28 "is_weight" = true)
    (k28 : PySem.W.keepIn K (.ref f28) = true)
    (a29 : PySem.W.nsIn K mainGlobals "check_weights" = some (some (.ref f29)))
    (l29 : K.lookup f29 = some ⟨oc29, od29, .func (PySem.W.fnOf "check_weights" "check_weights" (defArgs s_check_weights) (defBody s_check_weights) (defScope s_check_weights) .none kV29 dc29 pm29 an29 cd29 ct29), sl29⟩)
    (c29 : PySem.W.codeIn K cd29 "check_weights" = true)
    (k29 : PySem.W.keepIn K (.ref f29) = true)
    (a30 : PySem.W.nsIn K mainGlobals "slope" = some (some (.ref f30)))
    (l30 : K.lookup f30 = some ⟨oc30, od30, .func (PySem.W.fnOf "slope" "slope" (defArgs s_slope) (defBody s_slope) (defScope s_slope) .none kV30 dc30 pm30 an30 cd30 ct30), sl30⟩)
    (c30 : PySem.W.codeIn K cd30 "slope" = true)
    (k30 : PySem.W.keepIn K (.ref f30) = true)
    (a31 : PySem.W.findIn K (.ref CLoads) "__init__" = some (some (.ref f31)))
    (i31 : PySem.W.isFn K (.ref f31) = true)
    (l31 : K.lookup f31 = some ⟨oc31, od31, .func (PySem.W.fnOf "__init__" "Loads.__init__" (defArgs s_Loads___init__) (defBody s_Loads___init__) (defScope s_Loads___init__) .none kV31 dc31 pm31 an31 cd31 ct31), sl31⟩)
    (c31 : PySem.W.codeIn K cd31 "Loads.__init__" = true)
    (k31 : PySem.W.keepIn K (.ref f31) = true)
    (a32 : PySem.W.findIn K (.ref CLoads) "share" = some (some (.ref f32)))
    (i32 : PySem.W.isFn K (.ref f32) = true)
    (l32 : K.lookup f32 = some ⟨oc32, od32, .func (PySem.W.fnOf "share" "Loads.share" (defArgs s_Loads_share) (defBody s_Loads_share) (defScope s_Loads_share) .none kV32 dc32 pm32 an32 cd32 ct32), sl32⟩)
    (c32 : PySem.W.codeIn K cd32 "Loads.share" = true)
    (k32 : PySem.W.keepIn K (.ref f32) = true)
    (a33 : PySem.W.findIn K (.ref CLoads) "lies_on" = some (some (.ref f33)))
    (i33 : PySem.W.isFn K (.ref f33) = true)
    (l33 : K.lookup f33 = some ⟨oc33, od33, .func (PySem.W.fnOf "lies_on" "Loads.lies_on" (defArgs s_Loads_lies_on) (defBody s_Loads_lies_on) (defScope s_Loads_lies_on) .none kV33 dc33 pm33 an33 cd33 ct33), sl33⟩)
    (c33 : PySem.W.codeIn K cd33 "Loads.lies_on" = true)
    (k33 : PySem.W.keepIn K (.ref f33) = true)
    (a34 : PySem.W.nsIn K mainGlobals "loads_of" = some (some (.ref f34)))
    (l34 : K.lookup f34 = some ⟨oc34, od34, .func (PySem.W.fnOf "loads_of" "loads_of" (defArgs s_loads_of) (defBody s_loads_of) (defScope s_loads_of) .none kV34 dc34 pm34 an34 cd34 ct34), sl34⟩)
    (c34 : PySem.W.codeIn K cd34 "loads_of" = true)
    (k34 : PySem.W.keepIn K (.ref f34) = true)
    (a35 : PySem.W.nsIn K mainGlobals "without" = some (some (.ref f35)))
    (l35 : K.lookup f35 = some ⟨oc35, od35, .func (PySem.W.fnOf "without" "without" (defArgs s_without) (defBody s_without) (defScope s_without) .none kV35 dc35 pm35 an35 cd35 ct35), sl35⟩)
    (c35 : PySem.W.codeIn K cd35 "without" = true)
    (k35 : PySem.W.keepIn K (.ref f35) = true)
    (a36 : PySem.W.nsIn K mainGlobals "spare_at" = some (some (.ref f36)))
    (l36 : K.lookup f36 = some ⟨oc36, od36, .func (PySem.W.fnOf "spare_at" "spare_at" (defArgs s_spare_at) (defBody s_spare_at) (defScope s_spare_at) .none kV36 dc36 pm36 an36 cd36 ct36), sl36⟩)
    (c36 : PySem.W.codeIn K cd36 "spare_at" = true)
    (k36 : PySem.W.keepIn K (.ref f36) = true)
    (a37 : PySem.W.nsIn K mainGlobals "check_weight" = some (some (.ref f37)))
    (l37 : K.lookup f37 = some ⟨oc37, od37, .func (PySem.W.fnOf "check_weight" "check_weight" (defArgs s_check_weight) (defBody s_check_weight) (defScope s_check_weight) .none kV37 dc37 pm37 an37 cd37 ct37), sl37⟩)
    (c37 : PySem.W.codeIn K cd37 "check_weight" = true)
    (k37 : PySem.W.keepIn K (.ref f37) = true)
    (a38 : PySem.W.nsIn K mainGlobals "with_sides" = some (some (.ref f38)))
    (l38 : K.lookup f38 = some ⟨oc38, od38, .func (PySem.W.fnOf "with_sides" "with_sides" (defArgs s_with_sides) (defBody s_with_sides) (defScope s_with_sides) .none kV38 dc38 pm38 an38 cd38 ct38), sl38⟩)
    (c38 : PySem.W.codeIn K cd38 "with_sides" = true)
    (k38 : PySem.W.keepIn K (.ref f38) = true)
    (a39 : PySem.W.nsIn K mainGlobals "left_with" = some (some (.ref f39)))
    (l39 : K.lookup f39 = some ⟨oc39, od39, .func (PySem.W.fnOf "left_with" "left_with" (defArgs s_left_with) (defBody s_left_with) (defScope s_left_with) .none kV39 dc39 pm39 an39 cd39 ct39), sl39⟩)
    (c39 : PySem.W.codeIn K cd39 "left_with" = true)
    (k39 : PySem.W.keepIn K (.ref f39) = true)
    (a40 : PySem.W.nsIn K mainGlobals "rising" = some (some (.ref f40)))
    (l40 : K.lookup f40 = some ⟨oc40, od40, .func (PySem.W.fnOf "rising" "rising" (defArgs s_rising) (defBody s_rising) (defScope s_rising) .none kV40 dc40 pm40 an40 cd40 ct40), sl40⟩)
    (c40 : PySem.W.codeIn K cd40 "rising" = true)
    (k40 : PySem.W.keepIn K (.ref f40) = true)
    (a41 : PySem.W.nsIn K mainGlobals "turns_of" = some (some (.ref f41)))
    (l41 : K.lookup f41 = some ⟨oc41, od41, .func (PySem.W.fnOf "turns_of" "turns_of" (defArgs s_turns_of) (defBody s_turns_of) (defScope s_turns_of) .none kV41 dc41 pm41 an41 cd41 ct41), sl41⟩)
    (c41 : PySem.W.codeIn K cd41 "turns_of" = true)
    (k41 : PySem.W.keepIn K (.ref f41) = true)
    (a42 : PySem.W.nsIn K mainGlobals "by_size" = some (some (.ref f42)))
    (l42 : K.lookup f42 = some ⟨oc42, od42, .func (PySem.W.fnOf "by_size" "by_size" (defArgs s_by_size) (defBody s_by_size) (defScope s_by_size) .none kV42 dc42 pm42 an42 cd42 ct42), sl42⟩)
    (c42 : PySem.W.codeIn K cd42 "by_size" = true)
    (k42 : PySem.W.keepIn K (.ref f42) = true)
    (a43 : PySem.W.nsIn K mainGlobals "mapped" = some (some (.ref f43)))
    (l43 : K.lookup f43 = some ⟨oc43, od43, .func (PySem.W.fnOf "mapped" "mapped" (defArgs s_mapped) (defBody s_mapped) (defScope s_mapped) .none kV43 dc43 pm43 an43 cd43 ct43), sl43⟩)
    (c43 : PySem.W.codeIn K cd43 "mapped" = true)
    (k43 : PySem.W.keepIn K (.ref f43) = true)
    (a44 : PySem.W.nsIn K mainGlobals "lots_left" = some (some (.ref f44)))
    (l44 : K.lookup f44 = some ⟨oc44, od44, .func (PySem.W.fnOf "lots_left" "lots_left" (defArgs s_lots_left) (defBody s_lots_left) (defScope s_lots_left) .none kV44 dc44 pm44 an44 cd44 ct44), sl44⟩)
    (c44 : PySem.W.codeIn K cd44 "lots_left" = true)
    (k44 : PySem.W.keepIn K (.ref f44) = true)
    (a45 : PySem.W.nsIn K mainGlobals "_law_cell" = some (some (.ref f45)))
    (l45 : K.lookup f45 = some ⟨oc45, od45, .func (PySem.W.fnOf "_law_cell" "_law_cell" (defArgs s_law_cell) (defBody s_law_cell) (defScope s_law_cell) .none kV45 dc45 pm45 an45 cd45 ct45), sl45⟩)
    (c45 : PySem.W.codeIn K cd45 "_law_cell" = true)
    (k45 : PySem.W.keepIn K (.ref f45) = true)
    (a46 : PySem.W.nsIn K mainGlobals "_law_digits" = some (some (.ref f46)))
    (l46 : K.lookup f46 = some ⟨oc46, od46, .func (PySem.W.fnOf "_law_digits" "_law_digits" (defArgs s_law_digits) (defBody s_law_digits) (defScope s_law_digits) .none kV46 dc46 pm46 an46 cd46 ct46), sl46⟩)
    (c46 : PySem.W.codeIn K cd46 "_law_digits" = true)
    (k46 : PySem.W.keepIn K (.ref f46) = true)
    (a47 : PySem.W.nsIn K mainGlobals "_law_keys" = some (some (.ref f47)))
    (l47 : K.lookup f47 = some ⟨oc47, od47, .func (PySem.W.fnOf "_law_keys" "_law_keys" (defArgs s_law_keys) (defBody s_law_keys) (defScope s_law_keys) .none kV47 dc47 pm47 an47 cd47 ct47), sl47⟩)
    (c47 : PySem.W.codeIn K cd47 "_law_keys" = true)
    (k47 : PySem.W.keepIn K (.ref f47) = true)
    (a48 : PySem.W.nsIn K mainGlobals "_law_share" = some (some (.ref f48)))
    (l48 : K.lookup f48 = some ⟨oc48, od48, .func (PySem.W.fnOf "_law_share" "_law_share" (defArgs s_law_share) (defBody s_law_share) (defScope s_law_share) .none kV48 dc48 pm48 an48 cd48 ct48), sl48⟩)
    (c48 : PySem.W.codeIn K cd48 "_law_share" = true)
    (k48 : PySem.W.keepIn K (.ref f48) = true)
    (a49 : PySem.W.nsIn K mainGlobals "_law_load" = some (some (.ref f49)))
    (l49 : K.lookup f49 = some ⟨oc49, od49, .func (PySem.W.fnOf "_law_load" "_law_load" (defArgs s_law_load) (defBody s_law_load) (defScope s_law_load) .none kV49 dc49 pm49 an49 cd49 ct49), sl49⟩)
    (c49 : PySem.W.codeIn K cd49 "_law_load" = true)
    (k49 : PySem.W.keepIn K (.ref f49) = true)
    (a50 : PySem.W.nsIn K mainGlobals "_law_amid" = some (some (.ref f50)))
    (l50 : K.lookup f50 = some ⟨oc50, od50, .func (PySem.W.fnOf "_law_amid" "_law_amid" (defArgs s_law_amid) (defBody s_law_amid) (defScope s_law_amid) .none kV50 dc50 pm50 an50 cd50 ct50), sl50⟩)
    (c50 : PySem.W.codeIn K cd50 "_law_amid" = true)
    (k50 : PySem.W.keepIn K (.ref f50) = true)
    (a51 : PySem.W.nsIn K mainGlobals "_law_rising" = some (some (.ref f51)))
    (l51 : K.lookup f51 = some ⟨oc51, od51, .func (PySem.W.fnOf "_law_rising" "_law_rising" (defArgs s_law_rising) (defBody s_law_rising) (defScope s_law_rising) .none kV51 dc51 pm51 an51 cd51 ct51), sl51⟩)
    (c51 : PySem.W.codeIn K cd51 "_law_rising" = true)
    (k51 : PySem.W.keepIn K (.ref f51) = true)
    (a52 : PySem.W.nsIn K mainGlobals "_law_spares" = some (some (.ref f52)))
    (l52 : K.lookup f52 = some ⟨oc52, od52, .func (PySem.W.fnOf "_law_spares" "_law_spares" (defArgs s_law_spares) (defBody s_law_spares) (defScope s_law_spares) .none kV52 dc52 pm52 an52 cd52 ct52), sl52⟩)
    (c52 : PySem.W.codeIn K cd52 "_law_spares" = true)
    (k52 : PySem.W.keepIn K (.ref f52) = true)
    (a53 : PySem.W.nsIn K mainGlobals "_law_greatest" = some (some (.ref f53)))
    (l53 : K.lookup f53 = some ⟨oc53, od53, .func (PySem.W.fnOf "_law_greatest" "_law_greatest" (defArgs s_law_greatest) (defBody s_law_greatest) (defScope s_law_greatest) .none kV53 dc53 pm53 an53 cd53 ct53), sl53⟩)
    (c53 : PySem.W.codeIn K cd53 "_law_greatest" = true)
    (k53 : PySem.W.keepIn K (.ref f53) = true)
    (a54 : PySem.W.nsIn K mainGlobals "_law_left" = some (some (.ref f54)))
    (l54 : K.lookup f54 = some ⟨oc54, od54, .func (PySem.W.fnOf "_law_left" "_law_left" (defArgs s_law_left) (defBody s_law_left) (defScope s_law_left) .none kV54 dc54 pm54 an54 cd54 ct54), sl54⟩)
    (c54 : PySem.W.codeIn K cd54 "_law_left" = true)
    (k54 : PySem.W.keepIn K (.ref f54) = true)
    (a55 : PySem.W.nsIn K mainGlobals "_law_at" = some (some (.ref f55)))
    (l55 : K.lookup f55 = some ⟨oc55, od55, .func (PySem.W.fnOf "_law_at" "_law_at" (defArgs s_law_at) (defBody s_law_at) (defScope s_law_at) .none kV55 dc55 pm55 an55 cd55 ct55), sl55⟩)
    (c55 : PySem.W.codeIn K cd55 "_law_at" = true)
    (k55 : PySem.W.keepIn K (.ref f55) = true)
    (a56 : PySem.W.nsIn K mainGlobals "_law_turns" = some (some (.ref f56)))
    (l56 : K.lookup f56 = some ⟨oc56, od56, .func (PySem.W.fnOf "_law_turns" "_law_turns" (defArgs s_law_turns) (defBody s_law_turns) (defScope s_law_turns) .none kV56 dc56 pm56 an56 cd56 ct56), sl56⟩)
    (c56 : PySem.W.codeIn K cd56 "_law_turns" = true)
    (k56 : PySem.W.keepIn K (.ref f56) = true)
    (a57 : PySem.W.nsIn K mainGlobals "_law_due" = some (some (.ref f57)))
    (l57 : K.lookup f57 = some ⟨oc57, od57, .func (PySem.W.fnOf "_law_due" "_law_due" (defArgs s_law_due) (defBody s_law_due) (defScope s_law_due) .none kV57 dc57 pm57 an57 cd57 ct57), sl57⟩)
    (c57 : PySem.W.codeIn K cd57 "_law_due" = true)
    (k57 : PySem.W.keepIn K (.ref f57) = true)
    (a58 : PySem.W.nsIn K mainGlobals "_law_sides_right" = some (some (.ref f58)))
    (l58 : K.lookup f58 = some ⟨oc58, od58, .func (PySem.W.fnOf "_law_sides_right" "_law_sides_right" (defArgs s_law_sides_right) (defBody s_law_sides_right) (defScope s_law_sides_right) .none kV58 dc58 pm58 an58 cd58 ct58), sl58⟩)
    (c58 : PySem.W.codeIn K cd58 "_law_sides_right" = true)
    (k58 : PySem.W.keepIn K (.ref f58) = true)
    (a59 : PySem.W.nsIn K mainGlobals "_law_right" = some (some (.ref f59)))
    (l59 : K.lookup f59 = some ⟨oc59, od59, .func (PySem.W.fnOf "_law_right" "_law_right" (defArgs s_law_right) (defBody s_law_right) (defScope s_law_right) .none kV59 dc59 pm59 an59 cd59 ct59), sl59⟩)
    (c59 : PySem.W.codeIn K cd59 "_law_right" = true)
    (k59 : PySem.W.keepIn K (.ref f59) = true)
    (a60 : PySem.W.nsIn K mainGlobals "_law_heavy" = some (some (.ref f60)))
    (l60 : K.lookup f60 = some ⟨oc60, od60, .func (PySem.W.fnOf "_law_heavy" "_law_heavy" (defArgs s_law_heavy) (defBody s_law_heavy) (defScope s_law_heavy) .none kV60 dc60 pm60 an60 cd60 ct60), sl60⟩)
    (c60 : PySem.W.codeIn K cd60 "_law_heavy" = true)
    (k60 : PySem.W.keepIn K (.ref f60) = true)
    (a61 : PySem.W.nsIn K mainGlobals "_law_world" = some (some (.ref f61)))
    (l61 : K.lookup f61 = some ⟨oc61, od61, .func (PySem.W.fnOf "_law_world" "_law_world" (defArgs s_law_world) (defBody s_law_world) (defScope s_law_world) .none kV61 dc61 pm61 an61 cd61 ct61), sl61⟩)
    (c61 : PySem.W.codeIn K cd61 "_law_world" = true)
    (k61 : PySem.W.keepIn K (.ref f61) = true)
    (a62 : PySem.W.nsIn K mainGlobals "_law_made" = some (some (.ref f62)))
    (l62 : K.lookup f62 = some ⟨oc62, od62, .func (PySem.W.fnOf "_law_made" "_law_made" (defArgs s_law_made) (defBody s_law_made) (defScope s_law_made) .none kV62 dc62 pm62 an62 cd62 ct62), sl62⟩)
    (c62 : PySem.W.codeIn K cd62 "_law_made" = true)
    (k62 : PySem.W.keepIn K (.ref f62) = true)
    (a63 : PySem.W.nsIn K mainGlobals "_law_fine" = some (some (.ref f63)))
    (l63 : K.lookup f63 = some ⟨oc63, od63, .func (PySem.W.fnOf "_law_fine" "_law_fine" (defArgs s_law_fine) (defBody s_law_fine) (defScope s_law_fine) .none kV63 dc63 pm63 an63 cd63 ct63), sl63⟩)
    (c63 : PySem.W.codeIn K cd63 "_law_fine" = true)
    (k63 : PySem.W.keepIn K (.ref f63) = true)
    (a64 : PySem.W.nsIn K mainGlobals "_law_bare_right" = some (some (.ref f64)))
    (l64 : K.lookup f64 = some ⟨oc64, od64, .func (PySem.W.fnOf "_law_bare_right" "_law_bare_right" (defArgs s_law_bare_right) (defBody s_law_bare_right) (defScope s_law_bare_right) .none kV64 dc64 pm64 an64 cd64 ct64), sl64⟩)
    (c64 : PySem.W.codeIn K cd64 "_law_bare_right" = true)
    (k64 : PySem.W.keepIn K (.ref f64) = true)
    (a65 : PySem.W.nsIn K mainGlobals "law" = some (some (.ref f65)))
    (l65 : K.lookup f65 = some ⟨oc65, od65, .func (PySem.W.fnOf "law" "law" (defArgs s_law) (defBody s_law) (defScope s_law) .none kV65 dc65 pm65 an65 cd65 ct65), sl65⟩)
    (c65 : PySem.W.codeIn K cd65 "law" = true)
    (k65 : PySem.W.keepIn K (.ref f65) = true)
    (gPlank : PySem.W.nsIn K mainGlobals "Plank" = some (some (.ref CPlank)))
    (pgPlank : PySem.W.plainGet K CPlank Str.empty = true)
    (hdPlank : PySem.W.hasDictIn K CPlank = true)
    (poPlank : PySem.W.plainOver K CPlank = true)
    (saPlank : PySem.W.findIn K (.ref CPlank) "__setattr__" = some (some (.builtin "object.__setattr__")))
    (mkPlank : PySem.W.makesIn K CPlank = true)
    (kcPlank : PySem.W.keepIn K (.ref CPlank) = true)
    (gLoads : PySem.W.nsIn K mainGlobals "Loads" = some (some (.ref CLoads)))
    (pgLoads : PySem.W.plainGet K CLoads Str.empty = true)
    (hdLoads : PySem.W.hasDictIn K CLoads = true)
    (poLoads : PySem.W.plainOver K CLoads = true)
    (saLoads : PySem.W.findIn K (.ref CLoads) "__setattr__" = some (some (.builtin "object.__setattr__")))
    (mkLoads : PySem.W.makesIn K CLoads = true)
    (kcLoads : PySem.W.keepIn K (.ref CLoads) = true)
    (nPlanklong : PySem.W.findIn K (.ref CPlank) "long" = some none)
    (nPlankstakes : PySem.W.findIn K (.ref CPlank) "stakes" = some none)
    (nPlanklimit : PySem.W.findIn K (.ref CPlank) "limit" = some none)
    (nLoadsplank : PySem.W.findIn K (.ref CLoads) "plank" = some none)
    (nLoadsweights : PySem.W.findIn K (.ref CLoads) "weights" = some none)
    (nLoadsknown : PySem.W.findIn K (.ref CLoads) "known" = some none)
    (nLoadsover : PySem.W.findIn K (.ref CLoads) "over" = some none)
    (zabs : PySem.W.nsIn K mainGlobals "abs" = some none)
    (zisinstance : PySem.W.nsIn K mainGlobals "isinstance" = some none)
    (ztuple : PySem.W.nsIn K mainGlobals "tuple" = some none)
    (zint : PySem.W.nsIn K mainGlobals "int" = some none)
    (zbool : PySem.W.nsIn K mainGlobals "bool" = some none)
    (zlist : PySem.W.nsIn K mainGlobals "list" = some none)
    (zlen : PySem.W.nsIn K mainGlobals "len" = some none)
    (zall : PySem.W.nsIn K mainGlobals "all" = some none)
    (zany : PySem.W.nsIn K mainGlobals "any" = some none)
    (zrange : PySem.W.nsIn K mainGlobals "range" = some none)
    (zzip : PySem.W.nsIn K mainGlobals "zip" = some none)
    (zenumerate : PySem.W.nsIn K mainGlobals "enumerate" = some none)
    (zsum : PySem.W.nsIn K mainGlobals "sum" = some none)
    (zmax : PySem.W.nsIn K mainGlobals "max" = some none)
    (zmin : PySem.W.nsIn K mainGlobals "min" = some none)
    (zsorted : PySem.W.nsIn K mainGlobals "sorted" = some none)
    (zset : PySem.W.nsIn K mainGlobals "set" = some none)
    (zdict : PySem.W.nsIn K mainGlobals "dict" = some none)
    (aBend : PySem.W.nsIn K DP "bend" = some (some .none))
    (gN : PySem.W.nsIn K mainGlobals "NOUGHT" = some (some (.ref aN)))
    (gO : PySem.W.nsIn K mainGlobals "ONE" = some (some (.ref aO)))
    (lN : K.lookup aN = some ⟨.type "tuple", odN, .seq #[.int 0 tN1, .int 1 tN2] nN, slN⟩)
    (lO : K.lookup aO = some ⟨.type "tuple", odO, .seq #[.int 1 tO1, .int 1 tO2] nO, slO⟩)
    (gL : PySem.W.nsIn K mainGlobals "LEFT_WALL" = some (some (.int (-1) tL)))
    (gM : PySem.W.nsIn K mainGlobals "MOST_LENGTH" = some (some (.int 1000 tM)))
    (gP : PySem.W.nsIn K mainGlobals "MOST_PROPS" = some (some (.int 12 tP))) :
    ∃ fd : FuncData, (∀ (s : Shared) (v : Value), BindsTo s fd ⟨[v], []⟩ [("_law_script", v)]) ∧ ∀ base : Heap, K.In base → base.Ns mainGlobals mg → FnOk l.prog w K mg base CX0 12 fa fd ["_law_script"] (spLaw K) := by
  have e := hfa.symm.trans (PySem.W.mg_of X G a65)
  cases e
  have T : Txt K mg aN aO tL tM tP := ⟨PySem.W.mg_none_of X G zabs, PySem.W.mg_none_of X G zisinstance, PySem.W.mg_none_of X G ztuple, PySem.W.mg_none_of X G zint, PySem.W.mg_none_of X G zbool, PySem.W.mg_none_of X G zlist, PySem.W.mg_none_of X G zlen, PySem.W.mg_none_of X G zall, PySem.W.mg_none_of X G zany, PySem.W.mg_none_of X G zrange, PySem.W.mg_none_of X G zzip, PySem.W.mg_none_of X G zenumerate, PySem.W.mg_none_of X G zsum, PySem.W.mg_none_of X G zmax, PySem.W.mg_none_of X G zmin, PySem.W.mg_none_of X G zsorted, PySem.W.mg_none_of X G zset, PySem.W.mg_none_of X G zdict, PySem.W.mg_of X G gN, PySem.W.mg_of X G gO, fun H => .inr ⟨_, _, _, lN, rfl, rfl, (by show 2 ≤ sizeLine; decide), .cons ⟨_, rfl⟩ (.cons ⟨_, rfl⟩ .nil)⟩, fun H => .inr ⟨_, _, _, lO, rfl, rfl, (by show 2 ≤ sizeLine; decide), .cons ⟨_, rfl⟩ (.cons ⟨_, rfl⟩ .nil)⟩, PySem.W.mg_of X G gL, PySem.W.mg_of X G gM, PySem.W.mg_of X G gP⟩
  have TPlank : Cls K CPlank := ⟨pgPlank, hdPlank, poPlank, saPlank⟩
  have NPlank : PlankNo K CPlank := ⟨nPlanklong, nPlankstakes, nPlanklimit⟩
  have TLoads : Cls K CLoads := ⟨pgLoads, hdLoads, poLoads, saLoads⟩
  have NLoads : LoadsNo K CLoads := ⟨nLoadsplank, nLoadsweights, nLoadsknown, nLoadsover⟩
  have F0 := fun_mk (st := s_divisor) l0 c0 k0
  have b0 := F0.binds (ps := ["one", "other"]) fun _ _ _ _ _ _ us hl => match us, hl with | [_, _], _ => rfl
  have F1 := fun_mk (st := s_cut) l1 c1 k1
  have b1 := F1.binds (ps := ["top", "bottom"]) fun _ _ _ _ _ _ us hl => match us, hl with | [_, _], _ => rfl
  have F2 := fun_mk (st := s_law_cut) l2 c2 k2
  have b2 := F2.binds (ps := ["_law_top", "_law_bottom"]) fun _ _ _ _ _ _ us hl => match us, hl with | [_, _], _ => rfl
  have F3 := fun_mk (st := s_plus) l3 c3 k3
  have b3 := F3.binds (ps := ["one", "other"]) fun _ _ _ _ _ _ us hl => match us, hl with | [_, _], _ => rfl
  have F4 := fun_mk (st := s_less) l4 c4 k4
  have b4 := F4.binds (ps := ["one", "other"]) fun _ _ _ _ _ _ us hl => match us, hl with | [_, _], _ => rfl
  have F5 := fun_mk (st := s_times) l5 c5 k5
  have b5 := F5.binds (ps := ["one", "other"]) fun _ _ _ _ _ _ us hl => match us, hl with | [_, _], _ => rfl
  have F6 := fun_mk (st := s_over) l6 c6 k6
  have b6 := F6.binds (ps := ["one", "other"]) fun _ _ _ _ _ _ us hl => match us, hl with | [_, _], _ => rfl
  have F7 := fun_mk (st := s_is_below) l7 c7 k7
  have b7 := F7.binds (ps := ["one", "other"]) fun _ _ _ _ _ _ us hl => match us, hl with | [_, _], _ => rfl
  have F8 := fun_mk (st := s_whole) l8 c8 k8
  have b8 := F8.binds (ps := ["number"]) fun _ _ _ _ _ _ us hl => match us, hl with | [_], _ => rfl
  have F9 := fun_mk (st := s_law_plus) l9 c9 k9
  have b9 := F9.binds (ps := ["_law_one", "_law_other"]) fun _ _ _ _ _ _ us hl => match us, hl with | [_, _], _ => rfl
  have F10 := fun_mk (st := s_law_minus) l10 c10 k10
  have b10 := F10.binds (ps := ["_law_one", "_law_other"]) fun _ _ _ _ _ _ us hl => match us, hl with | [_, _], _ => rfl
  have F11 := fun_mk (st := s_law_by) l11 c11 k11
  have b11 := F11.binds (ps := ["_law_one", "_law_other"]) fun _ _ _ _ _ _ us hl => match us, hl with | [_, _], _ => rfl
  have F12 := fun_mk (st := s_law_part_of) l12 c12 k12
  have b12 := F12.binds (ps := ["_law_one", "_law_other"]) fun _ _ _ _ _ _ us hl => match us, hl with | [_, _], _ => rfl
  have F13 := fun_mk (st := s_law_is_below) l13 c13 k13
  have b13 := F13.binds (ps := ["_law_one", "_law_other"]) fun _ _ _ _ _ _ us hl => match us, hl with | [_, _], _ => rfl
  have F14 := fun_mk (st := s_is_whole) l14 c14 k14
  have b14 := F14.binds (ps := ["thing"]) fun _ _ _ _ _ _ us hl => match us, hl with | [_], _ => rfl
  have F15 := fun_mk (st := s_is_fraction) l15 c15 k15
  have b15 := F15.binds (ps := ["thing"]) fun _ _ _ _ _ _ us hl => match us, hl with | [_], _ => rfl
  have F16 := fun_mk (st := s_is_measure) l16 c16 k16
  have b16 := F16.binds (ps := ["thing"]) fun _ _ _ _ _ _ us hl => match us, hl with | [_], _ => rfl
  have F17 := fun_mk (st := s_is_prop) l17 c17 k17
  have b17 := F17.binds (ps := ["thing", "length"]) fun _ _ _ _ _ _ us hl => match us, hl with | [_, _], _ => rfl
  have F18 := fun_mk (st := s_are_props) l18 c18 k18
  have b18 := F18.binds (ps := ["thing", "length"]) fun _ _ _ _ _ _ us hl => match us, hl with | [_, _], _ => rfl
  have F19 := fun_mk (st := s_sum_of) l19 c19 k19
  have b19 := F19.binds (ps := ["some"]) fun _ _ _ _ _ _ us hl => match us, hl with | [_], _ => rfl
  have F20 := fun_mk (st := s_Plank___init__) l20 c20 k20
  have F21 := fun_mk (st := s_Plank_length) l21 c21 k21
  have b21 := F21.binds (ps := ["self"]) fun _ _ _ _ _ _ us hl => match us, hl with | [_], _ => rfl
  have F22 := fun_mk (st := s_Plank_count) l22 c22 k22
  have b22 := F22.binds (ps := ["self"]) fun _ _ _ _ _ _ us hl => match us, hl with | [_], _ => rfl
  have F23 := fun_mk (st := s_Plank_props) l23 c23 k23
  have b23 := F23.binds (ps := ["self"]) fun _ _ _ _ _ _ us hl => match us, hl with | [_], _ => rfl
  have F24 := fun_mk (st := s_Plank_place_of) l24 c24 k24
  have b24 := F24.binds (ps := ["self", "rest"]) fun _ _ _ _ _ _ us hl => match us, hl with | [_, _], _ => rfl
  have F25 := fun_mk (st := s_lot_of) l25 c25 k25
  have b25 := F25.binds (ps := ["plank", "lot"]) fun _ _ _ _ _ _ us hl => match us, hl with | [_, _], _ => rfl
  have F26 := fun_mk (st := s_rests_of) l26 c26 k26
  have b26 := F26.binds (ps := ["plank", "lot"]) fun _ _ _ _ _ _ us hl => match us, hl with | [_, _], _ => rfl
  have F27 := fun_mk (st := s_is_spot) l27 c27 k27
  have b27 := F27.binds (ps := ["plank", "thing"]) fun _ _ _ _ _ _ us hl => match us, hl with | [_, _], _ => rfl
  have F28 := fun_mk (st := s_is_weight) l28 c28 k28
  have b28 := F28.binds (ps := ["plank", "thing"]) fun _ _ _ _ _ _ us hl => match us, hl with | [_, _], _ => rfl
  have F29 := fun_mk (st := s_check_weights) l29 c29 k29
  have b29 := F29.binds (ps := ["plank", "thing"]) fun _ _ _ _ _ _ us hl => match us, hl with | [_, _], _ => rfl
  have F30 := fun_mk (st := s_slope) l30 c30 k30
  have b30 := F30.binds (ps := ["low", "high", "spot"]) fun _ _ _ _ _ _ us hl => match us, hl with | [_, _, _], _ => rfl
  have F31 := fun_mk (st := s_Loads___init__) l31 c31 k31
  have b31 := F31.binds (ps := ["self", "plank", "weights"]) fun _ _ _ _ _ _ us hl => match us, hl with | [_, _, _], _ => rfl
  have F32 := fun_mk (st := s_Loads_share) l32 c32 k32
  have b32 := F32.binds (ps := ["self", "left", "rest", "right", "spot"]) fun _ _ _ _ _ _ us hl => match us, hl with | [_, _, _, _, _], _ => rfl
  have F33 := fun_mk (st := s_Loads_lies_on) l33 c33 k33
  have b33 := F33.binds (ps := ["self", "left", "rest", "right"]) fun _ _ _ _ _ _ us hl => match us, hl with | [_, _, _, _], _ => rfl
  have F34 := fun_mk (st := s_loads_of) l34 c34 k34
  have b34 := F34.binds (ps := ["plank", "weights"]) fun _ _ _ _ _ _ us hl => match us, hl with | [_, _], _ => rfl
  have F35 := fun_mk (st := s_without) l35 c35 k35
  have b35 := F35.binds (ps := ["lot", "prop"]) fun _ _ _ _ _ _ us hl => match us, hl with | [_, _], _ => rfl
  have F36 := fun_mk (st := s_spare_at) l36 c36 k36
  have b36 := F36.binds (ps := ["loads", "left", "prop", "right"]) fun _ _ _ _ _ _ us hl => match us, hl with | [_, _, _, _], _ => rfl
  have F37 := fun_mk (st := s_check_weight) l37 c37 k37
  have b37 := F37.binds (ps := ["thing"]) fun _ _ _ _ _ _ us hl => match us, hl with | [_], _ => rfl
  have F38 := fun_mk (st := s_with_sides) l38 c38 k38
  have b38 := F38.binds (ps := ["plank", "lot"]) fun _ _ _ _ _ _ us hl => match us, hl with | [_, _], _ => rfl
  have F39 := fun_mk (st := s_left_with) l39 c39 k39
  have b39 := F39.binds (ps := ["loads", "spot", "weight"]) fun _ _ _ _ _ _ us hl => match us, hl with | [_, _, _], _ => rfl
  have F40 := fun_mk (st := s_rising) l40 c40 k40
  have b40 := F40.binds (ps := ["spots"]) fun _ _ _ _ _ _ us hl => match us, hl with | [_], _ => rfl
  have F41 := fun_mk (st := s_turns_of) l41 c41 k41
  have b41 := F41.binds (ps := ["loads", "weight"]) fun _ _ _ _ _ _ us hl => match us, hl with | [_, _], _ => rfl
  have F42 := fun_mk (st := s_by_size) l42 c42 k42
  have b42 := F42.binds (ps := ["lot"]) fun _ _ _ _ _ _ us hl => match us, hl with | [_], _ => rfl
  have F43 := fun_mk (st := s_mapped) l43 c43 k43
  have b43 := F43.binds (ps := ["plank", "weights", "weight"]) fun _ _ _ _ _ _ us hl => match us, hl with | [_, _, _], _ => rfl
  have F44 := fun_mk (st := s_lots_left) l44 c44 k44
  have b44 := F44.binds (ps := ["plank", "weights", "weight"]) fun _ _ _ _ _ _ us hl => match us, hl with | [_, _, _], _ => rfl
  have F45 := fun_mk (st := s_law_cell) l45 c45 k45
  have b45 := F45.binds (ps := ["_law_script", "_law_k"]) fun _ _ _ _ _ _ us hl => match us, hl with | [_, _], _ => rfl
  have F46 := fun_mk (st := s_law_digits) l46 c46 k46
  have b46 := F46.binds (ps := ["_law_cell_here", "_law_wanted"]) fun _ _ _ _ _ _ us hl => match us, hl with | [_, _], _ => rfl
  have F47 := fun_mk (st := s_law_keys) l47 c47 k47
  have b47 := F47.binds (ps := ["_law_many"]) fun _ _ _ _ _ _ us hl => match us, hl with | [_], _ => rfl
  have F48 := fun_mk (st := s_law_share) l48 c48 k48
  have b48 := F48.binds (ps := ["_law_world_here", "_law_key", "_law_spot"]) fun _ _ _ _ _ _ us hl => match us, hl with | [_, _, _], _ => rfl
  have F49 := fun_mk (st := s_law_load) l49 c49 k49
  have b49 := F49.binds (ps := ["_law_world_here", "_law_heavy_here", "_law_key"]) fun _ _ _ _ _ _ us hl => match us, hl with | [_, _, _], _ => rfl
  have F50 := fun_mk (st := s_law_amid) l50 c50 k50
  have b50 := F50.binds (ps := ["_law_one", "_law_other"]) fun _ _ _ _ _ _ us hl => match us, hl with | [_, _], _ => rfl
  have F51 := fun_mk (st := s_law_rising) l51 c51 k51
  have b51 := F51.binds (ps := ["_law_some"]) fun _ _ _ _ _ _ us hl => match us, hl with | [_], _ => rfl
  have F52 := fun_mk (st := s_law_spares) l52 c52 k52
  have b52 := F52.binds (ps := ["_law_world_here", "_law_heavy_here"]) fun _ _ _ _ _ _ us hl => match us, hl with | [_, _], _ => rfl
  have F53 := fun_mk (st := s_law_greatest) l53 c53 k53
  have b53 := F53.binds (ps := ["_law_many", "_law_fails"]) fun _ _ _ _ _ _ us hl => match us, hl with | [_, _], _ => rfl
  have F54 := fun_mk (st := s_law_left) l54 c54 k54
  have b54 := F54.binds (ps := ["_law_many", "_law_spares_here", "_law_shares", "_law_much"]) fun _ _ _ _ _ _ us hl => match us, hl with | [_, _, _, _], _ => rfl
  have F55 := fun_mk (st := s_law_at) l55 c55 k55
  have b55 := F55.binds (ps := ["_law_world_here", "_law_spares_here", "_law_much", "_law_spot"]) fun _ _ _ _ _ _ us hl => match us, hl with | [_, _, _, _], _ => rfl
  have F56 := fun_mk (st := s_law_turns) l56 c56 k56
  have b56 := F56.binds (ps := ["_law_world_here", "_law_spares_here", "_law_much"]) fun _ _ _ _ _ _ us hl => match us, hl with | [_, _, _], _ => rfl
  have F57 := fun_mk (st := s_law_due) l57 c57 k57
  have b57 := F57.binds (ps := ["_law_world_here", "_law_spares_here", "_law_much"]) fun _ _ _ _ _ _ us hl => match us, hl with | [_, _, _], _ => rfl
  have F58 := fun_mk (st := s_law_sides_right) l58 c58 k58
  have b58 := F58.binds (ps := ["_law_due_here"]) fun _ _ _ _ _ _ us hl => match us, hl with | [_], _ => rfl
  have F59 := fun_mk (st := s_law_right) l59 c59 k59
  have b59 := F59.binds (ps := ["_law_world_here", "_law_plank", "_law_spares_here", "_law_much"]) fun _ _ _ _ _ _ us hl => match us, hl with | [_, _, _, _], _ => rfl
  have F60 := fun_mk (st := s_law_heavy) l60 c60 k60
  have b60 := F60.binds (ps := ["_law_digits_here", "_law_world_here"]) fun _ _ _ _ _ _ us hl => match us, hl with | [_, _], _ => rfl
  have F61 := fun_mk (st := s_law_world) l61 c61 k61
  have b61 := F61.binds (ps := ["_law_digits_here", "_law_most"]) fun _ _ _ _ _ _ us hl => match us, hl with | [_, _], _ => rfl
  have F62 := fun_mk (st := s_law_made) l62 c62 k62
  have b62 := F62.binds (ps := ["_law_world_here"]) fun _ _ _ _ _ _ us hl => match us, hl with | [_], _ => rfl
  have F63 := fun_mk (st := s_law_fine) l63 c63 k63
  have b63 := F63.binds (ps := ["_law_digits_here", "_law_world_here"]) fun _ _ _ _ _ _ us hl => match us, hl with | [_, _], _ => rfl
  have F64 := fun_mk (st := s_law_bare_right) l64 c64 k64
  have b64 := F64.binds (ps := ["_law_digits_here"]) fun _ _ _ _ _ _ us hl => match us, hl with | [_], _ => rfl
  have F65 := fun_mk (st := s_law) l65 c65 k65
  have bPl : ∃ ds, Vals [V.non] ds ∧ Binds K _ ["self", "length", "props", "bend"] ds := FunD.binds0 (kws := [("bend", V.non)]) ⟨⟨_, _, _, _, _, _, _, _, _, _, rfl, l20, c20, .inl ⟨rfl, rfl⟩, .inr ⟨DP, rfl, fun q hq => by
    rw [List.mem_singleton.mp hq]
    exact ⟨_, aBend, rfl⟩⟩⟩, k20⟩ 3 (by simp) rfl fun D doc pm an cdv ct us ks hl hk => match us, hl, ks, hk with | [_, _, _], _, [_], _ => ⟨_, _, _, _, _, _, rfl, rfl, rfl⟩
  refine ⟨PySem.W.fnOf "law" "law" (defArgs s_law) (defBody s_law) (defScope s_law) .none kV65 dc65 pm65 an65 cd65 ct65, fun s v => .of_eq rfl, fun base _ _ => ?_⟩
  have G_divisor : Fn l.prog w K mg base 1 "divisor" ["one", "other"] spDivisor := ⟨_, _, ok_divisor F0 T , PySem.W.mg_of X G a0, k0, b0⟩
  have G_cut : Fn l.prog w K mg base 2 "cut" ["top", "bottom"] spCut := ⟨_, _, ok_cut F1 T G_divisor, PySem.W.mg_of X G a1, k1, b1⟩
  have G_law_cut : Fn l.prog w K mg base 1 "_law_cut" ["_law_top", "_law_bottom"] spCut := ⟨_, _, ok_law_cut F2 T , PySem.W.mg_of X G a2, k2, b2⟩
  have G_plus : Fn l.prog w K mg base 3 "plus" ["one", "other"] (sp2 K (fun a b => a + b) (fun _ _ => True)) := ⟨_, _, ok_plus F3 T G_cut, PySem.W.mg_of X G a3, k3, b3⟩
  have G_less : Fn l.prog w K mg base 3 "less" ["one", "other"] (sp2 K (fun a b => a - b) (fun _ _ => True)) := ⟨_, _, ok_less F4 T G_cut, PySem.W.mg_of X G a4, k4, b4⟩
  have G_times : Fn l.prog w K mg base 3 "times" ["one", "other"] (sp2 K (fun a b => a * b) (fun _ _ => True)) := ⟨_, _, ok_times F5 T G_cut, PySem.W.mg_of X G a5, k5, b5⟩
  have G_over : Fn l.prog w K mg base 3 "over" ["one", "other"] (sp2 K (fun a b => a / b) (fun _ b => 0 < b)) := ⟨_, _, ok_over F6 T G_cut, PySem.W.mg_of X G a6, k6, b6⟩
  have G_is_below : Fn l.prog w K mg base 1 "is_below" ["one", "other"] (spBelow K) := ⟨_, _, ok_is_below F7 T , PySem.W.mg_of X G a7, k7, b7⟩
  have G_whole : Fn l.prog w K mg base 1 "whole" ["number"] spWhole := ⟨_, _, ok_whole F8 T , PySem.W.mg_of X G a8, k8, b8⟩
  have G_law_plus : Fn l.prog w K mg base 2 "_law_plus" ["_law_one", "_law_other"] (sp2 K (fun a b => a + b) (fun _ _ => True)) := ⟨_, _, ok_law_plus F9 T G_law_cut, PySem.W.mg_of X G a9, k9, b9⟩
  have G_law_minus : Fn l.prog w K mg base 2 "_law_minus" ["_law_one", "_law_other"] (sp2 K (fun a b => a - b) (fun _ _ => True)) := ⟨_, _, ok_law_minus F10 T G_law_cut, PySem.W.mg_of X G a10, k10, b10⟩
  have G_law_by : Fn l.prog w K mg base 2 "_law_by" ["_law_one", "_law_other"] (sp2 K (fun a b => a * b) (fun _ _ => True)) := ⟨_, _, ok_law_by F11 T G_law_cut, PySem.W.mg_of X G a11, k11, b11⟩
  have G_law_part_of : Fn l.prog w K mg base 2 "_law_part_of" ["_law_one", "_law_other"] (sp2 K (fun a b => a / b) (fun _ b => 0 < b)) := ⟨_, _, ok_law_part_of F12 T G_law_cut, PySem.W.mg_of X G a12, k12, b12⟩
  have G_law_is_below : Fn l.prog w K mg base 1 "_law_is_below" ["_law_one", "_law_other"] (spBelow K) := ⟨_, _, ok_law_is_below F13 T , PySem.W.mg_of X G a13, k13, b13⟩
  have G_is_whole : Fn l.prog w K mg base 1 "is_whole" ["thing"] spIsWhole := ⟨_, _, ok_is_whole F14 T , PySem.W.mg_of X G a14, k14, b14⟩
  have G_is_fraction : Fn l.prog w K mg base 2 "is_fraction" ["thing"] (spIsFrac K) := ⟨_, _, ok_is_fraction F15 T G_divisor G_is_whole, PySem.W.mg_of X G a15, k15, b15⟩
  have G_is_measure : Fn l.prog w K mg base 3 "is_measure" ["thing"] (spIsMeas K) := ⟨_, _, ok_is_measure F16 T G_is_fraction G_is_below, PySem.W.mg_of X G a16, k16, b16⟩
  have G_is_prop : Fn l.prog w K mg base 4 "is_prop" ["thing", "length"] (spIsProp K) := ⟨_, _, ok_is_prop F17 T G_is_measure G_is_whole, PySem.W.mg_of X G a17, k17, b17⟩
  have G_are_props : Fn l.prog w K mg base 5 "are_props" ["thing", "length"] (spAreProps K) := ⟨_, _, ok_are_props F18 T G_is_prop, PySem.W.mg_of X G a18, k18, b18⟩
  have G_sum_of : Fn l.prog w K mg base 4 "sum_of" ["some"] (spSumOf K) := ⟨_, _, ok_sum_of F19 T G_plus, PySem.W.mg_of X G a19, k19, b19⟩
  have G_Plank___init__ : CFn l.prog w K mg base 6 CPlank "Plank" ["self", "length", "props", "bend"] [.non] (spPlankInit K CPlank) := by
      obtain ⟨dsP, vP, bP⟩ := bPl
      exact ⟨_, _, dsP, ok_Plank___init__ F20 T G_are_props G_is_whole G_is_measure TPlank NPlank, ⟨mkPlank, a20, i20, kcPlank⟩, PySem.W.mg_of X G gPlank, bP, vP⟩
  have G_Plank_length : MFn l.prog w K mg base 1 CPlank "length" ["self"] (spLength K CPlank) := ⟨_, _, ok_Plank_length F21 T  TPlank NPlank, ⟨a21, i21, k21⟩, b21⟩
  have G_Plank_count : MFn l.prog w K mg base 1 CPlank "count" ["self"] (spCount K CPlank) := ⟨_, _, ok_Plank_count F22 T  TPlank NPlank, ⟨a22, i22, k22⟩, b22⟩
  have G_Plank_props : MFn l.prog w K mg base 1 CPlank "props" ["self"] (spProps K CPlank) := ⟨_, _, ok_Plank_props F23 T  TPlank NPlank, ⟨a23, i23, k23⟩, b23⟩
  have G_Plank_place_of : MFn l.prog w K mg base 2 CPlank "place_of" ["self", "rest"] (spPlaceOf K CPlank) := ⟨_, _, ok_Plank_place_of F24 T G_is_whole G_Plank_count TPlank NPlank, ⟨a24, i24, k24⟩, b24⟩
  have G_lot_of : Fn l.prog w K mg base 2 "lot_of" ["plank", "lot"] (spLotOf K CPlank) := ⟨_, _, ok_lot_of F25 T G_Plank_count TPlank NPlank, PySem.W.mg_of X G a25, k25, b25⟩
  have G_rests_of : Fn l.prog w K mg base 2 "rests_of" ["plank", "lot"] (spRestsOf K CPlank) := ⟨_, _, ok_rests_of F26 T G_Plank_count TPlank NPlank, PySem.W.mg_of X G a26, k26, b26⟩
  have G_is_spot : Fn l.prog w K mg base 4 "is_spot" ["plank", "thing"] (spIsSpot K CPlank) := ⟨_, _, ok_is_spot F27 T G_is_measure G_is_below G_whole G_Plank_length TPlank NPlank, PySem.W.mg_of X G a27, k27, b27⟩
  have G_is_weight : Fn l.prog w K mg base 5 "is_weight" ["plank", "thing"] (spIsWeight K CPlank) := ⟨_, _, ok_is_weight F28 T G_is_spot G_is_fraction G_is_below TPlank NPlank, PySem.W.mg_of X G a28, k28, b28⟩
  have G_check_weights : Fn l.prog w K mg base 6 "check_weights" ["plank", "thing"] (spCheckW K CPlank) := ⟨_, _, ok_check_weights F29 T G_is_weight TPlank NPlank, PySem.W.mg_of X G a29, k29, b29⟩
  have G_slope : Fn l.prog w K mg base 4 "slope" ["low", "high", "spot"] (spSlope K) := ⟨_, _, ok_slope F30 T G_over G_less G_whole, PySem.W.mg_of X G a30, k30, b30⟩
  have G_Loads___init__ : CFn l.prog w K mg base 1 CLoads "Loads" ["self", "plank", "weights"] [] (spLoadsInit K CPlank CLoads) := ⟨_, _, [], ok_Loads___init__ F31 T  TLoads NLoads, ⟨mkLoads, a31, i31, kcLoads⟩, PySem.W.mg_of X G gLoads, b31, .nil⟩
  have G_Loads_share : MFn l.prog w K mg base 5 CLoads "share" ["self", "left", "rest", "right", "spot"] (spShare K CPlank CLoads) := ⟨_, _, ok_Loads_share F32 T G_Plank_place_of G_is_below G_less G_whole G_slope G_Plank_count TPlank TLoads NLoads, ⟨a32, i32, k32⟩, b32⟩
  have G_Loads_lies_on : MFn l.prog w K mg base 6 CLoads "lies_on" ["self", "left", "rest", "right"] (spLiesOn K CPlank CLoads) := ⟨_, _, ok_Loads_lies_on F33 T G_sum_of G_times G_Loads_share TLoads NLoads, ⟨a33, i33, k33⟩, b33⟩
  have G_loads_of : Fn l.prog w K mg base 7 "loads_of" ["plank", "weights"] (spLoadsOf K CPlank CLoads) := ⟨_, _, ok_loads_of F34 T G_check_weights G_Loads___init__, PySem.W.mg_of X G a34, k34, b34⟩
  have G_without : Fn l.prog w K mg base 1 "without" ["lot", "prop"] (spWithout K) := ⟨_, _, ok_without F35 T , PySem.W.mg_of X G a35, k35, b35⟩
  have G_spare_at : Fn l.prog w K mg base 7 "spare_at" ["loads", "left", "prop", "right"] (spSpareAt K CPlank CLoads) := ⟨_, _, ok_spare_at F36 T G_less G_Loads_lies_on G_Plank_props TPlank TLoads NLoads, PySem.W.mg_of X G a36, k36, b36⟩
  have G_check_weight : Fn l.prog w K mg base 3 "check_weight" ["thing"] (spCheckOne K) := ⟨_, _, ok_check_weight F37 T G_is_fraction G_is_below, PySem.W.mg_of X G a37, k37, b37⟩
  have G_with_sides : Fn l.prog w K mg base 3 "with_sides" ["plank", "lot"] (spWithSides K CPlank) := ⟨_, _, ok_with_sides F38 T G_rests_of, PySem.W.mg_of X G a38, k38, b38⟩
  have G_left_with : Fn l.prog w K mg base 8 "left_with" ["loads", "spot", "weight"] (spLeftWith K CPlank CLoads) := ⟨_, _, ok_left_with F39 T G_lot_of G_with_sides G_without G_times G_is_below G_Loads_share G_spare_at TLoads NLoads, PySem.W.mg_of X G a39, k39, b39⟩
  have G_rising : Fn l.prog w K mg base 2 "rising" ["spots"] (spRising K) := ⟨_, _, ok_rising F40 T G_is_below, PySem.W.mg_of X G a40, k40, b40⟩
  have G_turns_of : Fn l.prog w K mg base 8 "turns_of" ["loads", "weight"] (spTurns K CPlank CLoads) := ⟨_, _, ok_turns_of F41 T G_rising G_whole G_Plank_count G_Plank_place_of G_rests_of G_lot_of G_over G_spare_at G_is_below G_plus G_less G_times TPlank TLoads NLoads, PySem.W.mg_of X G a41, k41, b41⟩
  have G_by_size : Fn l.prog w K mg base 1 "by_size" ["lot"] (spBySize K) := ⟨_, _, ok_by_size F42 T , PySem.W.mg_of X G a42, k42, b42⟩
  have G_mapped : Fn l.prog w K mg base 9 "mapped" ["plank", "weights", "weight"] (spMapped K CPlank) := ⟨_, _, ok_mapped F43 T G_loads_of G_check_weight G_turns_of G_left_with G_cut, PySem.W.mg_of X G a43, k43, b43⟩
  have G_lots_left : Fn l.prog w K mg base 10 "lots_left" ["plank", "weights", "weight"] (spLotsLeft K CPlank) := ⟨_, _, ok_lots_left F44 T G_mapped G_by_size, PySem.W.mg_of X G a44, k44, b44⟩
  have G_law_cell : Fn l.prog w K mg base 1 "_law_cell" ["_law_script", "_law_k"] (spCell K) := ⟨_, _, ok_law_cell F45 T , PySem.W.mg_of X G a45, k45, b45⟩
  have G_law_digits : Fn l.prog w K mg base 1 "_law_digits" ["_law_cell_here", "_law_wanted"] spDigits := ⟨_, _, ok_law_digits F46 T , PySem.W.mg_of X G a46, k46, b46⟩
  have G_law_keys : Fn l.prog w K mg base 1 "_law_keys" ["_law_many"] spKeys := ⟨_, _, ok_law_keys F47 T , PySem.W.mg_of X G a47, k47, b47⟩
  have G_law_share : Fn l.prog w K mg base 2 "_law_share" ["_law_world_here", "_law_key", "_law_spot"] (spLawShare K) := ⟨_, _, ok_law_share F48 T G_law_is_below G_law_cut, PySem.W.mg_of X G a48, k48, b48⟩
  have G_law_load : Fn l.prog w K mg base 3 "_law_load" ["_law_world_here", "_law_heavy_here", "_law_key"] (spLawLoad K) := ⟨_, _, ok_law_load F49 T G_law_plus G_law_by G_law_share, PySem.W.mg_of X G a49, k49, b49⟩
  have G_law_amid : Fn l.prog w K mg base 3 "_law_amid" ["_law_one", "_law_other"] (spAmid K) := ⟨_, _, ok_law_amid F50 T G_law_part_of G_law_plus, PySem.W.mg_of X G a50, k50, b50⟩
  have G_law_rising : Fn l.prog w K mg base 2 "_law_rising" ["_law_some"] (spLawRising K) := ⟨_, _, ok_law_rising F51 T G_law_is_below, PySem.W.mg_of X G a51, k51, b51⟩
  have G_law_spares : Fn l.prog w K mg base 4 "_law_spares" ["_law_world_here", "_law_heavy_here"] (spSpares K) := ⟨_, _, ok_law_spares F52 T G_law_keys G_law_minus G_law_load, PySem.W.mg_of X G a52, k52, b52⟩
  have G_law_greatest : Fn l.prog w K mg base 1 "_law_greatest" ["_law_many", "_law_fails"] spGreatest := ⟨_, _, ok_law_greatest F53 T , PySem.W.mg_of X G a53, k53, b53⟩
  have G_law_left : Fn l.prog w K mg base 3 "_law_left" ["_law_many", "_law_spares_here", "_law_shares", "_law_much"] (spLawLeft K) := ⟨_, _, ok_law_left F54 T G_law_greatest G_law_is_below G_law_by, PySem.W.mg_of X G a54, k54, b54⟩
  have G_law_at : Fn l.prog w K mg base 4 "_law_at" ["_law_world_here", "_law_spares_here", "_law_much", "_law_spot"] (spLawAt K) := ⟨_, _, ok_law_at F55 T G_law_left G_law_share, PySem.W.mg_of X G a55, k55, b55⟩
  have G_law_turns : Fn l.prog w K mg base 3 "_law_turns" ["_law_world_here", "_law_spares_here", "_law_much"] (spLawTurns K) := ⟨_, _, ok_law_turns F56 T G_law_rising G_law_part_of G_law_is_below G_law_plus G_law_minus G_law_by, PySem.W.mg_of X G a56, k56, b56⟩
  have G_law_due : Fn l.prog w K mg base 5 "_law_due" ["_law_world_here", "_law_spares_here", "_law_much"] (spLawDue K) := ⟨_, _, ok_law_due F57 T G_law_turns G_law_at G_law_amid, PySem.W.mg_of X G a57, k57, b57⟩
  have G_law_sides_right : Fn l.prog w K mg base 1 "_law_sides_right" ["_law_due_here"] (spSides K) := ⟨_, _, ok_law_sides_right F58 T , PySem.W.mg_of X G a58, k58, b58⟩
  have G_law_right : Fn l.prog w K mg base 11 "_law_right" ["_law_world_here", "_law_plank", "_law_spares_here", "_law_much"] (spRight K CPlank) := ⟨_, _, ok_law_right F59 T G_law_due G_lots_left G_mapped G_law_sides_right, PySem.W.mg_of X G a59, k59, b59⟩
  have G_law_heavy : Fn l.prog w K mg base 2 "_law_heavy" ["_law_digits_here", "_law_world_here"] (spHeavy K) := ⟨_, _, ok_law_heavy F60 T G_law_cut, PySem.W.mg_of X G a60, k60, b60⟩
  have G_law_world : Fn l.prog w K mg base 4 "_law_world" ["_law_digits_here", "_law_most"] (spWorld K) := ⟨_, _, ok_law_world F61 T G_law_heavy G_law_load G_law_plus, PySem.W.mg_of X G a61, k61, b61⟩
  have G_law_made : Fn l.prog w K mg base 8 "_law_made" ["_law_world_here"] (spMade K CPlank) := ⟨_, _, ok_law_made F62 T G_Plank___init__, PySem.W.mg_of X G a62, k62, b62⟩
  have G_law_fine : Fn l.prog w K mg base 3 "_law_fine" ["_law_digits_here", "_law_world_here"] (spFine K) := ⟨_, _, ok_law_fine F63 T G_law_cut G_law_plus, PySem.W.mg_of X G a63, k63, b63⟩
  have G_law_bare_right : Fn l.prog w K mg base 11 "_law_bare_right" ["_law_digits_here"] spBare := ⟨_, _, ok_law_bare_right F64 T G_Plank___init__ G_law_cut G_mapped G_lots_left, PySem.W.mg_of X G a64, k64, b64⟩
  exact ok_law F65 T G_law_digits G_law_world G_law_spares G_law_cell G_law_fine G_law_cut G_law_bare_right G_law_right G_law_made
theorem walk {l : PySem.W.OpenLaw} {q : Program} {loose : List Str} {XP : (Str → Option Value) → Heap → Prop} {YP : World → Heap → Prop} {d : DefRec} {K : Params → PySem.W.Frag} (hn : l.most = some 63) (hdf : d.params.defaults = [])
    (hY : ∀ (w : World) (h : Heap), YP w h → (K w.params).In h)
    (F : ∀ (w : World) (mg : Str → Option Value) (fa : Addr) (h : Heap), (K w.params).In h → h.Ns mainGlobals mg → mg d.name = some (.ref fa) →
      ∃ fd : FuncData, (∀ (s : Shared) (u : Value), BindsTo s fd ⟨[u], []⟩ [("_law_script", u)]) ∧ ∀ base : Heap, (K w.params).In base → base.Ns mainGlobals mg → FnOk l.prog w (K w.params) mg base CX0 12 fa fd ["_law_script"] (spLaw (K w.params))) :
    PySem.W.WalkO q loose XP YP l.row.toRowW d [] (fun f vs => PySem.call f vs) :=
  L2.walk_of (n := 63) (k := 12) (x := "_law_script") (CX := fun _ => CX0) (sp := fun w => spLaw (K w.params)) hn (by decide) hdf ⟨rfl, by decide, by decide⟩ hY F (fun _ _ a ns hl _ hS => ⟨a, ns, rfl, hS, hl, fun _ => rfl⟩) fun _ _ _ _ _ z => z
end PF
end
open PySem PySem.W PyProof.Rows in
set_option maxRecDepth 100000 in
set_option maxHeartbeats 0 in
theorem PySem.Challenge.cw_propfall_k44_whole_one_weight_at_all_pla_holds : PySem.Challenge.rw_propfall_k44_whole_one_weight_at_all_pla.Holds := by
  w_on; o_law; k_head; (case hw => w_witness2)
  k_fill
  refine PF.walk (l := PySem.Challenge.rw_propfall_k44_whole_one_weight_at_all_pla) rfl rfl (fun w h Y => PySem.W.kIn_of Y) ?F
  case F =>
    intro w mg fa h KX G hmg
    refine' PF.all_mk KX G hmg ?a0 ?l0 ?c0 ?k0 ?a1 ?l1 ?c1 ?k1 ?a2 ?l2 ?c2 ?k2 ?a3 ?l3 ?c3 ?k3 ?a4 ?l4 ?c4 ?k4 ?a5 ?l5 ?c5 ?k5 ?a6 ?l6 ?c6 ?k6 ?a7 ?l7 ?c7 ?k7 ?a8 ?l8 ?c8 ?k8 ?a9 ?l9 ?c9 ?k9 ?a10 ?l10 ?c10 ?k10 ?a11 ?l11 ?c11 ?k11 ?a12 ?l12 ?c12 ?k12 ?a13 ?l13 ?c13 ?k13 ?a14 ?l14 ?c14 ?k14 ?a15 ?l15 ?c15 ?k15 ?a16 ?l16 ?c16 ?k16 ?a17 ?l17 ?c17 ?k17 ?a18 ?l18 ?c18 ?k18 ?a19 ?l19 ?c19 ?k19 ?a20 ?i20 ?l20 ?c20 ?k20 ?a21 ?i21 ?l21 ?c21 ?k21 ?a22 ?i22 ?l22 ?c22 ?k22 ?a23 ?i23 ?l23 ?c23 ?k23 ?a24 ?i24 ?l24 ?c24 ?k24 ?a25 ?l25 ?c25 ?k25 ?a26 ?l26 ?c26 ?k26 ?a27 ?l27 ?c27 ?k27 ?a28 ?l28 ?c28 ?k28 ?a29 ?l29 ?c29 ?k29 ?a30 ?l30 ?c30 ?k30 ?a31 ?i31 ?l31 ?c31 ?k31 ?a32 ?i32 ?l32 ?c32 ?k32 ?a33 ?i33 ?l33 ?c33 ?k33 ?a34 ?l34 ?c34 ?k34 ?a35 ?l35 ?c35 ?k35 ?a36 ?l36 ?c36 ?k36 ?a37 ?l37 ?c37 ?k37 ?a38 ?l38 ?c38 ?k38 ?a39 ?l39 ?c39 ?k39 ?a40 ?l40 ?c40 ?k40 ?a41 ?l41 ?c41 ?k41 ?a42 ?l42 ?c42 ?k42 ?a43 ?l43 ?c43 ?k43 ?a44 ?l44 ?c44 ?k44 ?a45 ?l45 ?c45 ?k45 ?a46 ?l46 ?c46 ?k46 ?a47 ?l47 ?c47 ?k47 ?a48 ?l48 ?c48 ?k48 ?a49 ?l49 ?c49 ?k49 ?a50 ?l50 ?c50 ?k50 ?a51 ?l51 ?c51 ?k51 ?a52 ?l52 ?c52 ?k52 ?a53 ?l53 ?c53 ?k53 ?a54 ?l54 ?c54 ?k54 ?a55 ?l55 ?c55 ?k55 ?a56 ?l56 ?c56 ?k56 ?a57 ?l57 ?c57 ?k57 ?a58 ?l58 ?c58 ?k58 ?a59 ?l59 ?c59 ?k59 ?a60 ?l60 ?c60 ?k60 ?a61 ?l61 ?c61 ?k61 ?a62 ?l62 ?c62 ?k62 ?a63 ?l63 ?c63 ?k63 ?a64 ?l64 ?c64 ?k64 ?a65 ?l65 ?c65 ?k65 ?gPlank ?pgPlank ?hdPlank ?poPlank ?saPlank ?mkPlank ?kcPlank ?gLoads ?pgLoads ?hdLoads ?poLoads ?saLoads ?mkLoads ?kcLoads ?nPlanklong ?nPlankstakes ?nPlanklimit ?nLoadsplank ?nLoadsweights ?nLoadsknown ?nLoadsover ?zabs ?zisinstance ?ztuple ?zint ?zbool ?zlist ?zlen ?zall ?zany ?zrange ?zzip ?zenumerate ?zsum ?zmax ?zmin ?zsorted ?zset ?zdict ?aBend ?gN ?gO ?lN ?lO ?gL ?gM ?gP
    (case gPlank => k_is)
    (case gLoads => k_is)
    (case gN => k_is)
    (case gO => k_is)
    (case a0 => k_is)
    (case l0 => k_is)
    (case c0 => k_is)
    (case k0 => k_is)
    (case a1 => k_is)
    (case l1 => k_is)
    (case c1 => k_is)
    (case k1 => k_is)
    (case a2 => k_is)
    (case l2 => k_is)
    (case c2 => k_is)
    (case k2 => k_is)
    (case a3 => k_is)
    (case l3 => k_is)
    (case c3 => k_is)
    (case k3 => k_is)
    (case a4 => k_is)
    (case l4 => k_is)
    (case c4 => k_is)
    (case k4 => k_is)
    (case a5 => k_is)
    (case l5 => k_is)
    (case c5 => k_is)
    (case k5 => k_is)
    (case a6 => k_is)
    (case l6 => k_is)
    (case c6 => k_is)
    (case k6 => k_is)
    (case a7 => k_is)
    (case l7 => k_is)
    (case c7 => k_is)
    (case k7 => k_is)
    (case a8 => k_is)
    (case l8 => k_is)
    (case c8 => k_is)
    (case k8 => k_is)
    (case a9 => k_is)
    (case l9 => k_is)
    (case c9 => k_is)
    (case k9 => k_is)
    (case a10 => k_is)
    (case l10 => k_is)
    (case c10 => k_is)
    (case k10 => k_is)
    (case a11 => k_is)
    (case l11 => k_is)
    (case c11 => k_is)
    (case k11 => k_is)
    (case a12 => k_is)
    (case l12 => k_is)
    (case c12 => k_is)
    (case k12 => k_is)
    (case a13 => k_is)
    (case l13 => k_is)
    (case c13 => k_is)
    (case k13 => k_is)
    (case a14 => k_is)
    (case l14 => k_is)
    (case c14 => k_is)
    (case k14 => k_is)
    (case a15 => k_is)
    (case l15 => k_is)
    (case c15 => k_is)
    (case k15 => k_is)
    (case a16 => k_is)
    (case l16 => k_is)
    (case c16 => k_is)
    (case k16 => k_is)
    (case a17 => k_is)
    (case l17 => k_is)
    (case c17 => k_is)
    (case k17 => k_is)
    (case a18 => k_is)
    (case l18 => k_is)
    (case c18 => k_is)
    (case k18 => k_is)
    (case a19 => k_is)
    (case l19 => k_is)
    (case c19 => k_is)
    (case k19 => k_is)
    (case a20 => k_is)
    (case i20 => k_is)
    (case l20 => k_is)
    (case c20 => k_is)
    (case k20 => k_is)
    (case a21 => k_is)
    (case i21 => k_is)
    (case l21 => k_is)
    (case c21 => k_is)
    (case k21 => k_is)
    (case a22 => k_is)
    (case i22 => k_is)
    (case l22 => k_is)
    (case c22 => k_is)
    (case k22 => k_is)
    (case a23 => k_is)
    (case i23 => k_is)
    (case l23 => k_is)
    (case c23 => k_is)
    (case k23 => k_is)
    (case a24 => k_is)
    (case i24 => k_is)
    (case l24 => k_is)
    (case c24 => k_is)
    (case k24 => k_is)
    (case a25 => k_is)
    (case l25 => k_is)
    (case c25 => k_is)
    (case k25 => k_is)
    (case a26 => k_is)
    (case l26 => k_is)
    (case c26 => k_is)
    (case k26 => k_is)
    (case a27 => k_is)
    (case l27 => k_is)
    (case c27 => k_is)
    (case k27 => k_is)
    (case a28 => k_is)
    (case l28 => k_is)
    (case c28 => k_is)
    (case k28 => k_is)
    (case a29 => k_is)
    (case l29 => k_is)
    (case c29 => k_is)
    (case k29 => k_is)
    (case a30 => k_is)
    (case l30 => k_is)
    (case c30 => k_is)
    (case k30 => k_is)
    (case a31 => k_is)
    (case i31 => k_is)
    (case l31 => k_is)
    (case c31 => k_is)
    (case k31 => k_is)
    (case a32 => k_is)
    (case i32 => k_is)
    (case l32 => k_is)
    (case c32 => k_is)
    (case k32 => k_is)
    (case a33 => k_is)
    (case i33 => k_is)
    (case l33 => k_is)
    (case c33 => k_is)
    (case k33 => k_is)
    (case a34 => k_is)
    (case l34 => k_is)
    (case c34 => k_is)
    (case k34 => k_is)
    (case a35 => k_is)
    (case l35 => k_is)
    (case c35 => k_is)
    (case k35 => k_is)
    (case a36 => k_is)
    (case l36 => k_is)
    (case c36 => k_is)
    (case k36 => k_is)
    (case a37 => k_is)
    (case l37 => k_is)
    (case c37 => k_is)
    (case k37 => k_is)
    (case a38 => k_is)
    (case l38 => k_is)
    (case c38 => k_is)
    (case k38 => k_is)
    (case a39 => k_is)
    (case l39 => k_is)
    (case c39 => k_is)
    (case k39 => k_is)
    (case a40 => k_is)
    (case l40 => k_is)
    (case c40 => k_is)
    (case k40 => k_is)
    (case a41 => k_is)
    (case l41 => k_is)
    (case c41 => k_is)
    (case k41 => k_is)
    (case a42 => k_is)
    (case l42 => k_is)
    (case c42 => k_is)
    (case k42 => k_is)
    (case a43 => k_is)
    (case l43 => k_is)
    (case c43 => k_is)
    (case k43 => k_is)
    (case a44 => k_is)
    (case l44 => k_is)
    (case c44 => k_is)
    (case k44 => k_is)
    (case a45 => k_is)
    (case l45 => k_is)
    (case c45 => k_is)
    (case k45 => k_is)
    (case a46 => k_is)
    (case l46 => k_is)
    (case c46 => k_is)
    (case k46 => k_is)
    (case a47 => k_is)
    (case l47 => k_is)
    (case c47 => k_is)
    (case k47 => k_is)
    (case a48 => k_is)
    (case l48 => k_is)
    (case c48 => k_is)
    (case k48 => k_is)
    (case a49 => k_is)
    (case l49 => k_is)
    (case c49 => k_is)
    (case k49 => k_is)
    (case a50 => k_is)
    (case l50 => k_is)
    (case c50 => k_is)
    (case k50 => k_is)
    (case a51 => k_is)
    (case l51 => k_is)
    (case c51 => k_is)
    (case k51 => k_is)
    (case a52 => k_is)
    (case l52 => k_is)
    (case c52 => k_is)
    (case k52 => k_is)
    (case a53 => k_is)
    (case l53 => k_is)
    (case c53 => k_is)
    (case k53 => k_is)
    (case a54 => k_is)
    (case l54 => k_is)
    (case c54 => k_is)
    (case k54 => k_is)
    (case a55 => k_is)
    (case l55 => k_is)
    (case c55 => k_is)
    (case k55 => k_is)
    (case a56 => k_is)
    (case l56 => k_is)
    (case c56 => k_is)
    (case k56 => k_is)
    (case a57 => k_is)
    (case l57 => k_is)
    (case c57 => k_is)
    (case k57 => k_is)
    (case a58 => k_is)
    (case l58 => k_is)
    (case c58 => k_is)
    (case k58 => k_is)
    (case a59 => k_is)
    (case l59 => k_is)
    (case c59 => k_is)
    (case k59 => k_is)
    (case a60 => k_is)
    (case l60 => k_is)
    (case c60 => k_is)
    (case k60 => k_is)
    (case a61 => k_is)
    (case l61 => k_is)
    (case c61 => k_is)
    (case k61 => k_is)
    (case a62 => k_is)
    (case l62 => k_is)
    (case c62 => k_is)
    (case k62 => k_is)
    (case a63 => k_is)
    (case l63 => k_is)
    (case c63 => k_is)
    (case k63 => k_is)
    (case a64 => k_is)
    (case l64 => k_is)
    (case c64 => k_is)
    (case k64 => k_is)
    (case a65 => k_is)
    (case l65 => k_is)
    (case c65 => k_is)
    (case k65 => k_is)
    (case pgPlank => k_is)
    (case hdPlank => k_is)
    (case poPlank => k_is)
    (case saPlank => k_is)
    (case mkPlank => k_is)
    (case kcPlank => k_is)
    (case pgLoads => k_is)
    (case hdLoads => k_is)
    (case poLoads => k_is)
    (case saLoads => k_is)
    (case mkLoads => k_is)
    (case kcLoads => k_is)
    (case nPlanklong => k_is)
    (case nPlankstakes => k_is)
    (case nPlanklimit => k_is)
    (case nLoadsplank => k_is)
    (case nLoadsweights => k_is)
    (case nLoadsknown => k_is)
    (case nLoadsover => k_is)
    (case zabs => k_is)
    (case zisinstance => k_is)
    (case ztuple => k_is)
    (case zint => k_is)
    (case zbool => k_is)
    (case zlist => k_is)
    (case zlen => k_is)
    (case zall => k_is)
    (case zany => k_is)
    (case zrange => k_is)
    (case zzip => k_is)
    (case zenumerate => k_is)
    (case zsum => k_is)
    (case zmax => k_is)
    (case zmin => k_is)
    (case zsorted => k_is)
    (case zset => k_is)
    (case zdict => k_is)
    (case aBend => k_is)
    (case lN => k_is)
    (case lO => k_is)
    (case gL => k_is)
    (case gM => k_is)
    (case gP => k_is)
#print axioms PySem.Challenge.cw_propfall_k44_whole_one_weight_at_all_pla_holds
