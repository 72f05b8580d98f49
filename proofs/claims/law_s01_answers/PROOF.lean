import PyProof.Rows.All
import Wide.All
import OpenK.AllK
import Wide.FinOn
import PyProof.EqAt
import PyProof.EqKinds
import PyProof.TupleCall
import Open.SpecLaws
import KE.OsGo
import KE.SortData
import KE.GoesMore
import PySem.Challenge.RW_roundtypes_s01_answers
import HandS.ForSpec
import HandS.Comp
import HandS.Dict
import HandS.Iter
import HandS.Conv
import HandS.Strs
import HandS.TupAny
import HandS.Deep
import HandS.Zip
import HandS.Sort
set_option Elab.async false
set_option linter.all false
set_option maxHeartbeats 2000000
set_option autoImplicit false
namespace Rt
open Su183 (Frac red Abs)

/-! ## Fractions -/
theorem gcd_pos' (a : Int) {q : Nat} (h : 0 < q) : 0 < Nat.gcd a.natAbs q := Nat.gcd_pos_of_pos_right _ h
theorem red_form (a : Int) {q : Nat} (h : 0 < q) : ∃ d : Nat, 0 < d ∧ a = (red a q).1 * (d : Int) ∧ q = (red a q).2 * d ∧ 0 < (red a q).2 := by
  have hd := gcd_pos' a h
  refine ⟨Nat.gcd a.natAbs q, hd, ?_, ?_, ?_⟩
  · show a = a / (Nat.gcd a.natAbs q : Int) * (Nat.gcd a.natAbs q : Int)
    refine (Int.ediv_mul_cancel ?_).symm
    exact Int.ofNat_dvd_left.mpr (Nat.gcd_dvd_left _ _)
  · show q = q / Nat.gcd a.natAbs q * Nat.gcd a.natAbs q
    exact (Nat.div_mul_cancel (Nat.gcd_dvd_right _ _)).symm
  · show 0 < q / Nat.gcd a.natAbs q
    exact Nat.div_pos (Nat.le_of_dvd h (Nat.gcd_dvd_right _ _)) hd
theorem red_snd_pos (a : Int) {q : Nat} (h : 0 < q) : 0 < (red a q).2 := by
  obtain ⟨_, _, _, _, e⟩ := red_form a h
  exact e
theorem red_cross (a : Int) {q : Nat} (h : 0 < q) : (red a q).1 * (q : Int) = a * ((red a q).2 : Int) := by
  obtain ⟨d, hd, e1, e2, _⟩ := red_form a h
  generalize (red a q).1 = x at *
  generalize (red a q).2 = y at *
  subst e1 e2
  rw [Int.natCast_mul]
  grind
theorem red_scale (a : Int) {q r : Nat} (hq : 0 < q) (hr : 0 < r) : red (a * (r : Int)) (q * r) = red a q := by
  have hd := gcd_pos' a hq
  have e : Nat.gcd (a * (r : Int)).natAbs (q * r) = Nat.gcd a.natAbs q * r := by
    rw [Int.natAbs_mul, Int.natAbs_natCast, Nat.gcd_mul_right]
  show ((a * (r : Int)) / (Nat.gcd (a * (r : Int)).natAbs (q * r) : Int), (q * r) / Nat.gcd (a * (r : Int)).natAbs (q * r)) = (a / (Nat.gcd a.natAbs q : Int), q / Nat.gcd a.natAbs q)
  rw [e, Int.natCast_mul, Int.mul_ediv_mul_of_pos_left _ _ (Int.natCast_pos.mpr hr), Nat.mul_div_mul_right _ _ hr]
theorem red_eq_of {a b : Int} {q r : Nat} (hq : 0 < q) (hr : 0 < r) (h : a * (r : Int) = b * (q : Int)) : red a q = red b r := by
  rw [← red_scale a hq hr, ← red_scale b hr hq, h, Nat.mul_comm]
theorem red_eq_iff {a b : Int} {q r : Nat} (hq : 0 < q) (hr : 0 < r) : red a q = red b r ↔ a * (r : Int) = b * (q : Int) := by
  refine ⟨fun e => ?_, red_eq_of hq hr⟩
  have h1 := red_cross a hq
  have h2 := red_cross b hr
  have hp := red_snd_pos b hr
  rw [e] at h1
  generalize (red b r).1 = x at *
  generalize (red b r).2 = y at *
  have z : ((y : Int)) ≠ 0 := by omega
  have : (a * (r : Int)) * (y : Int) = (b * (q : Int)) * (y : Int) := by grind
  exact Int.eq_of_mul_eq_mul_right z this
theorem red_inj {a b : Int} {q : Nat} (hq : 0 < q) : red a q = red b q ↔ a = b := by
  rw [red_eq_iff hq hq]
  exact ⟨fun h => Int.eq_of_mul_eq_mul_right (by omega) h, fun h => by rw [h]⟩
theorem lt_red {a b : Int} {q : Nat} (hq : 0 < q) : Su183.lt (red a q) (red b q) = decide (a < b) := by
  obtain ⟨d, hd, e1, e2, hp⟩ := red_form a hq
  obtain ⟨d', hd', e1', e2', hp'⟩ := red_form b hq
  unfold Su183.lt
  rw [decide_eq_decide]
  generalize (red a q).1 = x at *
  generalize (red a q).2 = y at *
  generalize (red b q).1 = x' at *
  generalize (red b q).2 = y' at *
  -- a y' = x d y', b y = x' d' y ; multiply by q: x y' q = x y' y d = a y' y ; x' y q = x' y y' d' = b y y'
  have h1 : x * (y' : Int) * (q : Int) = a * ((y : Int) * (y' : Int)) := by rw [e1, e2]; push_cast; grind
  have h2 : x' * (y : Int) * (q : Int) = b * ((y : Int) * (y' : Int)) := by
    have e2c : (q : Int) = (y' : Int) * (d' : Int) := by rw [e2']; push_cast; rfl
    rw [e1', e2c]; grind
  have hyy : (0 : Int) < (y : Int) * (y' : Int) := Int.mul_pos (by omega) (by omega)
  have hqq : (0 : Int) < (q : Int) := by omega
  constructor
  · intro h
    have : x * (y' : Int) * (q : Int) < x' * (y : Int) * (q : Int) := Int.mul_lt_mul_of_pos_right h hqq
    rw [h1, h2] at this
    exact Int.lt_of_mul_lt_mul_right this (Int.le_of_lt hyy)
  · intro h
    have : a * ((y : Int) * (y' : Int)) < b * ((y : Int) * (y' : Int)) := Int.mul_lt_mul_of_pos_right h hyy
    rw [← h1, ← h2] at this
    exact Int.lt_of_mul_lt_mul_right this (Int.le_of_lt hqq)
theorem floor_red (a : Int) {q : Nat} (hq : 0 < q) : (red a q).1 / ((red a q).2 : Int) = a / (q : Int) := by
  obtain ⟨d, hd, e1, e2, hp⟩ := red_form a hq
  generalize (red a q).1 = x at *
  generalize (red a q).2 = y at *
  subst e1 e2
  rw [Int.natCast_mul, Int.mul_ediv_mul_of_pos_left _ _ (by omega)]
theorem red_ofNat (c : Nat) : red (c : Int) 1 = Su183.ofNat c := by
  show ((c : Int) / (Nat.gcd (c : Int).natAbs 1 : Int), 1 / Nat.gcd (c : Int).natAbs 1) = ((c : Int), 1)
  rw [Nat.gcd_one_right]
  simp

/-! ## One turn of the line -/
def lift (g : Abs) (j : Nat) : Int := (g.point j : Int) - g.slope j * (j : Int)
/-- the place p over q, put along the straight of piece j -/
def lin (g : Abs) (q : Int) (p : Int) (j : Nat) : Int := g.slope j * p + lift g j * q
theorem put_red {g : Abs} {j q : Nat} {p : Int} (hq : 0 < q) (hj : j < g.n) (h1 : (j : Int) * q ≤ p) (h2 : p ≤ ((j : Int) + 1) * q) : g.put (red p q) = red (lin g q p j) q := by
  have hqq : (0 : Int) < (q : Int) := by omega
  have hc := red_cross p hq
  have hp := red_snd_pos p hq
  have fl := floor_red p hq
  have key : ∀ i : Nat, g.pieceOf (red p q) = i → lin g q p i = lin g q p j → g.put (red p q) = red (lin g q p j) q := by
    intro i hi e
    show red ((g.point (g.pieceOf (red p q)) : Int) * ((red p q).2 : Int) + g.slope (g.pieceOf (red p q)) * ((red p q).1 - ((g.pieceOf (red p q) : Nat) : Int) * ((red p q).2 : Int))) (red p q).2 = _
    rw [hi, ← e]
    refine red_eq_of hp hq ?_
    unfold lin lift
    generalize (red p q).1 = x at *
    generalize (red p q).2 = y at *
    generalize (g.point i : Int) = pi
    generalize g.slope i = si
    grind
  by_cases c : p < ((j : Int) + 1) * q
  · refine key j ?_ rfl
    unfold Abs.pieceOf
    rw [fl]
    have : p / (q : Int) = (j : Int) := by
      refine Int.le_antisymm ?_ ?_
      · exact Int.lt_add_one_iff.mp ((Int.ediv_lt_iff_lt_mul hqq).mpr c)
      · exact (Int.le_ediv_iff_mul_le hqq).mpr h1
    rw [this]; simp; omega
  · have hp' : p = ((j : Int) + 1) * q := Int.le_antisymm h2 (by omega)
    have fl' : p / (q : Int) = ((j + 1 : Nat) : Int) := by
      rw [hp', Int.mul_ediv_cancel _ (by omega)]; push_cast; rfl
    by_cases hn : j + 1 < g.n
    · refine key (j + 1) ?_ ?_
      · unfold Abs.pieceOf
        rw [fl, fl']; simp; omega
      · unfold lin lift
        have : g.slope j = (g.point (j + 1) : Int) - (g.point j : Int) := rfl
        rw [hp', this]
        generalize g.slope (j + 1) = s1
        push_cast
        grind
    · refine key j ?_ rfl
      unfold Abs.pieceOf
      rw [fl, fl']; simp; omega
end Rt

namespace Rt
open Su183 (Frac red Abs)

/-! ## Loops, and where they lead -/
theorem slope_def (g : Abs) (j : Nat) : g.slope j = (g.point (j + 1) : Int) - (g.point j : Int) := rfl
theorem covers_cases {g : Abs} {j l : Nat} (h : g.covers j l = true) :
    (0 < g.slope j ∧ (g.point j : Int) ≤ l ∧ (l : Int) + 1 ≤ g.point j + g.slope j) ∨ (g.slope j < 0 ∧ (g.point j : Int) + g.slope j ≤ l ∧ (l : Int) + 1 ≤ g.point j) := by
  unfold Abs.covers at h
  rw [Bool.and_eq_true, decide_eq_true_iff, decide_eq_true_iff] at h
  rw [slope_def]
  omega
/-- from j along r, then onto l -/
def Lk (g : Abs) : Nat → List Nat → Nat → Prop
  | j, [], l => g.covers j l = true
  | j, m :: r, l => g.covers j m = true ∧ m < g.n ∧ Lk g m r l
theorem loops_mem {g : Abs} {i : Nat} : ∀ (k : Nat) (j : Nat) (w : List Nat), w ∈ g.loopsFrom i j (k + 1) ↔ ∃ r, w = j :: r ∧ r.length = k ∧ Lk g j r i
  | 0, j, w => by
    show w ∈ (if g.covers j i = true then [[j]] else []) ↔ _
    constructor
    · intro h
      split at h
      · rename_i c
        rw [List.mem_singleton] at h
        exact ⟨[], h, rfl, c⟩
      · cases h
    · rintro ⟨r, rfl, hr, h⟩
      cases r with
      | nil => rw [if_pos (show g.covers j i = true from h)]; exact List.mem_singleton.mpr rfl
      | cons a b => cases hr
  | k + 1, j, w => by
    show w ∈ ((List.range g.n).filter (g.covers j)).flatMap (fun l => (g.loopsFrom i l (k + 1)).map fun w => j :: w) ↔ _
    rw [List.mem_flatMap]
    constructor
    · rintro ⟨l, hl, hw⟩
      rw [List.mem_filter, List.mem_range] at hl
      obtain ⟨w', hw', rfl⟩ := List.mem_map.mp hw
      obtain ⟨r, rfl, hr, h⟩ := (loops_mem k l w').mp hw'
      exact ⟨l :: r, rfl, by simp [hr], hl.2, hl.1, h⟩
    · rintro ⟨r, rfl, hr, h⟩
      cases r with
      | nil => cases hr
      | cons m r =>
        obtain ⟨h1, h2, h3⟩ := h
        refine ⟨m, List.mem_filter.mpr ⟨List.mem_range.mpr h2, h1⟩, List.mem_map.mpr ⟨m :: r, (loops_mem k m _).mpr ⟨r, rfl, by simpa using hr, h3⟩, rfl⟩⟩

theorem lk_snoc {g : Abs} {l m : Nat} : ∀ {j : Nat} {r : List Nat}, Lk g j (r ++ [l]) m ↔ (Lk g j r l ∧ l < g.n ∧ g.covers l m = true)
  | j, [] => by
    show (g.covers j l = true ∧ l < g.n ∧ g.covers l m = true) ↔ (g.covers j l = true ∧ l < g.n ∧ g.covers l m = true)
    exact Iff.rfl
  | j, x :: r => by
    show (g.covers j x = true ∧ x < g.n ∧ Lk g x (r ++ [l]) m) ↔ ((g.covers j x = true ∧ x < g.n ∧ Lk g x r l) ∧ _)
    rw [lk_snoc]
    exact ⟨fun ⟨a, b, c, d⟩ => ⟨⟨a, b, c⟩, d⟩, fun ⟨⟨a, b, c⟩, d⟩ => ⟨a, b, c, d⟩⟩
theorem lk_app {g : Abs} {m l : Nat} : ∀ {j : Nat} {r s : List Nat}, Lk g j (r ++ m :: s) l ↔ (Lk g j r m ∧ m < g.n ∧ Lk g m s l)
  | j, [], s => Iff.rfl
  | j, x :: r, s => by
    show (g.covers j x = true ∧ x < g.n ∧ Lk g x (r ++ m :: s) l) ↔ ((g.covers j x = true ∧ x < g.n ∧ Lk g x r m) ∧ _)
    rw [lk_app]
    exact ⟨fun ⟨a, b, c, d⟩ => ⟨⟨a, b, c⟩, d⟩, fun ⟨⟨a, b, c⟩, d⟩ => ⟨a, b, c, d⟩⟩

/-- one piece more -/
def step (g : Abs) (z : Int × Int) (i : Nat) : Int × Int := (g.slope i * z.1, g.slope i * z.2 + lift g i)
theorem along_eq (g : Abs) (w : List Nat) : g.along w = w.foldl (step g) (1, 0) := by
  unfold Abs.along
  congr 1
  funext z i
  unfold step lift
  refine Prod.ext rfl ?_
  show (g.point i : Int) + g.slope i * (z.2 - (i : Int)) = g.slope i * z.2 + ((g.point i : Int) - g.slope i * (i : Int))
  grind
/-- what stands over [i, i + 1] covers [l, l + 1] -/
def Cov (S L i l : Int) : Prop := (0 < S ∧ S * i + L ≤ l ∧ l + 1 ≤ S * (i + 1) + L) ∨ (S < 0 ∧ S * (i + 1) + L ≤ l ∧ l + 1 ≤ S * i + L)
theorem cov_one (i : Nat) : Cov 1 0 i i := Or.inl ⟨by decide, by omega, by omega⟩
theorem cov_step {g : Abs} {S L i : Int} {j l : Nat} (h : Cov S L i j) (c : g.covers j l = true) : Cov (g.slope j * S) (g.slope j * L + lift g j) i l := by
  have hc := covers_cases c
  unfold Cov lift
  generalize (g.point j : Int) = p at *
  generalize g.slope j = s at *
  rcases h with ⟨hS, h1, h2⟩ | ⟨hS, h1, h2⟩ <;> rcases hc with ⟨hs, h3, h4⟩ | ⟨hs, h3, h4⟩
  · refine Or.inl ⟨Int.mul_pos hs hS, ?_, ?_⟩
    · have := Int.mul_le_mul_of_nonneg_left h1 (Int.le_of_lt hs); grind
    · have := Int.mul_le_mul_of_nonneg_left h2 (Int.le_of_lt hs); grind
  · refine Or.inr ⟨Int.mul_neg_of_neg_of_pos hs hS, ?_, ?_⟩
    · have := Int.mul_le_mul_of_nonpos_left (Int.le_of_lt hs) h2; grind
    · have := Int.mul_le_mul_of_nonpos_left (Int.le_of_lt hs) h1; grind
  · refine Or.inr ⟨Int.mul_neg_of_pos_of_neg hs hS, ?_, ?_⟩
    · have := Int.mul_le_mul_of_nonneg_left h1 (Int.le_of_lt hs); grind
    · have := Int.mul_le_mul_of_nonneg_left h2 (Int.le_of_lt hs); grind
  · refine Or.inl ⟨Int.mul_pos_of_neg_of_neg hs hS, ?_, ?_⟩
    · have := Int.mul_le_mul_of_nonpos_left (Int.le_of_lt hs) h2; grind
    · have := Int.mul_le_mul_of_nonpos_left (Int.le_of_lt hs) h1; grind
theorem cov_path {g : Abs} {i : Int} : ∀ {r : List Nat} {j l : Nat} {z : Int × Int}, Cov z.1 z.2 i j → Lk g j r l → Cov ((j :: r).foldl (step g) z).1 ((j :: r).foldl (step g) z).2 i l
  | [], j, l, z, h, k => cov_step h k
  | m :: r, j, l, z, h, k => cov_path (r := r) (j := m) (z := step g z j) (cov_step h k.1) k.2.2
theorem cov_loop {g : Abs} {i : Nat} {r : List Nat} (k : Lk g i r i) : Cov (g.along (i :: r)).1 (g.along (i :: r)).2 i i := by
  rw [along_eq]
  exact cov_path (z := (1, 0)) (cov_one i) k

/-! ## Places along a way -/
/-- the places of a way from p on, over q -/
def places (g : Abs) (q : Int) : Int → List Nat → List Int
  | _, [] => []
  | p, j :: w => p :: places g q (lin g q p j) w
def endp (g : Abs) (q p : Int) (w : List Nat) : Int := w.foldl (lin g q) p
theorem places_length (g : Abs) (q : Int) : ∀ (w : List Nat) (p : Int), (places g q p w).length = w.length
  | [], _ => rfl
  | j :: w, p => by show (places g q (lin g q p j) w).length + 1 = w.length + 1; rw [places_length g q w]
theorem places_append (g : Abs) (q : Int) : ∀ (v w : List Nat) (p : Int), places g q p (v ++ w) = places g q p v ++ places g q (endp g q p v) w
  | [], w, p => rfl
  | j :: v, w, p => by
    show p :: places g q (lin g q p j) (v ++ w) = p :: (places g q (lin g q p j) v ++ places g q (endp g q (lin g q p j) v) w)
    rw [places_append g q v w]
theorem endp_append (g : Abs) (q p : Int) (v w : List Nat) : endp g q p (v ++ w) = endp g q (endp g q p v) w := List.foldl_append
theorem endp_step (g : Abs) (q p : Int) : ∀ (w : List Nat) (z : Int × Int), (w.foldl (step g) z).1 * p + (w.foldl (step g) z).2 * q = endp g q (z.1 * p + z.2 * q) w
  | [], z => rfl
  | j :: w, z => by
    show _ = endp g q (lin g q (z.1 * p + z.2 * q) j) w
    have := endp_step g q p w (step g z j)
    have e : (step g z j).1 * p + (step g z j).2 * q = lin g q (z.1 * p + z.2 * q) j := by
      unfold step lin
      grind
    rw [e] at this
    exact this
theorem endp_along (g : Abs) (q p : Int) (w : List Nat) : endp g q p w = (g.along w).1 * p + (g.along w).2 * q := by
  rw [along_eq, endp_step]
  congr 1
  omega
/-- each place in its piece -/
def Within (q : Int) : List Int → List Nat → Prop
  | [], [] => True
  | p :: ps, j :: w => ((j : Int) * q ≤ p ∧ p ≤ ((j : Int) + 1) * q) ∧ Within q ps w
  | _, _ => False
theorem pull {g : Abs} {j l : Nat} {q p : Int} (hq : 0 < q) (c : g.covers j l = true) (h1 : (l : Int) * q ≤ lin g q p j) (h2 : lin g q p j ≤ ((l : Int) + 1) * q) :
    (j : Int) * q ≤ p ∧ p ≤ ((j : Int) + 1) * q := by
  have hc := covers_cases c
  unfold lin lift at h1 h2
  generalize (g.point j : Int) = pj at *
  generalize g.slope j = s at *
  generalize (j : Int) = J at *
  generalize (l : Int) = M at *
  -- s (p - J q) + pj q between l q and (l+1) q
  rcases hc with ⟨hs, h3, h4⟩ | ⟨hs, h3, h4⟩
  · have a1 : pj * q ≤ M * q := Int.mul_le_mul_of_nonneg_right h3 (Int.le_of_lt hq)
    have a2 : (M + 1) * q ≤ (pj + s) * q := Int.mul_le_mul_of_nonneg_right h4 (Int.le_of_lt hq)
    have b1 : s * (J * q) ≤ s * p := by grind
    have b2 : s * p ≤ s * ((J + 1) * q) := by grind
    exact ⟨Int.le_of_mul_le_mul_left b1 hs, Int.le_of_mul_le_mul_left b2 hs⟩
  · have a1 : (pj + s) * q ≤ M * q := Int.mul_le_mul_of_nonneg_right h3 (Int.le_of_lt hq)
    have a2 : (M + 1) * q ≤ pj * q := Int.mul_le_mul_of_nonneg_right h4 (Int.le_of_lt hq)
    have b1 : (-s) * (J * q) ≤ (-s) * p := by grind
    have b2 : (-s) * p ≤ (-s) * ((J + 1) * q) := by grind
    have hs' : 0 < -s := by omega
    exact ⟨Int.le_of_mul_le_mul_left b1 hs', Int.le_of_mul_le_mul_left b2 hs'⟩
theorem within_path {g : Abs} {q : Int} (hq : 0 < q) : ∀ {r : List Nat} {j l : Nat} {p : Int}, Lk g j r l → (l : Int) * q ≤ endp g q p (j :: r) → endp g q p (j :: r) ≤ ((l : Int) + 1) * q → Within q (places g q p (j :: r)) (j :: r)
  | [], j, l, p, k, h1, h2 => ⟨pull hq k h1 h2, trivial⟩
  | m :: r, j, l, p, k, h1, h2 => by
    have ih := within_path (r := r) (j := m) (l := l) (p := lin g q p j) hq k.2.2 h1 h2
    exact ⟨pull hq k.1 ih.1.1 ih.1.2, ih⟩
theorem ways_of_within {g : Abs} {q : Nat} (hq : 0 < q) : ∀ {w : List Nat} {p : Int}, (∀ j ∈ w, j < g.n) → Within q (places g q p w) w →
    g.way (red p q) w.length = (places g q p w).map (fun z => red z q) ∧ g.after (red p q) w.length = red (endp g q p w) q ∧ g.goes (red p q) w = true
  | [], p, _, _ => ⟨rfl, rfl, rfl⟩
  | j :: w, p, hn, hw => by
    have hj := hn j List.mem_cons_self
    have e := put_red hq hj hw.1.1 hw.1.2
    obtain ⟨i1, i2, i3⟩ := ways_of_within (w := w) (p := lin g q p j) hq (fun x hx => hn x (List.mem_cons_of_mem _ hx)) hw.2
    refine ⟨?_, ?_, ?_⟩
    · show red p q :: g.way (g.put (red p q)) w.length = red p q :: (places g q (lin g q p j) w).map _
      rw [e, i1]
    · show g.after (g.put (red p q)) w.length = red (endp g q (lin g q p j) w) q
      rw [e, i2]
    · show (Su183.le (Su183.ofNat j) (red p q) && (Su183.le (red p q) (Su183.ofNat (j + 1)) && g.goes (g.put (red p q)) w)) = true
      rw [e, i3]
      have l1 : Su183.le (Su183.ofNat j) (red p q) = true := by
        have : Su183.ofNat j = red ((j : Int) * q) q := by
          rw [← red_ofNat]
          exact red_eq_of (by decide) hq (by simp)
        unfold Su183.le
        rw [this, lt_red hq]
        simp
        exact hw.1.1
      have l2 : Su183.le (red p q) (Su183.ofNat (j + 1)) = true := by
        have : Su183.ofNat (j + 1) = red (((j : Int) + 1) * q) q := by
          rw [← red_ofNat]
          exact red_eq_of (by decide) hq (by simp)
        unfold Su183.le
        rw [this, lt_red hq]
        simp
        exact hw.1.2
      rw [l1, l2]; rfl

/-! ## The place that a loop gives -/
/-- the place that comes back, as (a number, over another one) -/
def placeOf (g : Abs) (w : List Nat) : Int × Int :=
  if (g.along w).1 = 1 then (3 * (w.headD 0 : Int) + 1, 3) else if 1 < (g.along w).1 then (-(g.along w).2, (g.along w).1 - 1) else ((g.along w).2, 1 - (g.along w).1)
structure Comes (g : Abs) (i : Nat) (r : List Nat) (p : Int) (q : Nat) : Prop where
  pos : 0 < q
  back : endp g q p (i :: r) = p
  within : Within q (places g q p (i :: r)) (i :: r)
theorem place_comes {g : Abs} {i : Nat} {r : List Nat} (k : Lk g i r i) : 0 < (placeOf g (i :: r)).2 ∧ Comes g i r (placeOf g (i :: r)).1 (placeOf g (i :: r)).2.toNat ∧ ((g.along (i :: r)).1 = 1 → (g.along (i :: r)).2 = 0) := by
  have hc := cov_loop k
  have key : ∀ (p : Int) (q : Nat), 0 < q → endp g q p (i :: r) = p → (i : Int) * q ≤ p → p ≤ ((i : Int) + 1) * q → Comes g i r p q := fun p q hq hb h1 h2 =>
    ⟨hq, hb, within_path (by omega) k (by rw [hb]; exact h1) (by rw [hb]; exact h2)⟩
  have ea := fun q p => endp_along g q p (i :: r)
  unfold placeOf
  generalize hS : (g.along (i :: r)).1 = S at *
  generalize hL : (g.along (i :: r)).2 = L at *
  by_cases c1 : S = 1
  · subst c1
    have hl : L = 0 := by
      rcases hc with ⟨_, h1, h2⟩ | ⟨h0, _, _⟩ <;> omega
    rw [if_pos rfl]
    refine ⟨by show (0 : Int) < 3; decide, key _ 3 (by decide) ?_ ?_ ?_, fun _ => hl⟩
    · rw [ea, hl]; show 1 * _ + 0 * _ = _; omega
    · show (i : Int) * 3 ≤ 3 * (i : Int) + 1; omega
    · show 3 * (i : Int) + 1 ≤ ((i : Int) + 1) * 3; omega
  · rw [if_neg c1]
    by_cases c2 : 1 < S
    · rw [if_pos c2]
      rcases hc with ⟨_, h1, h2⟩ | ⟨h0, _, _⟩
      · have e : ((S - 1).toNat : Int) = S - 1 := by omega
        refine ⟨by show 0 < S - 1; omega, key _ _ (by show 0 < (S - 1).toNat; omega) ?_ ?_ ?_, fun z => absurd z c1⟩
        · show endp g (((S - 1).toNat : Nat) : Int) (-L) _ = -L
          rw [e, ea]; grind
        · show (i : Int) * (((S - 1).toNat : Nat) : Int) ≤ -L
          rw [e]; grind
        · show -L ≤ ((i : Int) + 1) * (((S - 1).toNat : Nat) : Int)
          rw [e]; grind
      · omega
    · rw [if_neg c2]
      rcases hc with ⟨h0, _, _⟩ | ⟨_, h1, h2⟩
      · omega
      · have e : ((1 - S).toNat : Int) = 1 - S := by omega
        refine ⟨by show 0 < 1 - S; omega, key _ _ (by show 0 < (1 - S).toNat; omega) ?_ ?_ ?_, fun z => absurd z c1⟩
        · show endp g (((1 - S).toNat : Nat) : Int) L _ = L
          rw [e, ea]; grind
        · show (i : Int) * (((1 - S).toNat : Nat) : Int) ≤ L
          rw [e]; grind
        · show L ≤ ((i : Int) + 1) * (((1 - S).toNat : Nat) : Int)
          rw [e]; grind
theorem lk_lt {g : Abs} : ∀ {r : List Nat} {j l : Nat}, Lk g j r l → ∀ x ∈ r, x < g.n
  | [], _, _, _, x, hx => nomatch hx
  | m :: r, j, l, k, x, hx => by
    rcases List.mem_cons.mp hx with rfl | hx
    · exact k.2.1
    · exact lk_lt k.2.2 x hx
/-- the specification's places of a loop: this one -/
theorem given_eq {g : Abs} {i : Nat} {r : List Nat} (hi : i < g.n) (k : Lk g i r i) : g.given (i :: r) = [red (placeOf g (i :: r)).1 (placeOf g (i :: r)).2.toNat] := by
  obtain ⟨h0, hC, h1⟩ := place_comes k
  have hlt : ∀ j ∈ i :: r, j < g.n := fun j hj => (List.mem_cons.mp hj).elim (fun e => e ▸ hi) (lk_lt k j)
  have hg := (ways_of_within hC.pos hlt hC.within).2.2
  have hc := cov_loop k
  unfold Abs.given
  unfold placeOf at hg ⊢
  dsimp only at hg ⊢
  generalize (g.along (i :: r)).1 = S at *
  generalize (g.along (i :: r)).2 = L at *
  by_cases c1 : S = 1
  · simp only [if_pos c1, if_pos (h1 c1)]
    show [red (3 * (i : Int) + 1) 3] = [red (3 * (i : Int) + 1) (3 : Int).toNat]
    rfl
  · simp only [if_neg c1] at hg ⊢
    by_cases c2 : 1 < S
    · have c3 : ¬ S < 1 := by omega
      simp only [if_pos c2, if_neg c3] at hg ⊢
      rw [if_pos hg]
    · have c3 : S < 1 := by omega
      simp only [if_neg c2, if_pos c3] at hg ⊢
      rw [if_pos hg]
end Rt

namespace Rt
open Su183 (Frac red Abs)

/-! ## Rotations, ranks -/
def rot {α : Type} (m : Nat) (l : List α) : List α := l.drop m ++ l.take m
theorem rot_perm {α : Type} (m : Nat) (l : List α) : (rot m l).Perm l := by
  unfold rot
  exact List.perm_append_comm.trans (by rw [List.take_append_drop])
theorem rot_map {α β : Type} (f : α → β) (m : Nat) (l : List α) : (rot m l).map f = rot m (l.map f) := by
  unfold rot
  rw [List.map_append, List.map_drop, List.map_take]
theorem rot_length {α : Type} (m : Nat) (l : List α) : (rot m l).length = l.length := (rot_perm m l).length_eq
theorem mem_rot {α : Type} {m : Nat} {l : List α} {x : α} : x ∈ rot m l ↔ x ∈ l := (rot_perm m l).mem_iff
theorem nodup_rot {α : Type} {m : Nat} {l : List α} : (rot m l).Nodup ↔ l.Nodup := (rot_perm m l).nodup_iff
/-- begun anew with x, at its first place -/
def begunAt (l : List Nat) (x : Nat) : List Nat := rot (l.idxOf x) l
theorem begunAt_mid {a b : List Nat} {x : Nat} (h : x ∉ a) : begunAt (a ++ x :: b) x = x :: b ++ a := by
  have e : (a ++ x :: b).idxOf x = a.length := by
    rw [List.idxOf_append, if_neg h]
    simp
  unfold begunAt rot
  rw [e, List.drop_left, List.take_left]
theorem begunAt_rot {l : List Nat} {x m : Nat} (hx : x ∈ l) (hn : l.Nodup) (hm : m ≤ l.length) : begunAt (rot m l) x = begunAt l x := by
  obtain ⟨a, b, rfl⟩ := List.append_of_mem hx
  have hn' : (a ++ x :: b).Nodup := hn
  rw [List.nodup_append] at hn'
  obtain ⟨na, nb, nab⟩ := hn'
  rw [List.nodup_cons] at nb
  have xa : x ∉ a := fun z => nab x z x List.mem_cons_self rfl
  rw [begunAt_mid xa]
  by_cases c : m ≤ a.length
  · have e : rot m (a ++ x :: b) = a.drop m ++ x :: (b ++ a.take m) := by
      unfold rot
      rw [List.drop_append_of_le_length c, List.take_append_of_le_length c]
      simp
    rw [e, begunAt_mid (fun z => xa (List.mem_of_mem_drop z))]
    show x :: ((b ++ a.take m) ++ a.drop m) = x :: (b ++ a)
    rw [List.append_assoc, List.take_append_drop]
  · obtain ⟨t, rfl⟩ : ∃ t, m = a.length + (t + 1) := ⟨m - a.length - 1, by omega⟩
    have e : rot (a.length + (t + 1)) (a ++ x :: b) = (b.drop t ++ a) ++ x :: b.take t := by
      unfold rot
      rw [List.drop_append, List.take_append]
      simp [List.drop_eq_nil_of_le, List.take_of_length_le]
    rw [e, begunAt_mid (fun z => (List.mem_append.mp z).elim (fun z => nb.1 (List.mem_of_mem_drop z)) xa)]
    show x :: (b.take t ++ (b.drop t ++ a)) = x :: (b ++ a)
    rw [← List.append_assoc, List.take_append_drop]
def rank (ps : List Int) (p : Int) : Nat := (ps.filter fun z => decide (z < p)).length
theorem rank_perm {ps qs : List Int} (h : ps.Perm qs) (p : Int) : rank ps p = rank qs p := (h.filter _).length_eq
theorem rank_lt {ps : List Int} {a b : Int} (ha : a ∈ ps) (h : a < b) : rank ps a < rank ps b := by
  unfold rank
  induction ps with
  | nil => cases ha
  | cons c ps ih =>
    have mono : ∀ l : List Int, (l.filter fun z => decide (z < a)).length ≤ (l.filter fun z => decide (z < b)).length := by
      intro l
      induction l with
      | nil => exact Nat.le_refl _
      | cons d l il =>
        rw [List.filter_cons, List.filter_cons]
        split <;> split
        · simpa using il
        · rename_i h1 h2; simp at h1 h2; omega
        · simp; omega
        · exact il
    rcases List.mem_cons.mp ha with rfl | ha
    · rw [List.filter_cons, List.filter_cons, if_neg (by simp), if_pos (by simpa using h)]
      have := mono ps
      simp; omega
    · have := ih ha
      rw [List.filter_cons, List.filter_cons]
      split <;> split
      · simpa using this
      · rename_i h1 h2; simp at h1 h2; omega
      · simp; omega
      · exact this
theorem rank_inj {ps : List Int} {a b : Int} (ha : a ∈ ps) (hb : b ∈ ps) (h : rank ps a = rank ps b) : a = b := by
  rcases Int.lt_trichotomy a b with c | c | c
  · have := rank_lt ha c; omega
  · exact c
  · have := rank_lt hb c; omega
theorem ranks_nodup {ps : List Int} (h : ps.Nodup) : (ps.map (rank ps)).Nodup := by
  unfold List.Nodup at *
  rw [List.pairwise_map]
  exact List.Pairwise.imp_of_mem (fun ha hb hne e => hne (rank_inj ha hb e)) h
/-- the least of some -/
def minOf (ps : List Int) : Int := ps.foldl (fun m x => if x < m then x else m) (ps.headD 0)
theorem foldl_min (ps : List Int) : ∀ m : Int, (ps.foldl (fun m x => if x < m then x else m) m ∈ m :: ps) ∧ ∀ x ∈ m :: ps, ps.foldl (fun m x => if x < m then x else m) m ≤ x := by
  induction ps with
  | nil => intro m; exact ⟨List.mem_cons_self, fun x hx => by rw [List.mem_singleton] at hx; subst hx; exact Int.le_refl _⟩
  | cons a ps ih =>
    intro m
    rw [List.foldl_cons]
    obtain ⟨h1, h2⟩ := ih (if a < m then a else m)
    have h3 := h2 _ List.mem_cons_self
    refine ⟨?_, fun x hx => ?_⟩
    · rcases List.mem_cons.mp h1 with e | e
      · rw [e]
        by_cases c : a < m
        · rw [if_pos c]; simp
        · rw [if_neg c]; simp
      · exact List.mem_cons_of_mem _ (List.mem_cons_of_mem _ e)
    · have hm : (if a < m then a else m) ≤ m ∧ (if a < m then a else m) ≤ a := by split <;> omega
      rcases List.mem_cons.mp hx with rfl | hx
      · exact Int.le_trans h3 hm.1
      · rcases List.mem_cons.mp hx with rfl | hx
        · exact Int.le_trans h3 hm.2
        · exact h2 x (List.mem_cons_of_mem _ hx)
theorem minOf_mem {ps : List Int} (h : ps ≠ []) : minOf ps ∈ ps := by
  cases ps with
  | nil => exact absurd rfl h
  | cons a ps =>
    have := (foldl_min (a :: ps) a).1
    rcases List.mem_cons.mp this with e | e
    · show minOf (a :: ps) ∈ _
      unfold minOf
      show (a :: ps).foldl _ a ∈ _
      rw [e]; exact List.mem_cons_self
    · exact e
theorem minOf_le {ps : List Int} {x : Int} (h : x ∈ ps) : minOf ps ≤ x := (foldl_min ps _).2 x (List.mem_cons_of_mem _ h)
theorem rank_min {ps : List Int} : rank ps (minOf ps) = 0 := by
  unfold rank
  rw [List.length_eq_zero_iff, List.filter_eq_nil_iff]
  intro a ha
  have := minOf_le ha
  simpa using this
theorem zero_mem_ranks {ps : List Int} (h : ps ≠ []) : 0 ∈ ps.map (rank ps) := List.mem_map.mpr ⟨_, minOf_mem h, rank_min⟩
/-- the kind of a round's places, as they come -/
def typeOf (ps : List Int) : List Nat := begunAt (ps.map (rank ps)) 0
theorem typeOf_rot {ps : List Int} {m : Nat} (h : ps.Nodup) (hm : m ≤ ps.length) : typeOf (rot m ps) = typeOf ps := by
  cases hps : ps with
  | nil => simp [rot]
  | cons a t =>
    rw [← hps]
    unfold typeOf
    have e : rank (rot m ps) = rank ps := by
      funext p
      exact rank_perm (rot_perm m ps) p
    rw [e, rot_map]
    exact begunAt_rot (zero_mem_ranks (by rw [hps]; simp)) (ranks_nodup h) (by simpa using hm)

/-! ## Put again and again -/
theorem after_add (g : Abs) : ∀ (a b : Nat) (x : Frac), g.after x (a + b) = g.after (g.after x a) b
  | 0, b, x => by rw [Nat.zero_add]; rfl
  | a + 1, b, x => by
    rw [Nat.succ_add]
    exact after_add g a b (g.put x)
theorem way_add (g : Abs) : ∀ (a b : Nat) (x : Frac), g.way x (a + b) = g.way x a ++ g.way (g.after x a) b
  | 0, b, x => by rw [Nat.zero_add]; rfl
  | a + 1, b, x => by
    rw [Nat.succ_add]
    show x :: g.way (g.put x) (a + b) = x :: (g.way (g.put x) a ++ g.way (g.after (g.put x) a) b)
    rw [way_add g a b (g.put x)]
theorem way_length (g : Abs) : ∀ (k : Nat) (x : Frac), (g.way x k).length = k
  | 0, _ => rfl
  | k + 1, x => by show (g.way (g.put x) k).length + 1 = k + 1; rw [way_length g k]
theorem way_get (g : Abs) {k j : Nat} {x : Frac} (h : j < k) : (g.way x k)[j]? = some (g.after x j) := by
  obtain ⟨b, rfl⟩ : ∃ b, k = j + (b + 1) := ⟨k - j - 1, by omega⟩
  rw [way_add, List.getElem?_append_right (by rw [way_length]; exact Nat.le_refl _), way_length, Nat.sub_self]
  rfl
theorem way_rot (g : Abs) {k m : Nat} {x : Frac} (hm : m ≤ k) (hk : g.after x k = x) : g.way (g.after x m) k = rot m (g.way x k) := by
  obtain ⟨b, rfl⟩ : ∃ b, k = m + b := ⟨k - m, by omega⟩
  unfold rot
  rw [way_add g m b x]
  have l := way_length g m x
  rw [List.drop_append_of_le_length (by omega), List.take_append_of_le_length (by omega), List.drop_of_length_le (by omega), List.take_of_length_le (by omega)]
  rw [Nat.add_comm m b, way_add g b m, ← after_add, hk]
  rfl
theorem back_iff {g : Abs} {x : Frac} {k : Nat} : g.back x k = true ↔ 0 < k ∧ g.after x k = x ∧ (g.way x k).Nodup := by
  unfold Abs.back
  rw [Bool.and_eq_true, Bool.and_eq_true, decide_eq_true_iff, beq_iff_eq, List.all_eq_true]
  constructor
  · rintro ⟨h0, hk, h⟩
    refine ⟨h0, hk, ?_⟩
    unfold List.Nodup
    rw [List.pairwise_iff_getElem]
    intro a b ha hb hab e
    rw [way_length] at ha hb
    have ea := way_get g (x := x) ha
    have eb := way_get g (x := x) hb
    rw [List.getElem?_eq_getElem (by rw [way_length]; exact ha)] at ea
    rw [List.getElem?_eq_getElem (by rw [way_length]; exact hb)] at eb
    have e' : g.after x a = g.after x b := by
      rw [← Option.some.inj ea, ← Option.some.inj eb]; exact e
    have e2 : g.after x (a + (k - b)) = x := by
      rw [after_add, e', ← after_add, show b + (k - b) = k by omega, hk]
    have z := h (a + (k - b)) (List.mem_range.mpr (by omega))
    rw [Bool.or_eq_true, beq_iff_eq, bne_iff_ne] at z
    rcases z with z | z
    · omega
    · exact z e2
  · rintro ⟨h0, hk, hn⟩
    refine ⟨h0, hk, fun j hj => ?_⟩
    rw [List.mem_range] at hj
    rw [Bool.or_eq_true, beq_iff_eq, bne_iff_ne]
    by_cases c : j = 0
    · exact .inl c
    · refine .inr fun e => ?_
      unfold List.Nodup at hn
      rw [List.pairwise_iff_getElem] at hn
      refine hn 0 j (by rw [way_length]; exact h0) (by rw [way_length]; exact hj) (by omega) ?_
      have ea := way_get g (x := x) h0
      have eb := way_get g (x := x) hj
      rw [List.getElem?_eq_getElem (by rw [way_length]; exact h0)] at ea
      rw [List.getElem?_eq_getElem (by rw [way_length]; exact hj)] at eb
      rw [Option.some.inj ea, Option.some.inj eb, e]
      rfl

theorem nodup_of_map {α β : Type} {f : α → β} {l : List α} (h : (l.map f).Nodup) : l.Nodup := by
  unfold List.Nodup at *
  rw [List.pairwise_map] at h
  exact h.imp fun {a b} hne e => hne (by rw [e])
theorem nodup_map_red {q : Nat} (hq : 0 < q) {ps : List Int} : (ps.map fun p => red p q).Nodup ↔ ps.Nodup := by
  refine ⟨nodup_of_map, fun h => ?_⟩
  unfold List.Nodup at *
  rw [List.pairwise_map]
  exact h.imp fun {a b} hne e => hne ((red_inj hq).mp e)
theorem leastOf_red {q : Nat} (hq : 0 < q) {ps : List Int} (h : ps ≠ []) : Su183.leastOf (ps.map fun p => red p q) = red (minOf ps) q := by
  have key : ∀ (l : List Int) (m : Int), (l.map fun p => red p q).foldl (fun m x => if Su183.lt x m = true then x else m) (red m q) = red (l.foldl (fun m x => if x < m then x else m) m) q := by
    intro l
    induction l with
    | nil => intro m; rfl
    | cons a l ih =>
      intro m
      rw [List.map_cons, List.foldl_cons, List.foldl_cons, lt_red hq]
      by_cases c : a < m
      · rw [if_pos c, if_pos (decide_eq_true c), ih]
      · rw [if_neg c, if_neg (by simpa using c), ih]
  cases ps with
  | nil => exact absurd rfl h
  | cons a t =>
    unfold Su183.leastOf minOf
    show ((a :: t).map fun p => red p q).foldl _ (red a q) = red ((a :: t).foldl _ a) q
    exact key _ _
theorem type_red {g : Abs} {q k : Nat} {x : Frac} (hq : 0 < q) {ps : List Int} (h : g.way x k = ps.map fun p => red p q) : g.type x k = ps.map (rank ps) := by
  unfold Abs.type
  rw [h, List.map_map]
  refine List.map_congr_left fun p _ => ?_
  show (((ps.map fun p => red p q).filter fun z => Su183.lt z (red p q))).length = rank ps p
  rw [List.filter_map, List.length_map]
  unfold rank
  congr 2
  funext z
  exact lt_red hq
/-- a round's type is the kind of its places -/
theorem type_round {g : Abs} {q k : Nat} {x : Frac} (hq : 0 < q) {ps : List Int} (h : g.way x k = ps.map fun p => red p q) (hb : g.back x k = true) : g.type (Su183.leastOf (g.way x k)) k = typeOf ps := by
  obtain ⟨h0, hk, hn⟩ := back_iff.mp hb
  have hl : ps.length = k := by
    have := congrArg List.length h
    rw [way_length, List.length_map] at this
    exact this.symm
  have hne : ps ≠ [] := by
    intro e; rw [e] at hl; simp at hl; omega
  have hps : ps.Nodup := by
    rw [h] at hn
    exact nodup_of_map hn
  obtain ⟨m, hm, em⟩ := List.getElem_of_mem (minOf_mem hne)
  have hmk : m < k := by omega
  have ey : Su183.leastOf (g.way x k) = g.after x m := by
    rw [h, leastOf_red hq hne]
    have e1 := way_get g (x := x) hmk
    rw [h, List.getElem?_map, List.getElem?_eq_getElem hm, em] at e1
    exact Option.some.inj e1
  have hw : g.way (g.after x m) k = (rot m ps).map fun p => red p q := by
    rw [way_rot g (by omega) hk, h, rot_map]
  rw [ey, type_red hq hw]
  have e : rank (rot m ps) = rank ps := by
    funext p
    exact rank_perm (rot_perm m ps) p
  rw [e, rot_map]
  unfold typeOf begunAt
  have ei : (ps.map (rank ps)).idxOf 0 = m := by
    have hm' : m < (ps.map (rank ps)).length := by simpa using hm
    have e0 : (ps.map (rank ps))[m] = 0 := by
      rw [List.getElem_map, em, rank_min]
    rw [← e0]
    exact List.Nodup.idxOf_getElem (ranks_nodup hps) m hm'
  rw [ei]
end Rt

namespace Rt
open Su183 (Frac red Abs)

/-! ## A kind and its line -/
abbrev nts (t : List Nat) : List Int := t.map fun v : Nat => (v : Int)

structure IsT (t : List Nat) : Prop where
  pos : 0 < t.length
  hd : t.headD 1 = 0
  nodup : t.Nodup
  lt : ∀ r ∈ t, r < t.length
theorem isT_iff {t : List Nat} : Su184.isType t = true ↔ IsT t := by
  unfold Su184.isType
  simp only [Bool.and_eq_true, decide_eq_true_iff, beq_iff_eq, List.all_eq_true]
  exact ⟨fun ⟨a, b, c, d⟩ => ⟨a, b, c, d⟩, fun ⟨a, b, c, d⟩ => ⟨a, b, c, d⟩⟩
theorem IsT.cons {t : List Nat} (h : IsT t) : ∃ r, t = 0 :: r := by
  cases t with
  | nil => exact absurd h.pos (Nat.lt_irrefl 0)
  | cons a r =>
    have := h.hd
    exact ⟨r, by simp at this; rw [this]⟩
theorem perm_range_of {t : List Nat} (hn : t.Nodup) (hl : ∀ r ∈ t, r < t.length) : t.Perm (List.range t.length) := by
  have sub : t ⊆ List.range t.length := fun r hr => List.mem_range.mpr (hl r hr)
  refine (List.perm_ext_iff_of_nodup hn List.nodup_range).mpr fun a => ⟨fun h => sub h, fun h => ?_⟩
  by_cases c : a ∈ t
  · exact c
  · exfalso
    have hn' : (a :: t).Nodup := List.nodup_cons.mpr ⟨c, hn⟩
    have hs : a :: t ⊆ List.range t.length := fun x hx => (List.mem_cons.mp hx).elim (fun e => e ▸ h) fun h => sub h
    have := List.Nodup.length_le_of_subset hn' hs
    simp at this
    omega
theorem IsT.perm {t : List Nat} (h : IsT t) : t.Perm (List.range t.length) := perm_range_of h.nodup h.lt
theorem IsT.mem {t : List Nat} (h : IsT t) {r : Nat} (hr : r < t.length) : r ∈ t := h.perm.mem_iff.mpr (List.mem_range.mpr hr)
/-- where the number r stands -/
theorem find_at {t : List Nat} (hn : t.Nodup) {a : Nat} (ha : a < t.length) : (List.range t.length).find? (fun i => t.getD i 0 == t[a]) = some a := by
  rw [List.find?_range_eq_some]
  refine ⟨?_, List.mem_range.mpr ha, fun j hj => ?_⟩
  · rw [beq_iff_eq, List.getD_eq_getElem?_getD, List.getElem?_eq_getElem ha]; rfl
  · have hj' : j < t.length := by omega
    rw [Bool.not_eq_true', beq_eq_false_iff_ne, List.getD_eq_getElem?_getD, List.getElem?_eq_getElem hj']
    show t[j] ≠ t[a]
    exact (List.pairwise_iff_getElem.mp hn) j a hj' ha hj
theorem putOf_length (t : List Nat) : (Su184.putOf t).length = t.length := by
  unfold Su184.putOf; simp
/-- the number behind the a-th -/
theorem putOf_at {t : List Nat} (h : IsT t) {a : Nat} (ha : a < t.length) : (Su184.putOf t).getD t[a] 0 = t.getD ((a + 1) % t.length) 0 := by
  have hr : t[a] < t.length := h.lt _ (List.getElem_mem ha)
  unfold Su184.putOf
  rw [List.getD_eq_getElem?_getD, List.getElem?_map, List.getElem?_range hr]
  show t.getD (((List.range t.length).find? fun i => t.getD i 0 == t[a]).getD 0 + 1) (t.headD 0) = _
  rw [find_at h.nodup ha]
  show t.getD (a + 1) (t.headD 0) = _
  by_cases c : a + 1 < t.length
  · rw [Nat.mod_eq_of_lt c, List.getD_eq_getElem?_getD, List.getD_eq_getElem?_getD, List.getElem?_eq_getElem c]; rfl
  · have e : a + 1 = t.length := by omega
    rw [e, Nat.mod_self, List.getD_eq_getElem?_getD, List.getElem?_eq_none (Nat.le_refl _)]
    obtain ⟨r, rfl⟩ := h.cons
    rfl
theorem point_at {t : List Nat} (h : IsT t) {a : Nat} (ha : a < t.length) : (Su184.lineOf t).point t[a] = t.getD ((a + 1) % t.length) 0 := putOf_at h ha
theorem line_n (t : List Nat) : (Su184.lineOf t).n = t.length - 1 := rfl

/-- a number, put -/
theorem put_nat {g : Abs} {c : Nat} (hn : 0 < g.n) (hc : c ≤ g.n) : g.put (Su183.ofNat c) = Su183.ofNat (g.point c) := by
  rw [← red_ofNat, ← red_ofNat]
  by_cases h : c < g.n
  · rw [put_red (j := c) (by decide) h (by simp) (by simp; omega)]
    congr 1
    unfold lin lift
    simp
    omega
  · have e : c = g.n := by omega
    obtain ⟨j, hj⟩ : ∃ j, g.n = j + 1 := ⟨g.n - 1, by omega⟩
    rw [e, hj, put_red (j := j) (by decide) (by omega) (by simp; omega) (by simp)]
    congr 1
    unfold lin lift
    rw [slope_def]
    push_cast
    grind
theorem getD_mod_lt {t : List Nat} (h : IsT t) (a : Nat) : t.getD (a % t.length) 0 < t.length := by
  have hm : a % t.length < t.length := Nat.mod_lt _ h.pos
  rw [List.getD_eq_getElem?_getD, List.getElem?_eq_getElem hm]
  exact h.lt _ (List.getElem_mem hm)
theorem after_nat {t : List Nat} (h : IsT t) (h2 : 1 < t.length) : ∀ (k a : Nat), (Su184.lineOf t).after (Su183.ofNat (t.getD (a % t.length) 0)) k = Su183.ofNat (t.getD ((a + k) % t.length) 0)
  | 0, a => rfl
  | k + 1, a => by
    have hm : a % t.length < t.length := Nat.mod_lt _ h.pos
    have e0 : t.getD (a % t.length) 0 = t[a % t.length] := by
      rw [List.getD_eq_getElem?_getD, List.getElem?_eq_getElem hm]; rfl
    show (Su184.lineOf t).after ((Su184.lineOf t).put (Su183.ofNat (t.getD (a % t.length) 0))) k = _
    rw [put_nat (by rw [line_n]; omega) (by have := getD_mod_lt h a; rw [line_n]; omega), e0, point_at h hm]
    have e1 : (a % t.length + 1) % t.length = (a + 1) % t.length := by rw [Nat.mod_add_mod]
    rw [e1, after_nat h h2 k (a + 1)]
    congr 3
    omega
theorem ofNat_inj {a b : Nat} (h : Su183.ofNat a = Su183.ofNat b) : a = b := by
  unfold Su183.ofNat at h
  have := congrArg Prod.fst h
  exact Int.ofNat_inj.mp this
theorem getD_inj {t : List Nat} (h : t.Nodup) {a b : Nat} (ha : a < t.length) (hb : b < t.length) (e : t.getD a 0 = t.getD b 0) : a = b := by
  rw [List.getD_eq_getElem?_getD, List.getD_eq_getElem?_getD, List.getElem?_eq_getElem ha, List.getElem?_eq_getElem hb] at e
  exact (List.getElem?_inj ha h).mp (by rw [List.getElem?_eq_getElem ha, List.getElem?_eq_getElem hb]; exact congrArg some e)
theorem way_nat {t : List Nat} (h : IsT t) (h2 : 1 < t.length) {a : Nat} (ha : a < t.length) : (Su184.lineOf t).way (Su183.ofNat t[a]) t.length = (rot a (nts t)).map fun z => red z 1 := by
  have e0 : Su183.ofNat t[a] = Su183.ofNat (t.getD (a % t.length) 0) := by
    rw [Nat.mod_eq_of_lt ha, List.getD_eq_getElem?_getD, List.getElem?_eq_getElem ha]; rfl
  refine List.ext_getElem? fun i => ?_
  by_cases hi : i < t.length
  · rw [way_get _ hi, e0, after_nat h h2, List.getElem?_map]
    unfold rot
    by_cases c : i < t.length - a
    · rw [List.getElem?_append_left (by simpa using c), List.getElem?_drop, List.getElem?_map, Nat.mod_eq_of_lt (by omega), List.getElem?_eq_getElem (by omega)]
      simp only [Option.map_some, Option.some.injEq]
      rw [red_ofNat, List.getD_eq_getElem?_getD, List.getElem?_eq_getElem (by omega)]; rfl
    · rw [List.getElem?_append_right (by simpa using c)]
      simp only [List.length_drop, List.length_map]
      have e1 : (a + i) % t.length = i - (t.length - a) := by
        rw [show a + i = (i - (t.length - a)) + t.length by omega, Nat.add_mod_right, Nat.mod_eq_of_lt (by omega)]
      rw [List.getElem?_take, if_pos (by omega), List.getElem?_map, e1, List.getElem?_eq_getElem (by omega)]
      simp only [Option.map_some, Option.some.injEq]
      rw [red_ofNat, List.getD_eq_getElem?_getD, List.getElem?_eq_getElem (by omega)]; rfl
  · rw [List.getElem?_eq_none (by rw [way_length]; omega), List.getElem?_eq_none (by rw [List.length_map, rot_length, List.length_map]; omega)]
theorem rank_self {t : List Nat} (h : IsT t) {v : Nat} (hv : v < t.length) : rank (nts t) (v : Int) = v := by
  have e := rank_perm (h.perm.map fun v : Nat => (v : Int)) (v : Int)
  rw [e]
  unfold rank
  rw [List.filter_map, List.length_map]
  have : ∀ n, v ≤ n → ((List.range n).filter ((fun z : Int => decide (z < (v : Int))) ∘ fun v : Nat => (v : Int))).length = v := by
    intro n
    induction n with
    | zero => intro h; simp at h; subst h; rfl
    | succ n ih =>
      intro hn
      rw [List.range_succ, List.filter_append, List.length_append]
      by_cases c : v ≤ n
      · rw [ih c, List.filter_cons, if_neg (by simpa using c)]; simp
      · have e : v = n + 1 := by omega
        subst e
        rw [List.filter_eq_self.mpr, List.filter_eq_self.mpr]
        · simp
        · intro a ha; simp at ha; subst ha; simp; omega
        · intro a ha; rw [List.mem_range] at ha; simp; omega
  exact this _ (by omega)
theorem typeOf_self {t : List Nat} (h : IsT t) : typeOf (nts t) = t := by
  unfold typeOf
  have e : (nts t).map (rank (nts t)) = t := by
    rw [List.map_map]
    refine (List.map_congr_left fun v hv => ?_).trans (List.map_id t)
    exact rank_self h (h.lt v hv)
  rw [e]
  obtain ⟨r, rfl⟩ := h.cons
  exact (begunAt_mid (a := []) (x := 0) (b := r) (by simp)).trans (by simp)
theorem nodup_cast {t : List Nat} (h : t.Nodup) : (nts t).Nodup := by
  unfold List.Nodup at *
  rw [List.pairwise_map]
  exact h.imp fun {a b} hne e => hne (Int.ofNat_inj.mp e)
/-- a number of the line comes back in as many steps as the kind has, and brings the kind itself -/
theorem nat_back {t : List Nat} (h : IsT t) (h2 : 1 < t.length) {c k : Nat} (hc : c < t.length) :
    ((Su184.lineOf t).back (Su183.ofNat c) k = true ↔ k = t.length) ∧ (Su184.lineOf t).type (Su183.leastOf ((Su184.lineOf t).way (Su183.ofNat c) t.length)) t.length = t := by
  obtain ⟨a, ha, rfl⟩ := List.getElem_of_mem (h.mem hc)
  have e0 : Su183.ofNat t[a] = Su183.ofNat (t.getD (a % t.length) 0) := by
    rw [Nat.mod_eq_of_lt ha, List.getD_eq_getElem?_getD, List.getElem?_eq_getElem ha]; rfl
  have hb : (Su184.lineOf t).back (Su183.ofNat t[a]) t.length = true := by
    refine back_iff.mpr ⟨h.pos, ?_, ?_⟩
    · rw [e0, after_nat h h2, Nat.add_mod_right]
    · rw [way_nat h h2 ha]
      exact (nodup_map_red (by decide)).mpr (nodup_rot.mpr (nodup_cast h.nodup))
  refine ⟨⟨fun hk => ?_, fun e => e ▸ hb⟩, ?_⟩
  · obtain ⟨h0, hk1, hk2⟩ := back_iff.mp hk
    rw [e0, after_nat h h2] at hk1
    have e1 := getD_inj h.nodup (Nat.mod_lt _ h.pos) (Nat.mod_lt _ h.pos) (ofNat_inj hk1)
    have hle : k ≤ t.length := by
      refine Nat.not_lt.mp fun hlt => ?_
      have g0 := way_get (Su184.lineOf t) (x := Su183.ofNat t[a]) h0
      have g1 := way_get (Su184.lineOf t) (x := Su183.ofNat t[a]) hlt
      have e2 : (Su184.lineOf t).after (Su183.ofNat t[a]) t.length = Su183.ofNat t[a] := (back_iff.mp hb).2.1
      rw [e2] at g1
      have : 0 = t.length := (List.getElem?_inj (by rw [way_length]; exact h0) hk2).mp (g0.trans g1.symm)
      have := h.pos
      omega
    have : (a + k) % t.length = a % t.length := e1
    have h3 := Nat.mod_eq_of_lt ha
    rw [h3] at this
    by_cases c : k = t.length
    · exact c
    · exfalso
      by_cases c2 : a + k < t.length
      · rw [Nat.mod_eq_of_lt c2] at this; omega
      · rw [show a + k = (a + k - t.length) + t.length by omega, Nat.add_mod_right, Nat.mod_eq_of_lt (by omega)] at this
        omega
  · rw [type_round (q := 1) (by decide) (way_nat h h2 ha) hb, typeOf_rot (nodup_cast h.nodup) (by simp; omega), typeOf_self h]
end Rt

namespace Rt
open Su183 (Frac red Abs)

/-! ## A loop begun elsewhere -/
theorem lk_rot {g : Abs} {i j : Nat} {r u v : List Nat} (hi : i < g.n) (h : Lk g i r i) (e : i :: r = u ++ j :: v) : j < g.n ∧ Lk g j (v ++ u) j := by
  cases u with
  | nil =>
    have e' : i :: r = j :: v := e
    injection e' with e1 e2
    subst e1 e2
    rw [List.append_nil]
    exact ⟨hi, h⟩
  | cons a u =>
    have e' : i :: r = a :: (u ++ j :: v) := e
    injection e' with e1 e2
    subst e1 e2
    obtain ⟨h1, h2, h3⟩ := lk_app.mp h
    exact ⟨h2, lk_app.mpr ⟨h3, hi, h1⟩⟩
theorem places_rot {g : Abs} {q p : Int} {w u x : List Nat} (e : w = u ++ x) (hb : endp g q p w = p) :
    places g q (endp g q p u) (x ++ u) = rot u.length (places g q p w) ∧ endp g q (endp g q p u) x = p := by
  subst e
  rw [endp_append] at hb
  refine ⟨?_, hb⟩
  rw [places_append, places_append, hb]
  unfold rot
  have l := places_length g q u p
  rw [List.drop_append_of_le_length (by omega), List.take_append_of_le_length (by omega), List.drop_of_length_le (by omega), List.take_of_length_le (by omega)]
  rfl
/-- how steep all together -/
def sl (g : Abs) : List Nat → Int
  | [] => 1
  | j :: w => g.slope j * sl g w
theorem sl_app (g : Abs) : ∀ (u v : List Nat), sl g (u ++ v) = sl g u * sl g v
  | [], v => by show sl g v = 1 * sl g v; omega
  | j :: u, v => by
    show g.slope j * sl g (u ++ v) = g.slope j * sl g u * sl g v
    rw [sl_app g u v, Int.mul_assoc]
theorem step_sl (g : Abs) : ∀ (w : List Nat) (z : Int × Int), (w.foldl (step g) z).1 = sl g w * z.1
  | [], z => by show z.1 = 1 * z.1; omega
  | j :: w, z => by
    rw [List.foldl_cons, step_sl g w]
    show sl g w * (g.slope j * z.1) = g.slope j * sl g w * z.1
    grind
theorem along_sl (g : Abs) (w : List Nat) : (g.along w).1 = sl g w := by
  rw [along_eq, step_sl]
  show sl g w * 1 = _
  omega
theorem sl_units {g : Abs} : ∀ {w : List Nat}, (sl g w).natAbs = 1 → ∀ j ∈ w, g.slope j = 1 ∨ g.slope j = -1
  | [], _, j, hj => nomatch hj
  | a :: w, h, j, hj => by
    have h' : (g.slope a * sl g w).natAbs = 1 := h
    rw [Int.natAbs_mul] at h'
    have h1 := Nat.eq_one_of_mul_eq_one_right h'
    have h2 := Nat.eq_one_of_mul_eq_one_left h'
    rcases List.mem_cons.mp hj with rfl | hj
    · omega
    · exact sl_units h2 j hj
theorem dvd_lin {g : Abs} {q p : Int} {j : Nat} (h : q ∣ p) : q ∣ lin g q p j := by
  unfold lin
  exact Int.dvd_add (Int.dvd_mul_of_dvd_right h) (Int.dvd_mul_left _ _)
theorem dvd_endp {g : Abs} {q : Int} : ∀ {w : List Nat} {p : Int}, q ∣ p → q ∣ endp g q p w
  | [], _, h => h
  | j :: w, p, h => dvd_endp (w := w) (p := lin g q p j) (dvd_lin h)
/-- no place of a way that comes back to no whole number is one -/
theorem places_nonint {g : Abs} {q : Int} : ∀ {w : List Nat} {p : Int}, ¬ q ∣ endp g q p w → ∀ z ∈ places g q p w, ¬ q ∣ z
  | [], _, _, z, hz => nomatch hz
  | j :: w, p, h, z, hz => by
    rcases List.mem_cons.mp hz with rfl | hz
    · exact fun d => h (dvd_endp (w := j :: w) d)
    · exact places_nonint (w := w) (p := lin g q p j) h z hz
theorem exists_min : ∀ (w : List Nat), w ≠ [] → ∃ u j v, w = u ++ j :: v ∧ ∀ x ∈ w, j ≤ x
  | [], h => absurd rfl h
  | [a], _ => ⟨[], a, [], rfl, fun x hx => by rw [List.mem_singleton] at hx; omega⟩
  | a :: b :: w, _ => by
    obtain ⟨u, j, v, e, h⟩ := exists_min (b :: w) (by simp)
    by_cases c : a ≤ j
    · exact ⟨[], a, b :: w, rfl, fun x hx => (List.mem_cons.mp hx).elim (fun e => by omega) fun hx => Nat.le_trans c (h x hx)⟩
    · exact ⟨a :: u, j, v, by rw [e]; rfl, fun x hx => (List.mem_cons.mp hx).elim (fun e => by omega) fun hx => h x hx⟩
theorem within_get {q : Int} : ∀ {ps : List Int} {w : List Nat} {n : Nat} (hp : n < ps.length) (hw : n < w.length), Within q ps w → ((w[n] : Nat) : Int) * q ≤ ps[n] ∧ ps[n] ≤ (((w[n] : Nat) : Int) + 1) * q
  | [], _, n, hp, _, _ => absurd hp (Nat.not_lt_zero n)
  | _ :: _, [], n, _, hw, _ => absurd hw (Nat.not_lt_zero n)
  | p :: ps, j :: w, 0, _, _, h => h.1
  | p :: ps, j :: w, n + 1, hp, hw, h => within_get (ps := ps) (w := w) (n := n) (by simpa using hp) (by simpa using hw) h.2
theorem floor_within {q p : Int} {j : Nat} (hq : 0 < q) (h1 : (j : Int) * q ≤ p) (h2 : p ≤ ((j : Int) + 1) * q) (hn : ¬ q ∣ p) : p / q = (j : Int) := by
  have : p < ((j : Int) + 1) * q := by
    rcases Int.lt_or_eq_of_le h2 with h | h
    · exact h
    · exact absurd ⟨(j : Int) + 1, by rw [h, Int.mul_comm]⟩ hn
  exact Int.le_antisymm (Int.lt_add_one_iff.mp ((Int.ediv_lt_iff_lt_mul hq).mpr this)) ((Int.le_ediv_iff_mul_le hq).mpr h1)

/-! ## Ranks tell the order alone -/
theorem map_range_get (X : List Int) : X = (List.range X.length).map fun a => X.getD a 0 := by
  refine List.ext_getElem? fun i => ?_
  rw [List.getElem?_map]
  by_cases h : i < X.length
  · rw [List.getElem?_range h, List.getElem?_eq_getElem h]
    show some X[i] = some (X.getD i 0)
    rw [List.getD_eq_getElem?_getD, List.getElem?_eq_getElem h]; rfl
  · rw [List.getElem?_eq_none (by omega), List.getElem?_eq_none (by simpa using h)]; rfl
theorem rank_congr {X Y : List Int} (hl : X.length = Y.length) (h : ∀ a b, a < X.length → b < X.length → (X.getD a 0 < X.getD b 0 ↔ Y.getD a 0 < Y.getD b 0)) : X.map (rank X) = Y.map (rank Y) := by
  have key : ∀ (Z : List Int), Z.map (rank Z) = (List.range Z.length).map fun b => ((List.range Z.length).filter fun a => decide (Z.getD a 0 < Z.getD b 0)).length := by
    intro Z
    have e : Z.map (rank Z) = ((List.range Z.length).map fun a => Z.getD a 0).map (rank Z) := by rw [← map_range_get Z]
    rw [e, List.map_map]
    refine List.map_congr_left fun b hb => ?_
    show rank Z (Z.getD b 0) = _
    unfold rank
    have e2 : (Z.filter fun z => decide (z < Z.getD b 0)).length = (((List.range Z.length).map fun a => Z.getD a 0).filter fun z => decide (z < Z.getD b 0)).length := by rw [← map_range_get Z]
    rw [e2, List.filter_map, List.length_map]
    rfl
  rw [key X, key Y, ← hl]
  refine List.map_congr_left fun b hb => ?_
  congr 1
  refine List.filter_congr fun a ha => ?_
  rw [List.mem_range] at ha hb
  exact decide_eq_decide.mpr (h a b ha hb)
theorem typeOf_congr {X Y : List Int} (hl : X.length = Y.length) (h : ∀ a b, a < X.length → b < X.length → (X.getD a 0 < X.getD b 0 ↔ Y.getD a 0 < Y.getD b 0)) : typeOf X = typeOf Y := by
  unfold typeOf
  rw [rank_congr hl h]

/-! ## All steep 1 or -1: mirrored in each piece -/
def turn3 (g : Abs) (p : Int) : Int := lin g 3 p (p / 3).toNat
def runF (g : Abs) : Int → Nat → Int
  | p, 0 => p
  | p, n + 1 => runF g (turn3 g p) n
theorem runF_add (g : Abs) : ∀ (a b : Nat) (p : Int), runF g p (a + b) = runF g (runF g p a) b
  | 0, b, p => by rw [Nat.zero_add]; rfl
  | a + 1, b, p => by rw [Nat.succ_add]; exact runF_add g a b (turn3 g p)
def mir (p : Int) : Int := 6 * (p / 3) + 3 - p
structure Good (g : Abs) (p : Int) : Prop where
  pos : 0 ≤ p
  non : ¬ (3 : Int) ∣ p
  unit : g.slope (p / 3).toNat = 1 ∨ g.slope (p / 3).toNat = -1
theorem mir_turn {g : Abs} {p : Int} (h : Good g p) : turn3 g (mir p) = mir (turn3 g p) := by
  obtain ⟨h0, hn, hu⟩ := h
  have e1 : mir p / 3 = p / 3 := by unfold mir; omega
  unfold turn3
  rw [e1]
  unfold lin lift
  have ej : (((p / 3).toNat : Nat) : Int) = p / 3 := by omega
  generalize (g.point (p / 3).toNat : Int) = pj at *
  generalize g.slope (p / 3).toNat = s at *
  rw [ej]
  rcases hu with rfl | rfl
  · unfold mir; omega
  · unfold mir; omega
theorem places_run {g : Abs} : ∀ {w : List Nat} {p : Int}, Within 3 (places g 3 p w) w → (∀ z ∈ places g 3 p w, ¬ (3 : Int) ∣ z) → (∀ n, n < w.length → (places g 3 p w)[n]? = some (runF g p n)) ∧ endp g 3 p w = runF g p w.length
  | [], p, _, _ => ⟨fun n hn => absurd hn (Nat.not_lt_zero n), rfl⟩
  | j :: w, p, h, hn => by
    have e : turn3 g p = lin g 3 p j := by
      unfold turn3
      rw [floor_within (by decide) h.1.1 h.1.2 (hn p List.mem_cons_self)]
      rfl
    obtain ⟨i1, i2⟩ := places_run (w := w) (p := lin g 3 p j) h.2 fun z hz => hn z (List.mem_cons_of_mem _ hz)
    refine ⟨fun n hlt => ?_, ?_⟩
    · cases n with
      | zero => rfl
      | succ n =>
        show (places g 3 (lin g 3 p j) w)[n]? = some (runF g (turn3 g p) n)
        rw [e]
        exact i1 n (by simpa using hlt)
    · show endp g 3 (lin g 3 p j) w = runF g (turn3 g p) w.length
      rw [e]
      exact i2
end Rt

namespace Rt
open Su183 (Frac red Abs)

/-! ## The ways of the program -/
/-- onto which pieces -/
def onto (g : Abs) (j : Nat) : List Nat := List.range' (min (g.point j) (g.point (j + 1))) (max (g.point j) (g.point (j + 1)) - min (g.point j) (g.point (j + 1)))
theorem mem_onto {g : Abs} {j x : Nat} : x ∈ onto g j ↔ g.covers j x = true := by
  unfold onto Abs.covers
  rw [List.mem_range'_1, Bool.and_eq_true, decide_eq_true_iff, decide_eq_true_iff]
  omega
def longer (g : Abs) (first : Nat) (some : List (List Nat)) : List (List Nat) :=
  some.flatMap fun way => ((onto g (way.getLastD 0)).filter fun p => decide (first ≤ p)).map fun p => way ++ [p]
def someN (g : Abs) (first : Nat) : Nat → List (List Nat)
  | 0 => [[first]]
  | m + 1 => longer g first (someN g first m)
def waysFrom (g : Abs) (steps first : Nat) : List (List Nat) := (someN g first (steps - 1)).filter fun way => (onto g (way.getLastD 0)).contains first
def ways (g : Abs) (steps : Nat) : List (List Nat) := (List.range g.n).flatMap (waysFrom g steps)

/-- from j along r -/
def Pth (g : Abs) : Nat → List Nat → Prop
  | _, [] => True
  | j, m :: r => g.covers j m = true ∧ Pth g m r
theorem pth_snoc {g : Abs} {m : Nat} : ∀ {r : List Nat} {j : Nat}, Pth g j (r ++ [m]) ↔ Pth g j r ∧ g.covers (r.getLastD j) m = true
  | [], j => by
    show (g.covers j m = true ∧ True) ↔ (True ∧ g.covers j m = true)
    exact ⟨fun h => ⟨trivial, h.1⟩, fun h => ⟨h.2, trivial⟩⟩
  | x :: r, j => by
    show (g.covers j x = true ∧ Pth g x (r ++ [m])) ↔ ((g.covers j x = true ∧ Pth g x r) ∧ g.covers ((x :: r).getLastD j) m = true)
    rw [pth_snoc, List.getLastD_cons]
    exact ⟨fun ⟨a, b, c⟩ => ⟨⟨a, b⟩, c⟩, fun ⟨⟨a, b⟩, c⟩ => ⟨a, b, c⟩⟩
theorem lk_pth {g : Abs} {l : Nat} (hb : ∀ j m, g.covers j m = true → m < g.n) : ∀ {r : List Nat} {j : Nat}, Lk g j r l ↔ Pth g j r ∧ g.covers (r.getLastD j) l = true
  | [], j => ⟨fun h => ⟨trivial, h⟩, fun h => h.2⟩
  | x :: r, j => by
    show (g.covers j x = true ∧ x < g.n ∧ Lk g x r l) ↔ ((g.covers j x = true ∧ Pth g x r) ∧ g.covers ((x :: r).getLastD j) l = true)
    rw [lk_pth hb, List.getLastD_cons]
    exact ⟨fun ⟨a, _, b, c⟩ => ⟨⟨a, b⟩, c⟩, fun ⟨⟨a, b⟩, c⟩ => ⟨a, hb _ _ a, b, c⟩⟩
theorem exists_snoc {α : Type} {l : List α} {m : Nat} (h : l.length = m + 1) : ∃ r x, l = r ++ [x] ∧ r.length = m := by
  refine ⟨l.take m, l[m], ?_, by rw [List.length_take]; omega⟩
  rw [List.take_append_getElem (by omega), List.take_of_length_le (by omega)]
theorem someN_mem {g : Abs} {first : Nat} : ∀ {m : Nat} {w : List Nat}, w ∈ someN g first m ↔ ∃ r, w = first :: r ∧ r.length = m ∧ Pth g first r ∧ ∀ x ∈ r, first ≤ x
  | 0, w => by
    show w ∈ [[first]] ↔ _
    rw [List.mem_singleton]
    constructor
    · rintro rfl; exact ⟨[], rfl, rfl, trivial, fun x hx => nomatch hx⟩
    · rintro ⟨r, rfl, hr, _⟩
      rw [List.length_eq_zero_iff] at hr
      rw [hr]
  | m + 1, w => by
    show w ∈ longer g first (someN g first m) ↔ _
    unfold longer
    rw [List.mem_flatMap]
    constructor
    · rintro ⟨way, hw, hp⟩
      obtain ⟨r, rfl, hr, h1, h2⟩ := someN_mem.mp hw
      obtain ⟨p, hp2, rfl⟩ := List.mem_map.mp hp
      clear hp
      have hp := hp2
      rw [List.mem_filter, mem_onto, decide_eq_true_iff, List.getLastD_cons] at hp
      exact ⟨r ++ [p], rfl, by simp [hr], pth_snoc.mpr ⟨h1, hp.1⟩, fun x hx => (List.mem_append.mp hx).elim (h2 x) fun e => by rw [List.mem_singleton] at e; rw [e]; exact hp.2⟩
    · rintro ⟨r, rfl, hr, h1, h2⟩
      obtain ⟨r', p, rfl, hr'⟩ := exists_snoc hr
      obtain ⟨h3, h4⟩ := pth_snoc.mp h1
      refine ⟨first :: r', someN_mem.mpr ⟨r', rfl, hr', h3, fun x hx => h2 x (List.mem_append_left _ hx)⟩, List.mem_map.mpr ⟨p, ?_, rfl⟩⟩
      rw [List.mem_filter, mem_onto, decide_eq_true_iff, List.getLastD_cons]
      exact ⟨h4, h2 p (by simp)⟩
theorem ways_mem {g : Abs} (hb : ∀ j m, g.covers j m = true → m < g.n) {k : Nat} {w : List Nat} : w ∈ ways g k ↔ ∃ first r, w = first :: r ∧ first < g.n ∧ r.length = k - 1 ∧ Lk g first r first ∧ ∀ x ∈ r, first ≤ x := by
  unfold ways waysFrom
  rw [List.mem_flatMap]
  constructor
  · rintro ⟨first, hf, hw⟩
    rw [List.mem_range] at hf
    rw [List.mem_filter, List.contains_iff_mem, mem_onto] at hw
    obtain ⟨r, rfl, hr, h1, h2⟩ := someN_mem.mp hw.1
    exact ⟨first, r, rfl, hf, hr, (lk_pth hb).mpr ⟨h1, by rw [← List.getLastD_cons (a := 0)]; exact hw.2⟩, h2⟩
  · rintro ⟨first, r, rfl, hf, hr, h1, h2⟩
    obtain ⟨h3, h4⟩ := (lk_pth hb).mp h1
    refine ⟨first, List.mem_range.mpr hf, ?_⟩
    rw [List.mem_filter, List.contains_iff_mem, mem_onto, List.getLastD_cons]
    exact ⟨someN_mem.mpr ⟨r, rfl, hr, h3, h2⟩, h4⟩

/-- the places of a round along a way -/
def roundOf (g : Abs) (w : List Nat) : List Int := places g (placeOf g w).2 (placeOf g w).1 w
/-- a way that brings a kind -/
structure Brings (g : Abs) (w : List Nat) : Prop where
  non : ¬ (placeOf g w).2 ∣ (placeOf g w).1
  nodup : (roundOf g w).Nodup

theorem sl_rot {g : Abs} {u x : List Nat} : sl g (x ++ u) = sl g (u ++ x) := by
  rw [sl_app, sl_app, Int.mul_comm]
/-- steep other than 1: the place of the loop begun elsewhere -/
theorem placeOf_rot {g : Abs} {w u x : List Nat} (e : w = u ++ x) (hS : (g.along w).1 ≠ 1) (hS0 : 0 < (placeOf g w).2) (hb : endp g (placeOf g w).2 (placeOf g w).1 w = (placeOf g w).1) :
    placeOf g (x ++ u) = (endp g (placeOf g w).2 (placeOf g w).1 u, (placeOf g w).2) := by
  have hr := places_rot e hb
  have hb' : endp g (placeOf g w).2 (endp g (placeOf g w).2 (placeOf g w).1 u) (x ++ u) = endp g (placeOf g w).2 (placeOf g w).1 u := by
    rw [endp_append, hr.2]
  have hs : (g.along (x ++ u)).1 = (g.along w).1 := by
    rw [along_sl, along_sl, e, sl_rot]
  rw [endp_along] at hb'
  generalize endp g (placeOf g w).2 (placeOf g w).1 u = p' at *
  have hq : (placeOf g w).2 = if 1 < (g.along w).1 then (g.along w).1 - 1 else 1 - (g.along w).1 := by
    unfold placeOf
    rw [if_neg hS]
    split <;> rfl
  rw [hs, hq] at hb'
  rw [hq] at hS0 ⊢
  unfold placeOf
  rw [hs, if_neg hS]
  generalize (g.along w).1 = S at *
  generalize (g.along (x ++ u)).2 = L at *
  by_cases c : 1 < S
  · rw [if_pos c] at *
    rw [if_pos c]
    refine Prod.ext ?_ rfl
    show -L = p'
    have : (S - 1) * (p' + L) = 0 := by grind
    rcases Int.mul_eq_zero.mp this with h | h <;> omega
  · rw [if_neg c] at *
    rw [if_neg c]
    refine Prod.ext ?_ rfl
    show L = p'
    have : (1 - S) * (L - p') = 0 := by grind
    rcases Int.mul_eq_zero.mp this with h | h <;> omega

theorem nonint_roundOf {g : Abs} {i : Nat} {r : List Nat} (k : Lk g i r i) (h : ¬ (placeOf g (i :: r)).2 ∣ (placeOf g (i :: r)).1) : ∀ z ∈ roundOf g (i :: r), ¬ (placeOf g (i :: r)).2 ∣ z := by
  obtain ⟨h0, hC, _⟩ := place_comes k
  have hb := hC.back
  rw [show (((placeOf g (i :: r)).2.toNat : Nat) : Int) = (placeOf g (i :: r)).2 by omega] at hb
  refine places_nonint (w := i :: r) ?_
  rw [hb]; exact h

/-- a loop of steepness 1, told in thirds -/
theorem placeOf_one {g : Abs} {i : Nat} {r : List Nat} (h : (g.along (i :: r)).1 = 1) : placeOf g (i :: r) = (3 * (i : Int) + 1, 3) := by
  unfold placeOf
  rw [if_pos h]
  rfl

/-- THE POINT: a loop that brings a kind, begun at a least piece, brings the same -/
theorem begun_least {g : Abs} {i : Nat} {r : List Nat} (hi : i < g.n) (k : Lk g i r i) (B : Brings g (i :: r)) :
    ∃ j r', j < g.n ∧ r'.length = r.length ∧ Lk g j r' j ∧ (∀ x ∈ r', j ≤ x) ∧ Brings g (j :: r') ∧ typeOf (roundOf g (j :: r')) = typeOf (roundOf g (i :: r)) := by
  obtain ⟨h0, hC, _⟩ := place_comes k
  have hb := hC.back
  have hw := hC.within
  rw [show (((placeOf g (i :: r)).2.toNat : Nat) : Int) = (placeOf g (i :: r)).2 by omega] at hb hw
  have hni := nonint_roundOf k B.non
  have hlen : (roundOf g (i :: r)).length = r.length + 1 := places_length _ _ _ _
  -- begun at u ++ j :: v, where the place is the one that the way begun there gives
  have keyA : ∀ u j v, i :: r = u ++ j :: v → (∀ x ∈ i :: r, j ≤ x) → placeOf g (j :: (v ++ u)) = (endp g (placeOf g (i :: r)).2 (placeOf g (i :: r)).1 u, (placeOf g (i :: r)).2) →
      ∃ j r', j < g.n ∧ r'.length = r.length ∧ Lk g j r' j ∧ (∀ x ∈ r', j ≤ x) ∧ Brings g (j :: r') ∧ typeOf (roundOf g (j :: r')) = typeOf (roundOf g (i :: r)) := by
    intro u j v e hmin hp
    obtain ⟨hj, hk⟩ := lk_rot hi k e
    have hR := places_rot e hb
    have hro : roundOf g (j :: (v ++ u)) = rot u.length (roundOf g (i :: r)) := by
      unfold roundOf
      rw [hp]
      exact hR.1
    have hl := congrArg List.length e
    simp only [List.length_cons, List.length_append] at hl
    refine ⟨j, v ++ u, hj, by simp; omega, hk, fun x hx => hmin x ?_, ⟨?_, ?_⟩, ?_⟩
    · rw [e]
      rcases List.mem_append.mp hx with h | h
      · exact List.mem_append_right _ (List.mem_cons_of_mem _ h)
      · exact List.mem_append_left _ h
    · rw [hp]
      intro d
      have := dvd_endp (g := g) (w := j :: v) d
      rw [hR.2] at this
      exact B.non this
    · rw [hro]; exact nodup_rot.mpr B.nodup
    · rw [hro, typeOf_rot B.nodup (by rw [hlen]; omega)]
  obtain ⟨u, j, v, e, hmin⟩ := exists_min (i :: r) (by simp)
  by_cases hS' : (g.along (i :: r)).1 ≠ 1
  · exact keyA u j v e hmin (placeOf_rot e hS' h0 hb)
  · have hS : (g.along (i :: r)).1 = 1 := Classical.not_not.mp hS'
    -- steep 1
    have hp0 := placeOf_one hS
    have units : ∀ x ∈ i :: r, g.slope x = 1 ∨ g.slope x = -1 := sl_units (by rw [← along_sl, hS]; rfl)
    have rotS : ∀ u j v, i :: r = u ++ j :: v → placeOf g (j :: (v ++ u)) = (3 * (j : Int) + 1, 3) := by
      intro u j v e
      refine placeOf_one ?_
      rw [along_sl, show j :: (v ++ u) = (j :: v) ++ u from rfl, sl_rot, ← e, ← along_sl, hS]
    by_cases hA : ∃ u j v, i :: r = u ++ j :: v ∧ (∀ x ∈ i :: r, j ≤ x) ∧ endp g 3 (3 * (i : Int) + 1) u = 3 * (j : Int) + 1
    · obtain ⟨u, j, v, e, hmin, h1⟩ := hA
      refine keyA u j v e hmin ?_
      rw [rotS u j v e, hp0]
      exact Prod.ext h1.symm rfl
    · -- the mirrored round
      have hpair2 : (placeOf g (i :: r)).2 = 3 := by rw [hp0]
      have hpair1 : (placeOf g (i :: r)).1 = 3 * (i : Int) + 1 := by rw [hp0]
      have ero : roundOf g (i :: r) = places g 3 (3 * (i : Int) + 1) (i :: r) := by unfold roundOf; rw [hp0]
      rw [hpair2] at hni
      rw [hpair2, hpair1] at hb hw
      obtain ⟨hj, hk⟩ := lk_rot hi k e
      have hR := places_rot e hb
      have hlu := congrArg List.length e
      simp only [List.length_cons, List.length_append] at hlu
      generalize hp' : endp g 3 (3 * (i : Int) + 1) u = p' at *
      -- the round begun there: qs
      have hqs : places g 3 p' ((j :: v) ++ u) = rot u.length (roundOf g (i :: r)) := by rw [hR.1, ero]
      have hend : endp g 3 p' ((j :: v) ++ u) = p' := by rw [endp_append, hR.2, hp']
      have hqn : ∀ z ∈ places g 3 p' ((j :: v) ++ u), ¬ (3 : Int) ∣ z := fun z hz => hni z (mem_rot.mp (hqs ▸ hz))
      have hqnd : (places g 3 p' ((j :: v) ++ u)).Nodup := by rw [hqs]; exact nodup_rot.mpr B.nodup
      have jle : ∀ {l : Nat}, ((l : Nat) : Int) = (l : Int) := rfl
      have hqw : Within 3 (places g 3 p' ((j :: v) ++ u)) ((j :: v) ++ u) := by
        have : (j : Int) * 3 ≤ p' ∧ p' ≤ ((j : Int) + 1) * 3 := by
          have hx := within_get (q := 3) (ps := places g 3 (3 * (i : Int) + 1) (i :: r)) (w := i :: r) (n := u.length) (by rw [places_length]; simp; omega) (by simp; omega) hw
          have e1 : (i :: r)[u.length]'(by simp; omega) = j := by simp [e]
          have e2 : (places g 3 (3 * (i : Int) + 1) (i :: r))[u.length]'(by rw [places_length]; simp; omega) = p' := by
            have : (places g 3 (3 * (i : Int) + 1) (i :: r))[u.length]? = some p' := by
              rw [e, places_append, hp', List.getElem?_append_right (by rw [places_length]; exact Nat.le_refl _), places_length, Nat.sub_self]
              rfl
            rw [List.getElem?_eq_getElem (by rw [places_length]; simp; omega)] at this
            exact Option.some.inj this
          rw [e1, e2] at hx
          exact hx
        exact within_path (q := 3) (by decide) (r := v ++ u) (j := j) (l := j) hk (by rw [show j :: (v ++ u) = (j :: v) ++ u from rfl, hend]; exact this.1) (by rw [show j :: (v ++ u) = (j :: v) ++ u from rfl, hend]; exact this.2)
      obtain ⟨run1, run2⟩ := places_run hqw hqn
      rw [hend] at run2
      have hl : ((j :: v) ++ u).length = r.length + 1 := by simp; omega
      have hml : (places g 3 p' ((j :: v) ++ u)).length = r.length + 1 := by rw [places_length, hl]
      have memw : ∀ x ∈ (j :: v) ++ u, x ∈ i :: r := fun x hx => by
        rw [e]
        rcases List.mem_append.mp hx with h | h
        · exact List.mem_append_right _ h
        · exact List.mem_append_left _ h
      -- the n-th place lies in the n-th piece
      have fl : ∀ n (hn : n < ((j :: v) ++ u).length), runF g p' n / 3 = (((j :: v) ++ u)[n] : Int) ∧ ¬ (3 : Int) ∣ runF g p' n ∧ 0 ≤ runF g p' n := by
        intro n hn
        have e1 := run1 n hn
        have hn' : n < (places g 3 p' ((j :: v) ++ u)).length := by rw [places_length]; exact hn
        rw [List.getElem?_eq_getElem hn'] at e1
        have e2 := Option.some.inj e1
        have hg := within_get hn' hn hqw
        have hd := hqn _ (List.getElem_mem hn')
        rw [e2] at hg hd
        refine ⟨floor_within (by decide) hg.1 hg.2 hd, hd, by omega⟩
      have period : ∀ n, runF g p' (n + (r.length + 1)) = runF g p' n := by
        intro n
        rw [Nat.add_comm, runF_add, ← hl, ← run2]
      have good : ∀ n, Good g (runF g p' n) := by
        intro n
        have small : ∀ n, n < r.length + 1 → Good g (runF g p' n) := by
          intro n hn
          obtain ⟨f1, f2, f3⟩ := fl n (by rw [hl]; exact hn)
          refine ⟨f3, f2, ?_⟩
          rw [f1]
          exact units _ (memw _ (List.getElem_mem _))
        have : ∀ m n, n < m → Good g (runF g p' n) := by
          intro m
          induction m with
          | zero => intro n hn; exact absurd hn (Nat.not_lt_zero n)
          | succ m ih =>
            intro n hn
            by_cases c : n < r.length + 1
            · exact small n c
            · have := period (n - (r.length + 1))
              rw [show n - (r.length + 1) + (r.length + 1) = n by omega] at this
              rw [this]
              exact ih _ (by omega)
        exact this (n + 1) n (Nat.lt_succ_self n)
      have mirrun : ∀ t n m, runF g p' n = mir (runF g p' m) → runF g p' (n + t) = mir (runF g p' (m + t)) := by
        intro t
        induction t with
        | zero => intro n m h; exact h
        | succ t ih =>
          intro n m h
          have e1 : runF g p' (n + 1) = mir (runF g p' (m + 1)) := by
            rw [runF_add g n 1, runF_add g m 1]
            show turn3 g (runF g p' n) = mir (turn3 g (runF g p' m))
            rw [h]
            exact mir_turn (good m)
          have := ih (n + 1) (m + 1) e1
          rw [show n + (t + 1) = n + 1 + t by omega, show m + (t + 1) = m + 1 + t by omega]
          exact this
      have p'0 : runF g p' 0 = p' := rfl
      have hp'2 : p' = 3 * (j : Int) + 2 := by
        obtain ⟨f1, f2, f3⟩ := fl 0 (by simp)
        rw [p'0] at f1 f2 f3
        have f1' : p' / 3 = (j : Int) := f1
        have ne1 : p' ≠ 3 * (j : Int) + 1 := fun z => hA ⟨u, j, v, e, hmin, hp'.trans z⟩
        omega
      -- no piece comes twice
      have wnd : ((j :: v) ++ u).Nodup := by
        unfold List.Nodup
        rw [List.pairwise_iff_getElem]
        intro a b ha hb' hab heq
        obtain ⟨a1, a2, a3⟩ := fl a ha
        obtain ⟨b1, b2, b3⟩ := fl b hb'
        rw [← heq] at b1
        have hne : runF g p' a ≠ runF g p' b := by
          intro z
          have x1 := run1 a ha
          have x2 := run1 b hb'
          have : a = b := (List.getElem?_inj (by rw [places_length]; exact ha) hqnd).mp (by rw [x1, x2, z])
          omega
        have hm : runF g p' b = mir (runF g p' a) := by
          unfold mir
          omega
        have := mirrun (r.length + 1 - a) b a hm
        rw [hl] at ha hb'
        rw [show b + (r.length + 1 - a) = (b - a) + (r.length + 1) by omega, period, show a + (r.length + 1 - a) = 0 + (r.length + 1) by omega, period, p'0] at this
        have hm2 : mir p' = 3 * (j : Int) + 1 := by
          unfold mir
          rw [hp'2]; omega
        rw [hm2] at this
        -- the place 3 j + 1 is one of the round: the loop could have been begun there
        have hba : b - a < ((j :: v) ++ u).length := by rw [hl]; omega
        have x1 := run1 (b - a) hba
        rw [this] at x1
        have hmem : 3 * (j : Int) + 1 ∈ places g 3 (3 * (i : Int) + 1) (i :: r) := by
          rw [← ero]
          exact mem_rot.mp (hqs ▸ List.mem_of_getElem? x1)
        obtain ⟨m, hm', em⟩ := List.getElem_of_mem hmem
        have hm'' : m < (i :: r).length := by rw [places_length] at hm'; exact hm'
        have hg := within_get hm' hm'' hw
        rw [em] at hg
        have ej : (i :: r)[m] = j := by omega
        refine hA ⟨(i :: r).take m, j, (i :: r).drop (m + 1), ?_, hmin, ?_⟩
        · rw [← ej, List.getElem_cons_drop, List.take_append_drop]
        · have hsp : places g 3 (3 * (i : Int) + 1) (i :: r) = places g 3 (3 * (i : Int) + 1) ((i :: r).take m) ++ places g 3 (endp g 3 (3 * (i : Int) + 1) ((i :: r).take m)) ((i :: r).drop m) := by
            rw [← places_append, List.take_append_drop]
          have lt : (places g 3 (3 * (i : Int) + 1) ((i :: r).take m)).length = m := by
            rw [places_length, List.length_take]; omega
          have x2 : (places g 3 (3 * (i : Int) + 1) (i :: r))[m]? = some (3 * (j : Int) + 1) := by rw [List.getElem?_eq_getElem hm', em]
          rw [hsp, List.getElem?_append_right (by omega), lt, Nat.sub_self, ← List.getElem_cons_drop (by exact hm'')] at x2
          exact Option.some.inj x2
      -- the program's round, mirrored
      have hro : roundOf g (j :: (v ++ u)) = places g 3 (3 * (j : Int) + 1) ((j :: v) ++ u) := by
        unfold roundOf
        rw [rotS u j v e]
        rfl
      obtain ⟨c0, cC, _⟩ := place_comes hk
      have cw := cC.within
      rw [rotS u j v e] at cw
      have cw' : Within 3 (places g 3 (3 * (j : Int) + 1) ((j :: v) ++ u)) ((j :: v) ++ u) := cw
      have cni := nonint_roundOf hk (by rw [rotS u j v e]; show ¬ (3 : Int) ∣ 3 * (j : Int) + 1; omega)
      rw [rotS u j v e, hro] at cni
      have cfl : ∀ n (hn : n < ((j :: v) ++ u).length), (places g 3 (3 * (j : Int) + 1) ((j :: v) ++ u)).getD n 0 / 3 = (((j :: v) ++ u)[n] : Int) := by
        intro n hn
        have hn' : n < (places g 3 (3 * (j : Int) + 1) ((j :: v) ++ u)).length := by rw [places_length]; exact hn
        have hg := within_get hn' hn cw'
        rw [List.getD_eq_getElem?_getD, List.getElem?_eq_getElem hn']
        exact floor_within (by decide) hg.1 hg.2 (cni _ (List.getElem_mem hn'))
      have dfl : ∀ n (hn : n < ((j :: v) ++ u).length), (places g 3 p' ((j :: v) ++ u)).getD n 0 / 3 = (((j :: v) ++ u)[n] : Int) := by
        intro n hn
        rw [List.getD_eq_getElem?_getD, run1 n hn]
        exact (fl n hn).1
      have nd' : (places g 3 (3 * (j : Int) + 1) ((j :: v) ++ u)).Nodup := by
        unfold List.Nodup
        rw [List.pairwise_iff_getElem]
        intro a b ha hb' hab heq
        rw [places_length] at ha hb'
        have x1 := cfl a ha
        have x2 := cfl b hb'
        rw [List.getD_eq_getElem?_getD, List.getElem?_eq_getElem (by rw [places_length]; exact ha)] at x1
        rw [List.getD_eq_getElem?_getD, List.getElem?_eq_getElem (by rw [places_length]; exact hb')] at x2
        simp only [Option.getD_some] at x1 x2
        rw [heq] at x1
        have : ((j :: v) ++ u)[a] = ((j :: v) ++ u)[b] := by omega
        exact (List.pairwise_iff_getElem.mp wnd) a b ha hb' hab this
      refine ⟨j, v ++ u, hj, by simp; omega, hk, fun x hx => hmin x (memw x ?_), ⟨?_, ?_⟩, ?_⟩
      · exact List.mem_cons_of_mem _ hx
      · rw [rotS u j v e]; show ¬ (3 : Int) ∣ 3 * (j : Int) + 1; omega
      · rw [hro]; exact nd'
      · rw [hro]
        rw [← typeOf_rot (m := u.length) B.nodup (by rw [hlen]; omega), ← hqs]
        refine typeOf_congr (by rw [places_length, places_length]) fun a b ha hb' => ?_
        rw [places_length] at ha hb'
        have x1 := cfl a ha
        have x2 := cfl b hb'
        have y1 := dfl a ha
        have y2 := dfl b hb'
        by_cases c : a = b
        · subst c; omega
        · have hne : ((j :: v) ++ u)[a] ≠ ((j :: v) ++ u)[b] := fun z => c ((List.getElem?_inj ha wnd).mp (by rw [List.getElem?_eq_getElem ha, List.getElem?_eq_getElem hb', z]))
          omega
end Rt

namespace Rt
open Su183 (Frac red Abs)

/-! ## Which kinds a kind brings -/
theorem insert_mem {x u : List Nat} : ∀ {l : List (List Nat)}, u ∈ Su184.insert_ x l ↔ u = x ∨ u ∈ l
  | [] => by simp [Su184.insert_]
  | y :: l => by
    unfold Su184.insert_
    split
    · rename_i c; subst c; simp
    · split
      · simp
      · rw [List.mem_cons, insert_mem]
        simp only [List.mem_cons]
        constructor
        · rintro (h | h | h)
          · exact .inr (.inl h)
          · exact .inl h
          · exact .inr (.inr h)
        · rintro (h | h | h)
          · exact .inr (.inl h)
          · exact .inl h
          · exact .inr (.inr h)
theorem fold_insert_mem {u : List Nat} : ∀ {l acc : List (List Nat)}, u ∈ l.foldl (fun s t => Su184.insert_ t s) acc ↔ u ∈ acc ∨ u ∈ l
  | [], acc => by simp
  | x :: l, acc => by
    rw [List.foldl_cons, fold_insert_mem, insert_mem, List.mem_cons]
    constructor
    · rintro ((h | h) | h)
      · exact .inr (.inl h)
      · exact .inl h
      · exact .inr (.inr h)
    · rintro (h | h | h)
      · exact .inl (.inr h)
      · exact .inl (.inl h)
      · exact .inr h
abbrev Bf (a b : List Nat) : Prop := Su184.before a b = true
theorem bf_irrefl : ∀ a : List Nat, ¬ Bf a a
  | [], h => by cases h
  | x :: l, h => by
    have h : (decide (x < x) || (x == x && Su184.before l l)) = true := h
    simp at h
    exact bf_irrefl l h
theorem bf_trans : ∀ {a b c : List Nat}, Bf a b → Bf b c → Bf a c
  | [], [], _, h, _ => by cases h
  | [], _ :: _, [], _, h => by cases h
  | [], _ :: _, _ :: _, _, _ => rfl
  | _ :: _, [], _, h, _ => by cases h
  | _ :: _, _ :: _, [], _, h => by cases h
  | x :: a, y :: b, z :: c, h1, h2 => by
    have h1 : (decide (x < y) || (x == y && Su184.before a b)) = true := h1
    have h2 : (decide (y < z) || (y == z && Su184.before b c)) = true := h2
    show (decide (x < z) || (x == z && Su184.before a c)) = true
    simp only [Bool.or_eq_true, decide_eq_true_iff, Bool.and_eq_true, beq_iff_eq] at *
    rcases h1 with h1 | ⟨h1, h1'⟩ <;> rcases h2 with h2 | ⟨h2, h2'⟩
    · exact .inl (by omega)
    · exact .inl (by omega)
    · exact .inl (by omega)
    · exact .inr ⟨by omega, bf_trans h1' h2'⟩
theorem bf_total : ∀ (a b : List Nat), a = b ∨ Bf a b ∨ Bf b a
  | [], [] => .inl rfl
  | [], _ :: _ => .inr (.inl rfl)
  | _ :: _, [] => .inr (.inr rfl)
  | x :: a, y :: b => by
    show _ ∨ (decide (x < y) || (x == y && Su184.before a b)) = true ∨ (decide (y < x) || (y == x && Su184.before b a)) = true
    rcases Nat.lt_trichotomy x y with h | h | h
    · exact .inr (.inl (by simp [h]))
    · subst h
      rcases bf_total a b with h | h | h
      · exact .inl (by rw [h])
      · exact .inr (.inl (by simp; exact h))
      · exact .inr (.inr (by simp; exact h))
    · exact .inr (.inr (by simp [h]))
theorem insert_sorted {x : List Nat} : ∀ {l : List (List Nat)}, l.Pairwise Bf → (Su184.insert_ x l).Pairwise Bf
  | [], _ => by simp [Su184.insert_]
  | y :: l, h => by
    obtain ⟨h1, h2⟩ := List.pairwise_cons.mp h
    unfold Su184.insert_
    split
    · exact h
    · rename_i c
      split
      · rename_i c2
        refine List.pairwise_cons.mpr ⟨fun z hz => ?_, h⟩
        rcases List.mem_cons.mp hz with rfl | hz
        · exact c2
        · exact bf_trans c2 (h1 z hz)
      · rename_i c2
        refine List.pairwise_cons.mpr ⟨fun z hz => ?_, insert_sorted h2⟩
        rcases insert_mem.mp hz with rfl | hz
        · rcases bf_total z y with e | e | e
          · exact absurd e c
          · exact absurd e c2
          · exact e
        · exact h1 z hz
theorem fold_insert_sorted : ∀ {l acc : List (List Nat)}, acc.Pairwise Bf → (l.foldl (fun s t => Su184.insert_ t s) acc).Pairwise Bf
  | [], acc, h => h
  | x :: l, acc, h => fold_insert_sorted (l := l) (insert_sorted h)
/-- in order, with the same in them: the same -/
theorem sorted_same {l m : List (List Nat)} (hl : l.Pairwise Bf) (hm : m.Pairwise Bf) (h : ∀ u, u ∈ l ↔ u ∈ m) : l = m := by
  have nd : ∀ {l : List (List Nat)}, l.Pairwise Bf → l.Nodup := fun {l} h => List.Pairwise.imp (S := fun a b => a ≠ b) (fun {a b} (hab : Bf a b) (e : a = b) => bf_irrefl b (by rw [e] at hab; exact hab)) h
  have p := (List.perm_ext_iff_of_nodup (nd hl) (nd hm)).mpr h
  exact p.eq_of_pairwise (fun a b _ _ h1 h2 => absurd (bf_trans h1 h2) (bf_irrefl a)) hl hm

theorem point_le {t : List Nat} (h : IsT t) (j : Nat) : (Su184.lineOf t).point j ≤ (Su184.lineOf t).n := by
  show (Su184.putOf t).getD j 0 ≤ t.length - 1
  have hp := h.pos
  by_cases c : j < t.length
  · obtain ⟨a, ha, rfl⟩ := List.getElem_of_mem (h.mem c)
    rw [putOf_at h ha]
    have := getD_mod_lt h (a + 1)
    omega
  · rw [List.getD_eq_getElem?_getD, List.getElem?_eq_none (by rw [putOf_length]; omega)]
    exact Nat.zero_le _
theorem covers_lt {t : List Nat} (h : IsT t) : ∀ j m, (Su184.lineOf t).covers j m = true → m < (Su184.lineOf t).n := by
  intro j m hc
  unfold Abs.covers at hc
  rw [Bool.and_eq_true, decide_eq_true_iff, decide_eq_true_iff] at hc
  have := point_le h j
  have := point_le h (j + 1)
  omega
theorem found_mem {g : Abs} {k : Nat} {x : Frac} : x ∈ g.found (k + 1) ↔ ((∃ c, c ≤ g.n ∧ x = Su183.ofNat c) ∨ (∃ i r, i < g.n ∧ r.length = k ∧ Lk g i r i ∧ x = red (placeOf g (i :: r)).1 (placeOf g (i :: r)).2.toNat)) ∧ g.back x (k + 1) = true := by
  unfold Abs.found
  rw [List.mem_filter, List.mem_append, List.mem_map, List.mem_flatMap]
  constructor
  · rintro ⟨h | h, hb⟩
    · obtain ⟨c, hc, rfl⟩ := h
      rw [List.mem_range] at hc
      exact ⟨.inl ⟨c, by omega, rfl⟩, hb⟩
    · obtain ⟨i, hi, h⟩ := h
      rw [List.mem_range] at hi
      obtain ⟨w, hw, hx⟩ := List.mem_flatMap.mp h
      obtain ⟨r, rfl, hr, hk⟩ := (loops_mem k i w).mp hw
      rw [given_eq hi hk, List.mem_singleton] at hx
      exact ⟨.inr ⟨i, r, hi, hr, hk, hx⟩, hb⟩
  · rintro ⟨h | h, hb⟩
    · obtain ⟨c, hc, rfl⟩ := h
      exact ⟨.inl ⟨c, List.mem_range.mpr (by omega), rfl⟩, hb⟩
    · obtain ⟨i, r, hi, hr, hk, rfl⟩ := h
      exact ⟨.inr ⟨i, List.mem_range.mpr hi, List.mem_flatMap.mpr ⟨i :: r, (loops_mem k i _).mpr ⟨r, rfl, hr, hk⟩, by rw [given_eq hi hk]; exact List.mem_singleton.mpr rfl⟩⟩, hb⟩
/-- a loop's place: it comes back in so many steps where its places differ -/
theorem loop_back {g : Abs} {i : Nat} {r : List Nat} (hi : i < g.n) (k : Lk g i r i) :
    (g.back (red (placeOf g (i :: r)).1 (placeOf g (i :: r)).2.toNat) (r.length + 1) = true ↔ (roundOf g (i :: r)).Nodup) ∧
    (g.back (red (placeOf g (i :: r)).1 (placeOf g (i :: r)).2.toNat) (r.length + 1) = true → g.type (Su183.leastOf (g.way (red (placeOf g (i :: r)).1 (placeOf g (i :: r)).2.toNat) (r.length + 1))) (r.length + 1) = typeOf (roundOf g (i :: r))) := by
  obtain ⟨h0, hC, _⟩ := place_comes k
  have hlt : ∀ j ∈ i :: r, j < g.n := fun j hj => (List.mem_cons.mp hj).elim (fun e => e ▸ hi) (lk_lt k j)
  obtain ⟨w1, w2, _⟩ := ways_of_within hC.pos hlt hC.within
  have e : (((placeOf g (i :: r)).2.toNat : Nat) : Int) = (placeOf g (i :: r)).2 := by omega
  have hro : places g (((placeOf g (i :: r)).2.toNat : Nat) : Int) (placeOf g (i :: r)).1 (i :: r) = roundOf g (i :: r) := by unfold roundOf; rw [e]
  rw [hC.back] at w2
  rw [hro] at w1
  rw [List.length_cons] at w1 w2
  refine ⟨?_, fun hb => type_round hC.pos w1 hb⟩
  rw [back_iff, w1, nodup_map_red hC.pos]
  exact ⟨fun h => h.2.2, fun h => ⟨Nat.succ_pos _, w2, h⟩⟩
theorem types_mem {t : List Nat} (h : IsT t) {k : Nat} {u : List Nat} :
    u ∈ Su184.types t (k + 1) ↔ (u = t ∧ t.length = k + 1) ∨ ∃ w ∈ ways (Su184.lineOf t) (k + 1), Brings (Su184.lineOf t) w ∧ u = typeOf (roundOf (Su184.lineOf t) w) := by
  unfold Su184.types
  by_cases h1 : t.length = 1
  · rw [if_pos h1]
    have hn : (Su184.lineOf t).n = 0 := by rw [line_n]; omega
    have ht : t = [0] := by
      obtain ⟨r, rfl⟩ := h.cons
      simp at h1
      rw [h1]
    have hw : ways (Su184.lineOf t) (k + 1) = [] := by
      unfold ways
      rw [hn]; rfl
    rw [hw]
    by_cases c : k + 1 = 1
    · rw [if_pos c]
      simp [ht, c]
    · rw [if_neg c]
      simp [h1, Ne.symm c]
      omega
  · rw [if_neg h1]
    have h2 : 1 < t.length := by have := h.pos; omega
    have hn : (Su184.lineOf t).n + 1 = t.length := by rw [line_n]; omega
    unfold Su184.typesIn
    rw [fold_insert_mem]
    simp only [List.not_mem_nil, false_or, List.mem_map]
    have nat : ∀ c, c ≤ (Su184.lineOf t).n → (Su184.lineOf t).back (Su183.ofNat c) (k + 1) = true → t.length = k + 1 ∧ (Su184.lineOf t).type (Su183.leastOf ((Su184.lineOf t).way (Su183.ofNat c) (k + 1))) (k + 1) = t := by
      intro c hc hb
      have x := nat_back h h2 (c := c) (k := k + 1) (by omega)
      have e := x.1.mp hb
      rw [e]
      exact ⟨rfl, x.2⟩
    constructor
    · rintro ⟨x, hx, rfl⟩
      obtain ⟨hx, hb⟩ := found_mem.mp hx
      rcases hx with ⟨c, hc, rfl⟩ | ⟨i, r, hi, hr, hk, rfl⟩
      · obtain ⟨e1, e2⟩ := nat c hc hb
        exact .inl ⟨e2, e1⟩
      · obtain ⟨h0, hC, _⟩ := place_comes hk
        subst hr
        have lb := loop_back hi hk
        by_cases hd : (placeOf (Su184.lineOf t) (i :: r)).2 ∣ (placeOf (Su184.lineOf t) (i :: r)).1
        · -- a whole number
          have hw := hC.within.1
          have e : (((placeOf (Su184.lineOf t) (i :: r)).2.toNat : Nat) : Int) = (placeOf (Su184.lineOf t) (i :: r)).2 := by omega
          obtain ⟨c, hc⟩ := hd
          rw [e] at hw
          have hpos := hC.pos
          generalize (placeOf (Su184.lineOf t) (i :: r)).1 = p at *
          generalize (placeOf (Su184.lineOf t) (i :: r)).2 = q at *
          subst hc
          have c0 : (i : Int) ≤ c := by
            have := hw.1
            rw [Int.mul_comm q c] at this
            exact Int.le_of_mul_le_mul_right this h0
          have c1 : c ≤ (i : Int) + 1 := by
            have := hw.2
            rw [Int.mul_comm q c] at this
            exact Int.le_of_mul_le_mul_right this h0
          have ex : red (q * c) q.toNat = Su183.ofNat c.toNat := by
            rw [← red_ofNat]
            refine red_eq_of hpos (by decide) ?_
            rw [e]
            have : ((c.toNat : Nat) : Int) = c := by omega
            rw [this]
            simp [Int.mul_comm]
          rw [ex] at hb ⊢
          obtain ⟨e1, e2⟩ := nat c.toNat (by omega) hb
          exact .inl ⟨e2, e1⟩
        · have B : Brings (Su184.lineOf t) (i :: r) := ⟨hd, lb.1.mp hb⟩
          obtain ⟨j, r', hj, hr', hk', hmin, B', et⟩ := begun_least hi hk B
          refine .inr ⟨j :: r', (ways_mem (covers_lt h)).mpr ⟨j, r', rfl, hj, by omega, hk', hmin⟩, B', ?_⟩
          rw [et]
          exact lb.2 hb
    · rintro (⟨rfl, e⟩ | ⟨w, hw, B, rfl⟩)
      · have x := nat_back h h2 (c := 0) (k := k + 1) (by omega)
        refine ⟨Su183.ofNat 0, found_mem.mpr ⟨.inl ⟨0, Nat.zero_le _, rfl⟩, x.1.mpr e.symm⟩, ?_⟩
        rw [← e]; exact x.2
      · obtain ⟨i, r, rfl, hi, hr, hk, _⟩ := (ways_mem (covers_lt h)).mp hw
        have hr' : r.length = k := by omega
        subst hr'
        have lb := loop_back hi hk
        have hb := lb.1.mpr B.nodup
        exact ⟨_, found_mem.mpr ⟨.inr ⟨i, r, hi, rfl, hk, rfl⟩, hb⟩, lb.2 hb⟩
theorem types_sorted (t : List Nat) (k : Nat) : (Su184.types t k).Pairwise Bf := by
  unfold Su184.types
  split
  · split
    · simp
    · exact List.Pairwise.nil
  · exact fold_insert_sorted List.Pairwise.nil
end Rt

/-! # The calls, as the specification has them -/
namespace Rt
/-- nothing taken: the empty row -/
def St2 (t : List Nat) : Option (List Nat) := if t = [] then none else some t
def Valid (t : List Nat) : Prop := t = [] ∨ (IsT t ∧ t.length ≤ 7)
theorem St2_nil : St2 [] = none := rfl
theorem St2_isT {t : List Nat} (h : IsT t) : St2 t = some t := by
  unfold St2
  rw [if_neg]
  intro e
  have := h.pos
  rw [e] at this
  exact Nat.lt_irrefl 0 this
theorem IsT.ne {t : List Nat} (h : IsT t) : t ≠ [] := fun e => by
  have := h.pos
  rw [e] at this
  exact Nat.lt_irrefl 0 this
theorem St2_getD (t : List Nat) : (St2 t).getD [] = t := by
  unfold St2
  split
  · rename_i e; rw [e]; rfl
  · rfl
theorem does_take (t u : List Nat) : Su184.does t (.take u) = if Su184.isType u = false ∨ 7 < u.length then (t, Su184.no (-22)) else (u, Su184.num u.length []) := rfl
theorem step_take (t u : List Nat) : Su184.step (St2 t) (.take u) = if Su184.isType u = false ∨ 7 < u.length then (St2 t, Su184.no (-22)) else (some u, Su184.num u.length []) := by
  have hneg : ((-22 : Int) < 0) := by decide
  have hpos : ¬ ((u.length : Int) < 0) := by omega
  unfold St2
  split
  · show (if (Su184.does [0] (.take u)).2.value < 0 then none else some (Su184.does [0] (.take u)).1, (Su184.does [0] (.take u)).2) = _
    rw [does_take]
    by_cases c : Su184.isType u = false ∨ 7 < u.length
    · rw [if_pos c, if_pos c]
      rfl
    · rw [if_neg c, if_neg c]
      show (if (u.length : Int) < 0 then none else some u, Su184.num u.length []) = _
      rw [if_neg hpos]
  · show (some (Su184.does t (.take u)).1, (Su184.does t (.take u)).2) = _
    rw [does_take]
    by_cases c : Su184.isType u = false ∨ 7 < u.length
    · rw [if_pos c, if_pos c]
    · rw [if_neg c, if_neg c]
theorem take_bool (u : List Nat) : (Su184.isType u = false ∨ 7 < u.length) ↔ (Su184.isType u && decide ((u.length : Int) ≤ 7)) = false := by
  rw [Bool.and_eq_false_iff, decide_eq_false_iff_not]
  constructor
  · rintro (h | h)
    · exact .inl h
    · exact .inr (by omega)
  · rintro (h | h)
    · exact .inl h
    · exact .inr (by omega)
theorem brings_bool (u : List Nat) : (Su184.isType u = false ∨ 6 < u.length) ↔ (Su184.isType u && decide ((u.length : Int) ≤ 6)) = false := by
  rw [Bool.and_eq_false_iff, decide_eq_false_iff_not]
  constructor
  · rintro (h | h)
    · exact .inl h
    · exact .inr (by omega)
  · rintro (h | h)
    · exact .inl h
    · exact .inr (by omega)
/-- the first place of 0 -/
theorem find_zero {s : List Nat} (h : 0 ∈ s) : ((List.range s.length).find? fun i => s.getD i 1 == 0) = some (s.idxOf 0) := by
  have hlt : s.idxOf 0 < s.length := List.idxOf_lt_length_of_mem h
  rw [List.find?_range_eq_some]
  refine ⟨?_, List.mem_range.mpr hlt, fun j hj => ?_⟩
  · rw [List.getD_eq_getElem?_getD, List.getElem?_eq_getElem hlt]
    show (s[s.idxOf 0] == 0) = true
    rw [List.getElem_idxOf]; rfl
  · have hj' : j < s.findIdx (· == 0) := hj
    have := List.not_of_lt_findIdx hj'
    have hjl : j < s.length := by omega
    rw [List.getD_eq_getElem?_getD, List.getElem?_eq_getElem hjl]
    simp at this
    simpa using this
theorem turned_eq {t : List Nat} (h : IsT t) : Su184.turned t = begunAt (t.map fun n => t.length - 1 - n) 0 := by
  have hpos := h.pos
  have h0 : 0 ∈ t.map fun n => t.length - 1 - n := List.mem_map.mpr ⟨t.length - 1, h.mem (by omega), by omega⟩
  have := find_zero h0
  rw [List.length_map] at this
  unfold Su184.turned
  dsimp only
  rw [this]
  rfl
theorem self_types {t : List Nat} (h : IsT t) : t ∈ Su184.types t t.length := by
  obtain ⟨k, hk⟩ : ∃ k, t.length = k + 1 := ⟨t.length - 1, by have := h.pos; omega⟩
  rw [hk]
  exact (types_mem h).mpr (.inl ⟨rfl, hk⟩)
theorem one_self {t : List Nat} (h : IsT t) {k : Nat} (hk : t.length = k) : ((Su184.types t k).length == 1) = decide (Su184.types t t.length = [t]) := by
  subst hk
  have hm := self_types h
  rw [Bool.eq_iff_iff, beq_iff_eq, decide_eq_true_iff]
  constructor
  · intro e
    obtain ⟨x, ex⟩ := List.length_eq_one_iff.mp e
    rw [ex] at hm ⊢
    rw [List.mem_singleton] at hm
    rw [hm]
  · intro e; rw [e]; rfl
/-- a call's parts, as the program has them -/
def ArgsOk : Su184.Call → Int → List Int → List Int → Prop
  | .take u, call, nums, row => call = 0 ∧ nums = [] ∧ u = row.map Int.toNat ∧ (∀ z ∈ row, 0 ≤ z) ∧ row.length ≤ 10
  | .line, call, nums, _ => call = 1 ∧ nums = []
  | .turn, call, nums, _ => call = 2 ∧ nums = []
  | .double, call, nums, _ => call = 3 ∧ nums = []
  | .brings u, call, nums, row => call = 4 ∧ nums = [] ∧ u = row.map Int.toNat ∧ (∀ z ∈ row, 0 ≤ z) ∧ row.length ≤ 10
  | .types j, call, nums, _ => call = 5 ∧ nums = [(j : Int)]
  | .nth j i, call, nums, _ => call = 6 ∧ nums = [(j : Int), (i : Int)]
  | .steps, call, nums, _ => call = 7 ∧ nums = []
  | .alone, call, nums, _ => call = 8 ∧ nums = []
  | .by_ k, call, nums, _ => call = 9 ∧ nums = [(k : Int)]
  | .rise k, call, nums, _ => call = 10 ∧ nums = [(k : Int)]
  | .state, call, nums, _ => call = 11 ∧ nums = []
theorem step_some {t : List Nat} (h : IsT t) (c : Su184.Call) : Su184.step (St2 t) c = (some (Su184.does t c).1, (Su184.does t c).2) := by
  rw [St2_isT h]
  cases c <;> rfl
theorem step_none {c : Su184.Call} (h : ∀ u, c ≠ .take u) : Su184.step none c = (none, Su184.no (-11)) := by
  cases c <;> first | rfl | exact absurd rfl (h _)
/-- what is refused tells its number alone, and changes nothing -/
theorem step_neg {t : List Nat} (hv : Valid t) (c : Su184.Call) (h : (Su184.step (St2 t) c).2.value < 0) : (Su184.step (St2 t) c).2.out = [] ∧ (Su184.step (St2 t) c).1.getD [] = t := by
  have key : ∀ {r : Option (List Nat) × Su184.Ans} {v : Int}, r = (St2 t, Su184.no v) → r.2.out = [] ∧ r.1.getD [] = t := fun e => by rw [e]; exact ⟨rfl, St2_getD t⟩
  have pos : ∀ {n : Nat} {l : List Nat}, ¬ (Su184.num n l).value < 0 := fun {n l} => by
    show ¬ ((n : Int) < 0)
    omega
  by_cases ct : ∃ u, c = .take u
  · obtain ⟨u, rfl⟩ := ct
    rw [step_take] at h ⊢
    by_cases cc : Su184.isType u = false ∨ 7 < u.length
    · rw [if_pos cc]; exact key rfl
    · rw [if_neg cc] at h; exact absurd h pos
  · rcases hv with rfl | ⟨ht, _⟩
    · rw [St2_nil, step_none (fun u e => ct ⟨u, e⟩)]; exact ⟨rfl, rfl⟩
    · rw [step_some ht] at h ⊢
      have e0 := St2_isT ht
      have key2 : ∀ {v : Int} {r : List Nat × Su184.Ans}, r = (t, Su184.no v) → (some r.1, r.2).2.out = [] ∧ ((some r.1, r.2) : Option (List Nat) × Su184.Ans).1.getD [] = t := fun e => by rw [e]; exact ⟨rfl, rfl⟩
      cases c with
      | take u => exact absurd ⟨u, rfl⟩ ct
      | line => exact absurd h pos
      | turn => exact absurd h pos
      | double =>
        unfold Su184.does at h ⊢
        dsimp only at h ⊢
        split at h
        · rename_i cc; rw [if_pos cc]; exact ⟨rfl, rfl⟩
        · exact absurd h pos
      | brings u =>
        unfold Su184.does at h ⊢
        dsimp only at h ⊢
        split at h
        · rename_i cc; rw [if_pos cc]; exact ⟨rfl, rfl⟩
        · exact absurd h pos
      | types k =>
        unfold Su184.does at h ⊢
        dsimp only at h ⊢
        split at h
        · rename_i cc; rw [if_pos cc]; exact ⟨rfl, rfl⟩
        · exact absurd h pos
      | nth k j =>
        unfold Su184.does at h ⊢
        dsimp only at h ⊢
        split at h
        · rename_i cc; rw [if_pos cc]; exact ⟨rfl, rfl⟩
        · rename_i cc
          rw [if_neg cc]
          split at h
          · exact absurd h pos
          · exact ⟨rfl, rfl⟩
      | steps => exact absurd h pos
      | alone =>
        unfold Su184.does at h ⊢
        dsimp only at h ⊢
        split at h
        · rename_i cc; rw [if_pos cc]; exact ⟨rfl, rfl⟩
        · exact absurd h pos
      | by_ k =>
        unfold Su184.does at h ⊢
        dsimp only at h ⊢
        split at h
        · rename_i cc; rw [if_pos cc]; exact ⟨rfl, rfl⟩
        · rename_i cc
          rw [if_neg cc]
          split at h
          · rename_i c2; rw [if_pos c2]; exact ⟨rfl, rfl⟩
          · exact absurd h pos
      | rise k =>
        unfold Su184.does at h ⊢
        dsimp only at h ⊢
        split at h
        · rename_i cc; rw [if_pos cc]; exact ⟨rfl, rfl⟩
        · exact absurd h pos
      | state => exact absurd h pos
end Rt

/-! # The request: the calls as they stand in it -/
namespace Rt
/-- a call as it stands -/
def enc1 : List (List Int) → List Int
  | [] => []
  | pn :: rows => pn ++ rows.flatMap fun r => (r.length : Int) :: r
theorem row_enc {l x t : List Int} (h : PyFlat.row l = some (x, t)) : l = (x.length : Int) :: x ++ t := by
  cases l with
  | nil => cases h
  | cons n r =>
    unfold PyFlat.row at h
    dsimp only at h
    split at h
    · rename_i c
      injection h with h
      injection h with h1 h2
      subst h1 h2
      have e : ((r.take n.toNat).length : Int) = n := by rw [List.length_take]; omega
      rw [e]
      show n :: r = n :: (r.take n.toNat ++ r.drop n.toNat)
      rw [List.take_append_drop]
    · cases h
theorem rows_enc : ∀ {k : Nat} {l t : List Int} {xs : List (List Int)}, PyFlat.rows k l = some (xs, t) → l = (xs.flatMap fun r => (r.length : Int) :: r) ++ t ∧ xs.length = k
  | 0, l, t, xs, h => by
    injection h with h
    injection h with h1 h2
    subst h1 h2
    exact ⟨rfl, rfl⟩
  | k + 1, l, t, xs, h => by
    unfold PyFlat.rows at h
    split at h
    · cases h
    · rename_i x s e1
      split at h
      · cases h
      · rename_i ys t' e2
        injection h with h
        injection h with h1 h2
        subst h1 h2
        obtain ⟨e3, e4⟩ := rows_enc e2
        refine ⟨?_, by rw [List.length_cons, e4]⟩
        rw [row_enc e1, e3]
        simp
/-- a call's place, numbers, rows: as its place has them -/
def Shaped (c : List (List Int)) : Prop := ∃ p xs rows, c = (p :: xs) :: rows ∧ PySu184.shape p = some (xs.length, rows.length)
theorem call_enc {l t : List Int} {c : List (List Int)} (h : PyFlat.call PySu184.shape l = some (c, t)) : l = enc1 c ++ t ∧ Shaped c := by
  cases l with
  | nil => cases h
  | cons p r =>
    unfold PyFlat.call at h
    dsimp only at h
    split at h
    · cases h
    · rename_i n k es
      split at h
      · cases h
      · rename_i hn
        split at h
        · cases h
        · rename_i xs t' er
          injection h with h
          injection h with h1 h2
          subst h1 h2
          obtain ⟨e1, e2⟩ := rows_enc er
          refine ⟨?_, p, r.take n, xs, rfl, ?_⟩
          · unfold enc1
            show p :: r = (p :: r.take n) ++ _ ++ t'
            rw [List.append_assoc, ← e1]
            show p :: r = p :: (r.take n ++ r.drop n)
            rw [List.take_append_drop]
          · rw [es, e2, List.length_take, Nat.min_eq_left (by omega)]
theorem calls_enc : ∀ {f : Nat} {l : List Int} {cs : List (List (List Int))}, PyFlat.calls PySu184.shape f l = some cs → l = cs.flatMap enc1 ∧ ∀ c ∈ cs, Shaped c
  | 0, [], cs, h => by
    injection h with h
    subst h
    exact ⟨rfl, fun c hc => nomatch hc⟩
  | f + 1, [], cs, h => by
    injection h with h
    subst h
    exact ⟨rfl, fun c hc => nomatch hc⟩
  | 0, _ :: _, cs, h => by cases h
  | f + 1, p :: r, cs, h => by
    unfold PyFlat.calls at h
    split at h
    · cases h
    · rename_i c t e1
      split at h
      · cases h
      · rename_i cs' e2
        injection h with h
        subst h
        obtain ⟨e3, sh⟩ := call_enc e1
        obtain ⟨e4, all⟩ := calls_enc e2
        refine ⟨?_, fun x hx => ?_⟩
        · rw [e3, e4]; rfl
        · rcases List.mem_cons.mp hx with rfl | hx
          · exact sh
          · exact all x hx
/-- how many numbers each place has -/
abbrev numbersOf : List Nat := [0, 0, 0, 0, 0, 1, 2, 0, 0, 1, 1, 0]
/-- a call, read -/
structure Piece (c : List (List Int)) (sc : Su184.Call) (p : Nat) (nums row : List Int) : Prop where
  args : ArgsOk sc (p : Int) nums row
  call : Su184Neutral.callOf ((PySu184.whole c).headD []) = some sc
  lt : p < 12
  nl : numbersOf[p]? = some nums.length
  enc : (p = 0 ∨ p = 4) ∧ enc1 c = (p : Int) :: nums ++ (row.length : Int) :: row ∨ (p ≠ 0 ∧ p ≠ 4) ∧ row = [] ∧ enc1 c = (p : Int) :: nums
theorem shape_rng {p : Int} {a : Nat × Nat} (h : PySu184.shape p = some a) : 0 ≤ p ∧ p < 12 := by
  by_cases c : 0 ≤ p ∧ p < 12
  · exact c
  · exfalso
    unfold PySu184.shape at h
    repeat (rw [if_neg (by omega)] at h)
    cases h
theorem within_iff {lo hi z : Int} : PyInside.within lo hi z = true ↔ lo ≤ z ∧ z ≤ hi := by
  unfold PyInside.within
  rw [Bool.and_eq_true, decide_eq_true_iff, decide_eq_true_iff]
theorem nil_of {α : Type} {l : List α} (h : l.length = 0) : l = [] := List.length_eq_zero_iff.mp h
theorem piece {c : List (List Int)} (h : Shaped c) (hb : PyInside.call PySu184.bound c = true) : ∃ sc p nums row, Piece c sc p nums row := by
  obtain ⟨p, xs, rows, rfl, hs⟩ := h
  obtain ⟨h0, h1⟩ := shape_rng hs
  obtain ⟨q, rfl⟩ : ∃ q : Nat, p = (q : Int) := ⟨p.toNat, by omega⟩
  have hq : q < 12 := by omega
  have rowed : ∀ {m : Nat} {x : Nat × Nat}, some x = some (xs.length, rows.length) → x = (m, 1) → xs.length = m ∧ ∃ r, rows = [r] := fun e e2 => by
    subst e2
    injection e with e
    injection e with e1 e2
    exact ⟨e1.symm, List.length_eq_one_iff.mp e2.symm⟩
  have plain : ∀ {m : Nat} {x : Nat × Nat}, some x = some (xs.length, rows.length) → x = (m, 0) → xs.length = m ∧ rows = [] := fun e e2 => by
    subst e2
    injection e with e
    injection e with e1 e2
    exact ⟨e1.symm, nil_of e2.symm⟩
  match q, hq, hs, hb with
  | 0, _, hs, hb =>
    obtain ⟨e1, r, rfl⟩ := rowed (m := 0) hs rfl
    have := nil_of e1; subst this
    have hb' : (decide (0 ≤ r.length) && decide (r.length ≤ 10) && r.all (PyInside.within 0 4294967295) && true) = true := hb
    simp only [Bool.and_eq_true, decide_eq_true_iff, List.all_eq_true] at hb'
    refine ⟨.take (r.map Int.toNat), 0, [], r, ⟨rfl, rfl, rfl, fun z hz => (within_iff.mp (hb'.1.2 z hz)).1, hb'.1.1.2⟩, rfl, by decide, rfl, .inl ⟨.inl rfl, ?_⟩⟩
    unfold enc1; simp
  | 1, _, hs, hb =>
    obtain ⟨e1, rfl⟩ := plain (m := 0) hs rfl
    have := nil_of e1; subst this
    exact ⟨.line, 1, [], [], ⟨rfl, rfl⟩, rfl, by decide, rfl, .inr ⟨by decide, rfl, rfl⟩⟩
  | 2, _, hs, hb =>
    obtain ⟨e1, rfl⟩ := plain (m := 0) hs rfl
    have := nil_of e1; subst this
    exact ⟨.turn, 2, [], [], ⟨rfl, rfl⟩, rfl, by decide, rfl, .inr ⟨by decide, rfl, rfl⟩⟩
  | 3, _, hs, hb =>
    obtain ⟨e1, rfl⟩ := plain (m := 0) hs rfl
    have := nil_of e1; subst this
    exact ⟨.double, 3, [], [], ⟨rfl, rfl⟩, rfl, by decide, rfl, .inr ⟨by decide, rfl, rfl⟩⟩
  | 4, _, hs, hb =>
    obtain ⟨e1, r, rfl⟩ := rowed (m := 0) hs rfl
    have := nil_of e1; subst this
    have hb' : (decide (0 ≤ r.length) && decide (r.length ≤ 10) && r.all (PyInside.within 0 4294967295) && true) = true := hb
    simp only [Bool.and_eq_true, decide_eq_true_iff, List.all_eq_true] at hb'
    refine ⟨.brings (r.map Int.toNat), 4, [], r, ⟨rfl, rfl, rfl, fun z hz => (within_iff.mp (hb'.1.2 z hz)).1, hb'.1.1.2⟩, rfl, by decide, rfl, .inl ⟨.inr rfl, ?_⟩⟩
    unfold enc1; simp
  | 5, _, hs, hb =>
    obtain ⟨e1, rfl⟩ := plain (m := 1) hs rfl
    obtain ⟨a, rfl⟩ := List.length_eq_one_iff.mp e1
    have hb' : (PyInside.within 0 4294967295 a && true && true) = true := hb
    simp only [Bool.and_eq_true] at hb'
    have := (within_iff.mp hb'.1.1).1
    exact ⟨.types a.toNat, 5, [a], [], ⟨rfl, by rw [show ((a.toNat : Nat) : Int) = a by omega]⟩, rfl, by decide, rfl, .inr ⟨by decide, rfl, rfl⟩⟩
  | 6, _, hs, hb =>
    obtain ⟨e1, rfl⟩ := plain (m := 2) hs rfl
    obtain ⟨a, b, rfl⟩ : ∃ a b, xs = [a, b] := match xs, e1 with | [a, b], _ => ⟨a, b, rfl⟩
    have hb' : ((PyInside.within 0 4294967295 a && (PyInside.within 0 4294967295 b && true)) && true) = true := hb
    simp only [Bool.and_eq_true] at hb'
    have z1 := (within_iff.mp hb'.1.1).1
    have z2 := (within_iff.mp hb'.1.2.1).1
    exact ⟨.nth a.toNat b.toNat, 6, [a, b], [], ⟨rfl, by rw [show ((a.toNat : Nat) : Int) = a by omega, show ((b.toNat : Nat) : Int) = b by omega]⟩, rfl, by decide, rfl, .inr ⟨by decide, rfl, rfl⟩⟩
  | 7, _, hs, hb =>
    obtain ⟨e1, rfl⟩ := plain (m := 0) hs rfl
    have := nil_of e1; subst this
    exact ⟨.steps, 7, [], [], ⟨rfl, rfl⟩, rfl, by decide, rfl, .inr ⟨by decide, rfl, rfl⟩⟩
  | 8, _, hs, hb =>
    obtain ⟨e1, rfl⟩ := plain (m := 0) hs rfl
    have := nil_of e1; subst this
    exact ⟨.alone, 8, [], [], ⟨rfl, rfl⟩, rfl, by decide, rfl, .inr ⟨by decide, rfl, rfl⟩⟩
  | 9, _, hs, hb =>
    obtain ⟨e1, rfl⟩ := plain (m := 1) hs rfl
    obtain ⟨a, rfl⟩ := List.length_eq_one_iff.mp e1
    have hb' : (PyInside.within 0 4294967295 a && true && true) = true := hb
    simp only [Bool.and_eq_true] at hb'
    have := (within_iff.mp hb'.1.1).1
    exact ⟨.by_ a.toNat, 9, [a], [], ⟨rfl, by rw [show ((a.toNat : Nat) : Int) = a by omega]⟩, rfl, by decide, rfl, .inr ⟨by decide, rfl, rfl⟩⟩
  | 10, _, hs, hb =>
    obtain ⟨e1, rfl⟩ := plain (m := 1) hs rfl
    obtain ⟨a, rfl⟩ := List.length_eq_one_iff.mp e1
    have hb' : (PyInside.within 0 4294967295 a && true && true) = true := hb
    simp only [Bool.and_eq_true] at hb'
    have := (within_iff.mp hb'.1.1).1
    exact ⟨.rise a.toNat, 10, [a], [], ⟨rfl, by rw [show ((a.toNat : Nat) : Int) = a by omega]⟩, rfl, by decide, rfl, .inr ⟨by decide, rfl, rfl⟩⟩
  | 11, _, hs, hb =>
    obtain ⟨e1, rfl⟩ := plain (m := 0) hs rfl
    have := nil_of e1; subst this
    exact ⟨.state, 11, [], [], ⟨rfl, rfl⟩, rfl, by decide, rfl, .inr ⟨by decide, rfl, rfl⟩⟩
  | q + 12, hq, _, _ => omega
/-- what is answered to calls, from t on -/
def playedFrom (t : List Nat) (cs : List (List (List Int))) : List Int :=
  PyFlat.told (PyFlat.played (fun s c => Su184Neutral.step s (c.headD [])) (St2 t) (cs.map PySu184.whole))
theorem played_cons {t t' : List Nat} {c : List (List Int)} {cs : List (List (List Int))} {sc : Su184.Call} {p : Nat} {nums row : List Int} (hp : Piece c sc p nums row)
    (ht : St2 t' = (Su184.step (St2 t) sc).1) : playedFrom t (c :: cs) = (((Su184.step (St2 t) sc).2.value :: nts (Su184.step (St2 t) sc).2.out).length : Int) :: ((Su184.step (St2 t) sc).2.value :: nts (Su184.step (St2 t) sc).2.out) ++ playedFrom t' cs := by
  have e : Su184Neutral.step (St2 t) ((PySu184.whole c).headD []) = ((Su184.step (St2 t) sc).1, (Su184.step (St2 t) sc).2.value :: nts (Su184.step (St2 t) sc).2.out) := by
    unfold Su184Neutral.step
    rw [hp.call]
    rfl
  unfold playedFrom
  rw [ht]
  show PyFlat.told ((Su184Neutral.step (St2 t) ((PySu184.whole c).headD [])).2 :: PyFlat.played _ (Su184Neutral.step (St2 t) ((PySu184.whole c).headD [])).1 (cs.map PySu184.whole)) = _
  rw [e]
  rfl
/-- what is asked: its calls -/
theorem asked_calls {l : List Int} (h : PySu184.answers_asked l = true) : ∃ raw, l = raw.flatMap enc1 ∧ (∀ c ∈ raw, ∃ sc p nums row, Piece c sc p nums row) ∧ PySu184.answers l = playedFrom [] raw ∧ (PySu184.answers l).length ≤ 10000000 := by
  unfold PySu184.answers_asked at h
  split at h
  · cases h
  · rename_i raw e
    simp only [Bool.and_eq_true] at h
    obtain ⟨⟨⟨⟨_, _⟩, hi⟩, _⟩, hz⟩ := h
    obtain ⟨e1, sh⟩ := calls_enc e
    refine ⟨raw, e1, fun c hc => piece (sh c hc) ?_, ?_, ?_⟩
    · unfold PyInside.calls at hi
      exact List.all_eq_true.mp hi c hc
    · unfold PySu184.answers PySu184.calls
      rw [e]; rfl
    · unfold PyFlat.short at hz
      exact of_decide_eq_true hz
end Rt

set_option maxRecDepth 100000
set_option maxHeartbeats 2000000
/-! # Rules that the layer lacks: enumerate of a tuple, len(set(xs)) of any ints, sorted of tuples of ints at any length, tuple.index of ints -/
namespace PySem
open Sem (wp)
open AutoSeq1 (wpAny_loadPart')
theorem meets_enumerate_newTup (l : Addr) (items : Array Value) (n : Nat) (dct : Option Addr) (sl : Array (Option Value)) :
    Meets (Builtin.«enumerate.__new__» ⟨[.type "enumerate", .ref l], []⟩) (fun _ R s => s.heap.get? l = some { cls := .type "tuple", dict := dct, data := .seq items n, slots := sl } ∧
      R (.ok (.ret (.ref (s.heap.push { cls := .type "tuple_iterator", data := .fields #[.ref l, .int 0 0] }).objs.size)))
        { s with heap := (s.heap.push { cls := .type "tuple_iterator", data := .fields #[.ref l, .int 0 0] }).push { cls := .type "enumerate", data := .fields #[.none, .bool false, .ref s.heap.objs.size, rawInt 0, .none, .none] } }) :=
  .of_wp fun prog w A R s h => by
    obtain ⟨hp, g, d, tk, os⟩ := s; obtain ⟨hl, h⟩ := h
    have hsub := sub_enumerate
    have hL : Heap.IsTuple (Shared.heap ⟨hp, g, d, tk, os⟩) l items := ⟨_, hl, rfl, n, rfl⟩
    wp_walk using wpAny_loadPart' hl
    refine wpAny_stack_any fun st => wpAny_pure ?_
    split
    · rename_i c _ _ _ _ _
      cases (c == Value.type "enumerate")
      · wp_walk using wpAny_loadPart' hl, wpAny_pyIter_tuple hL
        exact ⟨_, rfl, h⟩
      · wp_walk using wpAny_loadPart' hl, wpAny_pyIter_tuple hL
        exact ⟨_, rfl, h⟩
    · wp_walk using wpAny_loadPart' hl, wpAny_pyIter_tuple hL
      exact ⟨_, rfl, h⟩
theorem call_enumerate_tup {prog : Program} {w : World} {A : Around} {E : Value → Shared → Prop} {s : Shared} {l : Addr} {items : Array Value} {Q : Value → Shared → Prop} (hL : s.heap.IsTuple l items)
    (h : ∀ h', IsEnum h' (s.heap.objs.size + 1) s.heap.objs.size 0 .none → h'.IsTupleIter s.heap.objs.size l 0 → h'.objs.size = s.heap.objs.size + 2 →
      (∀ b o, s.heap.get? b = some o → h'.get? b = some o) → Q (.ref (s.heap.objs.size + 1)) { s with heap := h' }) :
    wpAny (model prog w) A (call (.type "enumerate") [.ref l]) Q E s := by
  obtain ⟨⟨c, dct, dt, sl⟩, hl, hc, n, hd⟩ := hL
  replace hc : c = .type "tuple" := hc
  replace hd : dt = .seq items n := hd
  subst hc hd
  refine callType_new F.called_enumerate (by decide) (F.typeCall_enumerate_1 _) (F.newCall_enumerate_1 _) (fun obj => F.args_object_init_2 obj _) F.entry_enumerate_new
    (meets_enumerate_newTup l items n dct sl) ⟨hl, ?_⟩
  have hz : (s.heap.push { cls := .type "tuple_iterator", data := .fields #[.ref l, .int 0 0] }).objs.size = s.heap.objs.size + 1 := Heap.size_push ..
  show _ ∧ _
  rw [hz]
  have he : IsEnum ((s.heap.push { cls := .type "tuple_iterator", data := .fields #[.ref l, .int 0 0] }).push
      { cls := .type "enumerate", data := .fields #[.none, .bool false, .ref s.heap.objs.size, rawInt 0, .none, .none] }) (s.heap.objs.size + 1) s.heap.objs.size 0 .none := by
    have := Heap.get?_push_size (s.heap.push { cls := .type "tuple_iterator", data := .fields #[.ref l, .int 0 0] })
      (o := { cls := .type "enumerate", data := .fields #[.none, .bool false, .ref s.heap.objs.size, rawInt 0, .none, .none] }) rfl
    rw [hz] at this; exact this
  refine ⟨⟨_, he, rfl⟩, h _ he ⟨_, Heap.get?_push_of_some _ (Heap.get?_push_size _ rfl), rfl, rfl⟩ (by rw [Heap.size_push, hz]) fun b o x => Heap.get?_push_of_some _ (Heap.get?_push_of_some _ x)⟩
end PySem
namespace L2
open PySem PySem.Spec PyProof.Rows
/-- the tuple at a, each item in a new pair -/
def IteT (K : PySem.W.Frag) (a : Addr) : It :=
  ⟨fun i H => ∃ (xs : List V) (x : V), SqT K H a xs ∧ xs[i]? = some x, fun i H v H' => ∃ T x, v = .ref T ∧ H T = none ∧ H' = upd H T (.tup [.int (i : Nat), x]) ∧ ∀ xs, SqT K H a xs → xs[i]? = some x, fun i H => ∃ xs : List V, SqT K H a xs ∧ xs.length ≤ i⟩
theorem turn_enumT {P : Program} {w : World} {K : PySem.W.Frag} {elts : List Expr} {kk : Nat} {tpos : Pos} (a e it : Addr) :
    Turn P w K (.Tuple elts kk tpos) (IteT K a) [e, it] e (fun i h => (∃ old, IsEnum h e it ((i : Nat) : Int) old) ∧ h.IsTupleIter it a i ∧ e ≠ it ∧ a ≠ it ∧ a ≠ e) where
  mem := by simp
  obj := fun i h st b hb => by
    obtain ⟨⟨old, he⟩, ⟨o, ho, hc, hd⟩, _⟩ := st
    have e' : b = e ∨ b = it := by simpa using hb
    rcases e' with z | z
    · rw [z]; exact ⟨_, he, fun v q => nomatch q⟩
    · rw [z]; exact ⟨o, ho, fun v q => by rw [hd] at q; cases q⟩
  keep := fun i h h' st k => let ⟨⟨old, he⟩, hi, hne⟩ := st; ⟨⟨old, k e (by simp) _ he⟩, hi.at fun o q => k it (by simp) o q, hne⟩
  item := by
    intro X hP hw hK hc i pins s σ H E I hf st hg
    subst hP hw hK
    obtain ⟨⟨old, he⟩, hit, hne, hai, hae⟩ := st
    obtain ⟨xs, x, hq, hx⟩ := hg
    obtain ⟨its, rv, p, hz⟩ := I.tuple hq
    have p : s.heap.IsTuple a its.toArray := p
    obtain ⟨u, hu, ru⟩ := rv.get hx
    have hel : e < s.heap.objs.size := Heap.lt_size he
    have hil : it < s.heap.objs.size := by obtain ⟨_, q, _⟩ := hit; exact Heap.lt_size q
    have hlt : i < its.toArray.size := by
      have := (List.getElem?_eq_some_iff.mp hu).1
      simpa using this
    refine wpAny_pyNext_enum_itemD (Draws.tuple (A := X.A.in1) (I.ok.hd hc) it a hai its.toArray) he ⟨hit, p⟩ hlt hne (fun z => ?_) fun v h' tk hv ho hit' hT hsz hk => ?_
    · rcases List.mem_cons.mp z with z | z
      · exact hne z
      · exact hae (List.mem_singleton.mp z).symm
    have ev : v = u := by
      have h1 : its.toArray[i]? = some v := hv
      have h2 : its.toArray[i]? = some u := by simpa using hu
      rw [h1] at h2
      exact Option.some.inj h2
    subst ev
    refine ⟨_, rfl, wpAny_letOwnedTupleGo_enum (s := { s with heap := h', toks := tk + 1 }) ho fun h'' he' sb => ?_⟩
    have hT2 : h''.get? s.heap.objs.size = some { cls := .type "tuple", data := .seq #[.int i tk, v] } := (sb.2 _ (Nat.ne_of_gt hel)).trans hT
    have new : ObjOk X.prog X.w (upd H s.heap.objs.size (.tup [.int (i : Nat), x])) h'' s.heap.objs.size (.tup [.int (i : Nat), x]) :=
      ⟨by show 2 ≤ sizeLine; decide, [.int i tk, v], .cons ⟨_, rfl⟩ (.cons ru .nil), ⟨_, hT2, rfl, _, rfl⟩⟩
    have I1 : Inv X pins σ (upd H s.heap.objs.size (.tup [.int (i : Nat), x])) { s with heap := h'', toks := tk + 1 } :=
      I.turnedNew (ch := [e, it]) (fun b ob hb q => (sb.2 b (fun z => hb (by simp [z]))).trans (hk b ob (fun z => hb (by simp [z])) (fun z => hb (by simp [z])) q)) hf (Nat.le_refl _) new
    refine ⟨.ref s.heap.objs.size, _, I1, rfl, ⟨_, x, rfl, I.hok.fresh (Nat.le_refl _), rfl, fun ys hy => by rw [I.tuple_inj hy hq]; exact hx⟩, ⟨⟨v, ?_⟩, hit'.1.at fun o q => (sb.2 it (Ne.symm hne)).trans q, hne, hai, hae⟩, fun b hb => ?_⟩
    · have e1 : ((i + 1 : Nat) : Int) = (i : Int) + 1 := by omega
      rw [e1]; exact he'
    · have hb' : b < s.heap.objs.size := by
        have e' : b = e ∨ b = it := by simpa using hb
        rcases e' with z | z
        · rw [z]; exact hel
        · rw [z]; exact hil
      rw [upd_ne (Nat.ne_of_lt hb')]
      exact (hf b hb).1
  done := by
    intro X hP hw hK hc i pins s σ H E I hf st hg
    subst hP hw hK
    obtain ⟨⟨old, he⟩, hit, hne, hai, hae⟩ := st
    obtain ⟨xs, hq, hx⟩ := hg
    obtain ⟨its, rv, p, hz⟩ := I.tuple hq
    have p : s.heap.IsTuple a its.toArray := p
    obtain ⟨f0, f1, f2, f3, f4, f5⟩ := hf it (by simp)
    have hl := rv.length
    have hnone : its.toArray[i]? = none := by
      have : its.length ≤ i := by omega
      simpa using this
    have hT : s.TypeIs (.ref e) "enumerate" := ⟨_, he, rfl⟩
    unfold pyNext
    refine wpAny_bind (wpAny_attempt (wpAny_callSpecial?_slot (name := Str.ofString "__next__") hT F.slot_enumerate_next
      (wpAny_call_entry F.slot_enumerate_next hT F.entry_enumerate_next ?_ (F.args_enumerate_next_1 _))))
    show wpAny _ _ (field (.ref e) 2 >>= _) _ _ _
    refine wpAny_bind (wpAny_field he rfl (x := .ref it) rfl ?_)
    refine wpAny_bind (wpAny_nextOf_tuple_end (A := X.A.in1) (I.ok.hd hc) hit p hnone fun h' x he' hx' => ?_)
    obtain ⟨o, ho, hc'⟩ := hx'
    refine wpAny_bind (wpAny_isInstance (T := "StopIteration") (b := true) ⟨o, ho, hc'⟩ isSubtype_stop ?_)
    exact wpAny_pure ⟨rfl, I.turned (t' := s.toks) (fun b o hb q => he' b o hb q) f0 f1 f3 f4 f5⟩
  self := fun A i s Q E st h => let ⟨⟨_, he⟩, _⟩ := st; wpAny_pyIter_enum he h
def iEnumT (K : PySem.W.Frag) (ta : TA) : TI := fun σ H R => ta σ H fun vs H1 => ∃ a xs, vs = [.ref a] ∧ SqT K H1 a xs ∧ R (IteT K a) H1
theorem pi_enumT {X : Cx} {e : Expr} {ta : TA} {p pos tpos : Pos} {elts : List Expr} {kk : Nat} (hg : Gl X "enumerate") (hm : X.mg "enumerate" = none) (ha : PA X [e] ta) (hs : starEach [e] X.env = [(false, eval e X.env)] := by rfl) :
    PI X (.Tuple elts kk tpos) (.Call (.Name "enumerate" p) [e] [] pos) (iEnumT X.K ta) := by
  refine ⟨fun pins s σ H R I h => ?_⟩
  refine Call_ (ld_blt I hg hm boot_enumerate (PyProof.Rows.callWith_type1 (thn (ha.run pos pins s σ H _ I h) fun us s1 ⟨vs, H1, I1, r1, q1⟩ => ?_) hs rfl))
  obtain ⟨a, xs, ex, hq, q⟩ := q1
  subst ex
  cases r1 with
  | cons r rr =>
    cases rr
    cases r
    obtain ⟨its, rv, p', hz⟩ := I1.tuple hq
    have p' : s1.heap.IsTuple a its.toArray := p'
    have hal : a < s1.heap.objs.size := by obtain ⟨_, q, _⟩ := p'; exact Heap.lt_size q
    refine call_enumerate_tup p' fun h' he hit hsz hk => wpAny_pyIter_enum he ?_
    have I2 : Inv X pins σ H1 { s1 with heap := h' } := I1.kept (t' := s1.toks) hk
    refine ⟨s1.heap.objs.size + 1, [s1.heap.objs.size + 1, s1.heap.objs.size], _, _, H1, rfl, I2, turn_enumT a (s1.heap.objs.size + 1) s1.heap.objs.size, ⟨⟨.none, he⟩, hit, Nat.succ_ne_self _, Nat.ne_of_lt hal, Nat.ne_of_lt (Nat.lt_succ_of_lt hal)⟩, fun b hb => ?_, q⟩
    have e' : b = s1.heap.objs.size + 1 ∨ b = s1.heap.objs.size := by simpa using hb
    have hle : s1.heap.objs.size ≤ b := by
      rcases e' with z | z
      · rw [z]; exact Nat.le_add_right _ _
      · rw [z]; exact Nat.le_refl _
    exact I1.fpOk hle (I1.hok.fresh hle)
/-- over a tuple that stands -/
theorem for_enumT {K : PySem.W.Frag} {a : Addr} {xs : List V} {g : TG} {tb : TS} {D : Ends} {σ : St} {H : Hp} (Pv : Nat → St → Hp → Prop) (h0 : Pv 0 σ H) (hl : ∀ i σ H, i ≤ xs.length → Pv i σ H → SqT K H a xs)
    (hs : ∀ i x T σ H, xs[i]? = some x → Pv i σ H → H T = none → g (.ref T) σ (upd H T (.tup [.int (i : Nat), x])) fun σ2 H2 => tb { D with nx := Pv (i + 1), ct := Pv (i + 1), bk := D.nx } σ2 H2) (hd : ∀ σ H, Pv xs.length σ H → D.nx σ H) :
    ∃ W : Nat → Nat → St → Hp → Prop, (∃ m, W 0 m σ H) ∧ ∀ i m σ H, W i m σ H →
      ((IteT K a).stop i H ∧ D.nx σ H) ∨ ((IteT K a).go i H ∧ ∃ N : St → Hp → Prop, (∀ σ' H', N σ' H' → ∃ m', m' < m ∧ W (i + 1) m' σ' H') ∧ ∀ x H', (IteT K a).yld i H x H' → g x σ H' fun σ2 H2 => tb { D with nx := N, ct := N, bk := D.nx } σ2 H2) := by
  refine ⟨fun i m σ H => m = xs.length - i ∧ i ≤ xs.length ∧ Pv i σ H, ⟨xs.length, by simp, Nat.zero_le _, h0⟩, ?_⟩
  rintro i m σ H ⟨rfl, hi, p⟩
  have q := hl i σ H hi p
  by_cases hlt : i < xs.length
  · refine .inr ⟨⟨xs, xs[i], q, by simp [hlt]⟩, Pv (i + 1), fun σ' H' p' => ⟨xs.length - (i + 1), by omega, rfl, hlt, p'⟩, fun x H' y => ?_⟩
    obtain ⟨T, x', e1, hT, e2, y⟩ := y
    subst e1 e2
    exact hs i x' T σ H (y xs q) p hT
  · have e : i = xs.length := by omega
    subst e
    exact .inl ⟨⟨xs, q, Nat.le_refl _⟩, hd σ H p⟩
/-! ### len(set(xs)) of any ints -/
def tLenSetA (K : PySem.W.Frag) (ta : TE) : TE := fun σ H Q => ta σ H fun x H1 => ∃ (l : Addr) (ns : List Int), x = .ref l ∧ SqL K H1 l (ns.map V.int) ∧ ns.length ≤ 4000 ∧ Q (.int ((PyProof.Rows.firstMet (fun i => ns.getD i 0) ns.length).length : Nat)) H1
theorem pe_lenSetA {X : Cx} {a : Expr} {ta : TE} {p p2 q pos : Pos} (hg : Gl X "len") (hm : X.mg "len" = none) (hg2 : Gl X "set") (hm2 : X.mg "set" = none) (ha : PE X a ta) (hc : X.calm = true := by rfl)
    (na : starEach [a] X.env = (false, eval a X.env) :: starEach [] X.env := by rfl) : PE X (.Call (.Name "len" p) [.Call (.Name "set" p2) [a] [] q] [] pos) (tLenSetA X.K ta) := by
  refine ⟨fun pins s σ H Q I h => ?_⟩
  refine Call_ (ld_blt I hg hm boot_len ?_)
  refine PyProof.Rows.callWith_builtin1 (PyProof.Rows.args_cons ?_ rfl) rfl rfl
  refine Call_ (ld_blt I hg2 hm2 boot_set ?_)
  refine PyProof.Rows.callWith_type1 (PyProof.Rows.args_cons (thn (ha.run pins s σ H _ I h) fun v s1 ⟨x, H1, I1, r1, q1⟩ => PyProof.Rows.args_nil ?_) na) na rfl
  obtain ⟨l, ns, rfl, hq, hl, q1⟩ := q1
  cases r1
  obtain ⟨its, r, pl, hz⟩ := I1.list hq
  have hlen : its.toArray.size = ns.length := by rw [List.size_toArray, ← r.length, List.length_map]
  refine call_set_list (I1.ok.hd hc) pl.isList (by simpa using RZ.intsAre_vals r) (by rw [hlen]; unfold scanBound; omega) fun h' tk hS hk => ?_
  refine PyProof.Rows.args_nil ?_
  rw [hlen] at hS
  obtain ⟨o, es, ep, t, ho, hex, hd, _, _, _, hf, hn⟩ := hS
  have hm4 := PyProof.Rows.firstMet_length_le (fun i => ns.getD i 0) ns.length
  have I2 : Inv X pins σ H1 { s1 with heap := h', toks := tk } := I1.kept fun b o e => hk b o (Heap.lt_size e) e
  exact call_len_set ho hex hd hf (by rw [hn] <;> omega) ⟨.int ((PyProof.Rows.firstMet (fun i => ns.getD i 0) ns.length).length : Nat), H1, I2.tok _, ⟨_, by rw [hn]⟩, q1⟩
/-! ### sorted of tuples of ints -/
/-- a tuple of ints at an address -/
abbrev encT (p : Addr × List Int) : PyData := .tuple (p.2.map .int)
def rSortedTups (K : PySem.W.Frag) : List V → Hp → VK → Prop := fun vs H Q => ∃ (a : Addr) (L : List (Addr × List Int)), vs = [V.ref a] ∧ SqL K H a (L.map fun p => V.ref p.1) ∧ (∀ p ∈ L, SqT K H p.1 (p.2.map V.int) ∧ p.2 ≠ []) ∧
  ∀ l, H l = none → Q (.ref l) (upd H l (.lst ((L.mergeSort fun p q => decide (p.2 ≤ q.2)).map fun p => V.ref p.1)))
theorem readsAll_ints {ns : List Int} : ∀ {us : List Value}, Vals (ns.map V.int) us → ∀ h : Heap, ReadsAll h us (ns.map PyData.int) [] := by
  induction ns with
  | nil => intro us r h; cases r; exact .nil
  | cons n ns ih =>
    intro us r h
    cases r with
    | cons r1 r2 =>
      obtain ⟨t, rfl⟩ := r1
      exact .cons (as := []) (bs := []) (.int n t) (ih r2 h)
theorem dataLe_tups : PySem.W.dataLe false (fun b : Addr × List Int => encT b) = fun p q => decide (p.2 ≤ q.2) := by
  funext p q
  show (!PySem.W.dataLt (.tuple (q.2.map .int)) (.tuple (p.2.map .int))) = _
  rw [PySem.W.dataLt_tuple]
  show (!PySem.W.rowLt (q.2.map .int) (p.2.map .int)) = _
  rw [PySem.W.dataLt_ints]
  by_cases h : q.2 < p.2
  · have h' : ¬ p.2 ≤ q.2 := fun r => List.not_lt.mpr r h
    simp [h, h']
  · have h' : p.2 ≤ q.2 := List.not_lt.mp h
    simp [h, h']
theorem cr_sortedTups {X : Cx} (hu : X.A.units + 64 < cLine) : CallR X (.builtin "sorted") (rSortedTups X.K) := by
  intro pins s σ H vs us Q I r h
  obtain ⟨a, L, rfl, hs, hx, q⟩ := h
  obtain ⟨its, rv, hl, hz⟩ := I.list hs
  obtain ⟨u, rfl, ru⟩ := vals1 r
  obtain rfl : u = Value.ref a := ru
  have e : PySem.W.EachIs (fun (v : Value) (b : Addr × List Int) => v = Value.ref b.1) its L := by
    clear hx q hl hz hs
    induction L generalizing its with
    | nil => cases rv; exact .nil
    | cons p L ih =>
      cases rv with
      | cons r1 r2 => exact .cons r1 (ih _ r2)
  have er : PySem.W.EachIs (fun v b => ∃ as, Reads s.heap v (encT b) as) its L := by
    clear q hl hz hs rv
    induction e with
    | nil => exact .nil
    | @cons v b vs bs h1 t ih =>
      refine .cons ?_ (ih fun p hp => hx p (List.mem_cons_of_mem _ hp))
      obtain ⟨itb, rb, ⟨o, ho, hc, n, hd⟩, _⟩ := I.tuple (hx b List.mem_cons_self).1
      rw [h1]
      exact ⟨_, .tuple ho hc hd (readsAll_ints rb s.heap)⟩
  have hlen : its.length = L.length := e.length
  refine PySem.W.sorted_data (enc := encT) hl.isList e er (PySem.W.AllAlike.of fun b b' => ?_) (.inl fun d hd => ?_) (by rw [List.length_map] at hz; exact hz) (fun b hb => ?_) fun out ho hR => ?_
  · show PySem.W.alike (.tuple (b.2.map .int)) (.tuple (b'.2.map .int)) = true
    simp only [PySem.W.alike]
    exact PySem.W.alike_ints _ _
  · obtain ⟨b, hb, rfl⟩ := List.mem_map.mp hd
    have := (hx b hb).2
    cases hb2 : b.2 with
    | nil => exact absurd hb2 this
    | cons x t => exact ⟨.int x, t.map .int, by simp [encT, hb2]⟩
  · have : (encT b).depth = 1 := by
      show PyData.depth (.tuple (b.2.map .int)) = 1
      simp only [PyData.depth]
      rw [PySem.W.depth_ints]
    rw [this]; omega
  · rw [dataLe_tups] at hR
    obtain ⟨n, hn⟩ := PyProof.Rows.sortedAll_at s.heap its (List.toArray out)
    have kp : ∀ b o, s.heap.get? b = some o → (PyProof.Rows.sortedAll s.heap its (List.toArray out)).get? b = some o := fun b o q => PyProof.Rows.sortedAll_old q
    have rvo : Vals ((L.mergeSort fun p q => decide (p.2 ≤ q.2)).map fun p => V.ref p.1) out := by
      clear ho hn kp
      generalize (L.mergeSort fun p q => decide (p.2 ≤ q.2)) = M at hR
      induction hR with
      | nil => exact .nil
      | cons h1 t ih => exact .cons h1 ih
    refine ⟨.ref (s.heap.objs.size + 1), upd H (s.heap.objs.size + 1) (.lst ((L.mergeSort fun p q => decide (p.2 ≤ q.2)).map fun p => V.ref p.1)), I.laid (t' := s.toks) kp (Nat.le_succ _) ⟨?_, out, n, rvo, hn⟩, rfl, q _ (I.hok.fresh (Nat.le_succ _))⟩
    rw [List.length_map, List.length_mergeSort]
    rw [List.length_map] at hz
    exact hz
/-! ### t.index(n), ints -/
theorem mt_tup_indexI {X : Cx} : MtR X "tuple.index" (fun x xs H Q => ∃ p, ∃ ys : List Int, ∃ z j, x = .ref p ∧ xs = [.int z] ∧ SqT X.K H p (ys.map V.int) ∧ ys[j]? = some z ∧ (∀ m, m < j → ys[m]? ≠ some z) ∧ Q (.int (j : Nat)) H) := by
  intro pins s σ H x xs v us Q I rx rs h
  obtain ⟨p, ys, z, j, rfl, rfl, hq, hy, hno, q⟩ := h
  cases rx
  obtain ⟨u, rfl, t, rfl⟩ := vals1 rs
  obtain ⟨its, r, pl, hz⟩ := I.tuple hq
  obtain ⟨⟨cls, dd, dt, sl⟩, ho, hc, n, hd⟩ := pl
  simp only at hc hd
  subst hc
  subst hd
  have hl : its.toArray.size = ys.length := by rw [List.size_toArray, ← r.length, List.length_map]
  have hj : j < its.toArray.size := by rw [hl]; exact (List.getElem?_eq_some_iff.mp hy).1
  have at' : ∀ (m : Nat) (hm : m < its.toArray.size), ∃ y t', ys[m]? = some y ∧ its.toArray[m] = Value.int y t' := fun m hm => by
    have hm' : m < ys.length := by rw [← hl]; exact hm
    obtain ⟨w, hw, t', hw'⟩ := r.get (i := m) (x := .int ys[m]) (by simp [hm'])
    refine ⟨ys[m], t', List.getElem?_eq_getElem hm', ?_⟩
    have e := (List.getElem?_eq_some_iff.mp hw).2
    rw [← hw', ← e]
    simp
  have fl : (ys.map V.int).all flatV = true := by
    rw [List.all_eq_true]
    intro x hx
    obtain ⟨y, _, rfl⟩ := List.mem_map.mp hx
    rfl
  refine call_meets PySem.F.slot_tuple_index ⟨_, ho, rfl⟩ PySem.F.entry_tuple_index (PySem.F.args_tuple_index_2 _ _) (TI.tuple_indexAt p its.toArray n dd sl (.int z t) (eqU (.int z)) j hj ?_ ?_)
    ⟨ho, fun w hw => mem_eqAt (x := .int z) ⟨t, rfl⟩ rfl r fl w (by simpa using hw), ⟨.int (j : Nat), H, I.tok _, ⟨_, rfl⟩, q⟩⟩
  · obtain ⟨y, t', h1, h2⟩ := at' j hj
    rw [hy] at h1
    cases h1
    rw [h2]
    show (z == z) = true
    exact beq_self_eq_true z
  · intro m hm hmj
    obtain ⟨y, t', h1, h2⟩ := at' m hm
    rw [h2]
    show (y == z) = false
    exact beq_eq_false_iff_ne.mpr fun e => hno m hmj (e ▸ h1)
end L2

set_option maxRecDepth 100000
set_option maxHeartbeats 2000000
/-! # The program's own error, made, raised, read (a worked proof's block, turned to Refused and its number) -/
namespace PySem
namespace LowX
open PySem.W PySem.Calls PyProof.Rows PySem.HandSPX
/-! ### the text of __init__ -/
def iA (p1 p2 : Pos) : Arguments := { posonlyargs := [], args := [{ arg := "self", annotation := none, pos := p1 }, { arg := "number", annotation := none, pos := p2 }], vararg := none, kwonlyargs := [], kw_defaults := [], kwarg := none, defaults := [] }
def iB (q1 q2 q3 q4 : Pos) : List Stmt := [.Assign [.Attribute (.Name "self" q1) "number" q2] (.Name "number" q3) q4]
def iS : Scope := { kind := .function, names := [(PySem.Str.ofString "self", .local), (PySem.Str.ofString "number", .local)], isGenerator := false, isCoroutine := false, more := [] }
/-- what the written part says of Low, at C, and of its __init__, at fI -/
structure LowTxt (K : Frag) (mg : Str → Option Value) (C fI : Addr) : Prop where
  gC : mg "Refused" = some (.ref C)
  cls : ∃ nm q N bs bm sn sub ab col dd k0 k1 k2 k3 k5, K.lookup C = some (excClassObj nm q C N bs bm true sn sub ab col dd k0 k1 k2 k3 k5 "ValueError.__new__") ∧ refsVE bm = true
  sa : findIn K (.ref C) "__setattr__" = some (some (.builtin "object.__setattr__"))
  ga : findIn K (.ref C) "__getattribute__" = some (some (.builtin "BaseException.__getattribute__"))
  gg : findIn K (.ref C) "__getattr__" = some none
  noN : findIn K (.ref C) "number" = some none
  iC : findIn K (.ref C) "__init__" = some (some (.ref fI))
  tC : typeIn K (.ref fI) = some (.type "function")
  kC : keepIn K (.ref C) = true
  exC : subIn K (.ref C) (.type "BaseException") = some true
  tyC : typeIn K (.ref C) = some (.type "type")
  hdC : hasDictIn K C = true
  te : exmOne K (.ref C) (.ref C) = some true
  fn : ∃ (oc : Value) (od : Option Addr) (doc pm : Value) (an : Option Addr) (cdv ct : Value) (osl : Array (Option Value)) (p1 p2 q1 q2 q3 q4 : Pos),
    K.lookup fI = some ⟨oc, od, .func (fnOf "__init__" "Refused.__init__" (iA p1 p2) (iB q1 q2 q3 q4) iS .none .none doc pm an cdv ct), osl⟩ ∧ codeIn K cdv "Refused.__init__" = true
theorem one_size (v : Value) : [v].length ≤ sizeLine := by
  rw [sizeLine_eq]
  exact (by decide : 1 ≤ 16777216)
theorem kept_but {K : Frag} {h h' : Heap} {x : Addr} (X : K.In h) (hx : K.lookup x = none) (k : ∀ b o, b ≠ x → h.get? b = some o → h'.get? b = some o) : K.In h' := fun a o e =>
  k a o (fun z => by rw [z, hx] at e; cases e) (X a o e)
theorem ldC {M : Model} {s : Shared} {name : Str} {scope : Scope} {L a : Addr} {cd : Value} {m : Str → Option Value} {x : Str} {pos : Pos} {v : Value} {Q : Value → Shared → Prop} {A : Around} {E : Value → Shared → Prop} (hn : s.heap.Ns L m) (hv : m x = some v) (h : Q v s)
    (hk : scope.kind = .function := by rfl) (hl : (envOfC name scope L a cd).kindOf x = some .local := by rfl) (hd : (x == ("__debug__" : Str)) = false := by decide) :
    wpAny M A (eval (.Name x pos) (envOfC name scope L a cd)) Q E s := wpAny_Name (wpAny_loadName_local hk hl hn hv h) hd
/-- what __init__ leaves of a fresh exception at x -/
structure InitEnd (h h' : Heap) (x C dx t1 : Addr) (v : Value) : Prop where
  keep : ∀ b o, b ≠ x → h.get? b = some o → h'.get? b = some o
  obj : h'.get? x = some { cls := .ref C, dict := some dx, data := .fields #[.ref t1, .none, .none, .none, .bool false, .none] }
  dbig : h.objs.size ≤ dx
  dne : dx ≠ x
  ns : h'.Ns1 dx (fun y => if y = "number" then some v else none)
/-- a made Low -/
structure OwnMade (h h' : Heap) (e C d : Addr) (v : Value) : Prop where
  keep : ∀ b o, h.get? b = some o → h'.get? b = some o
  new : h.objs.size ≤ e
  obj : ∃ oe vs, h'.get? e = some oe ∧ oe.cls = .ref C ∧ oe.dict = some d ∧ oe.data = .fields vs ∧ vs[1]? = some .none
  dbig : h.objs.size ≤ d
  dne : d ≠ e
  ns : h'.Ns1 d (fun y => if y = "number" then some v else none)
section
variable {prog : Program} {w : World} {A : Around} {E : Value → Shared → Prop} {R : Result → Shared → Prop} {s : Shared} {K : Frag} {mg : Str → Option Value} {C fI : Addr}
theorem low_init (T : LowTxt K mg C fI) {x t0 : Addr} {v : Value} (X : K.In s.heap) (hlim : s.heap.NoLimit) (hx : s.heap.get? x = some (excO C t0)) (hnx : K.lookup x = none) (hroom : A.depth < recursionLimit)
    (hq : ∀ h' tk dx, InitEnd s.heap h' x C dx t0 v → R (.ok (.ret .none)) { s with heap := h', toks := tk }) :
    codeAny (model prog w) A (.call (.ref fI) ⟨[.ref x, v], []⟩) R s := by
  obtain ⟨oc, od, doc, pm, an, cdv, ct, osl, p1, p2, q1, q2, q3, q4, ho, hcd⟩ := T.fn
  obtain ⟨nm, q, N, bs, bm, sn, sub, ab, col, dd, k0, k1, k2, k3, k5, hC, hbm⟩ := T.cls
  have hcl : clsIn K C = some { name := nm, bases := bs, mro := .ref C :: bm, ns := N, qualname := q, hasDict := true, slotNames := sn, subclasses := sub, abstract := ab, collection := col, hasDel := false } := by unfold clsIn; rw [hC] <;> rfl
  refine Att.call_fn (binds := [("self", .ref x), ("number", v)]) X hlim ho hcd hroom (BindsTo.of_eq (by first | rfl | with_unfolding_all rfl)) (by first | rfl | decide | with_unfolding_all rfl) (fun s₁ IC => ?_) rfl rfl rfl
  obtain ⟨h₁, tk₁, rfl⟩ := IC.toInCall.same
  have k : ∀ b o, s.heap.get? b = some o → h₁.get? b = some o := IC.toInCall.keep
  have hn := IC.toInCall.ns
  have hxL : s.heap.objs.size ≠ x := Nat.ne_of_gt (Heap.lt_size hx)
  have X₁ : K.In h₁ := X.keeps k
  have hx₁ := k _ _ hx
  -- self.by = by
  show wpAny _ _ (execs _ _) _ _ _
  refine wpAny_execs_cons (plainObj_wpAny_Assign_Attribute ?_)
  refine ldC (v := v) hn (by first | rfl | with_unfolding_all rfl | kernel_rfl) (ldC (v := .ref x) hn (by first | rfl | with_unfolding_all rfl | kernel_rfl) ?_)
  refine set_plain X₁ (ox := excO C t0) (od := none) ⟨hx₁, rfl, rfl, trivial⟩ T.sa ?_
  refine exc_osa X₁ hx₁ hcl (show refsVE (.ref C :: bm) = true from hbm) rfl T.noN (fun h₃ tk₃ dx k₃ dn dne hx₃ hn₃ => ?_)
  show wpAny _ _ (execs _ _) _ _ _
  have z : s.heap.objs.size < h₁.objs.size := hn.lt
  exact wpAny_execs_nil (hq h₃ tk₃ dx ⟨fun b o hb e => k₃ b o hb (k b o e), hx₃, Nat.le_of_lt (Nat.lt_of_lt_of_le z dn), dne, hn₃⟩)
theorem low_made (T : LowTxt K mg C fI) {v : Value} (X : K.In s.heap) (hlim : s.heap.NoLimit) (hroom : A.depth + 1 < recursionLimit)
    (hq : ∀ h' tk e d, OwnMade s.heap h' e C d v → R (.ok (.ret (.ref e))) { s with heap := h', toks := tk }) :
    codeAny (model prog w) A (.call (.ref C) ⟨[v], []⟩) R s := by
  obtain ⟨nm, q, N, bs, bm, sn, sub, ab, col, dd, k0, k1, k2, k3, k5, hC, hbm⟩ := T.cls
  obtain ⟨hp, g, dr, tk, os⟩ := s
  have k : ∀ b o, hp.get? b = some o → ((hp.push (kdv_tup [v])).push (excO C hp.objs.size)).get? b = some o := fun b o e => Heap.get?_push_of_some _ (Heap.get?_push_of_some _ e)
  have hget : ((hp.push (kdv_tup [v])).push (excO C hp.objs.size)).get? (hp.objs.size + 1) = some (excO C hp.objs.size) := by heap_get
  have hnx : K.lookup (hp.objs.size + 1) = none := by
    cases e : K.lookup (hp.objs.size + 1) with
    | none => rfl
    | some o =>
      have z : hp.get? (hp.objs.size + 1) = some o := X _ _ e
      exact absurd (Nat.lt_of_succ_lt (Heap.lt_size z)) (Nat.lt_irrefl _)
  refine call_own F.excBase_ValueError (fun X => refsVE_contains X bm hbm) (X _ _ hC) (looks_findIn X T.iC) (fun self => bind_fn X self T.tC) (one_size v) ?_
  refine low_init (s := ⟨(hp.push (kdv_tup [v])).push (excO C hp.objs.size), g, dr, tk, os⟩) T (X.keeps k) (hlim.keeps k) hget hnx ?_ fun h' tk' dx ⟨k', hx, dn, dne, hns⟩ => ?_
  · show A.depth + 1 < recursionLimit
    exact hroom
  · have old : ∀ b o, hp.get? b = some o → h'.get? b = some o := fun b o e => k' b o (Nat.ne_of_lt (Nat.lt_succ_of_lt (Heap.lt_size e))) (k b o e)
    have z : hp.objs.size + 1 + 1 ≤ dx := by
      first
        | (simpa only [Heap.size_push] using dn)
        | exact dn
        | (have q := dn; rw [Heap.size_push, Heap.size_push] at q; exact q)
    exact ⟨rfl, hq h' tk' (hp.objs.size + 1) dx ⟨old, Nat.le_succ _, ⟨_, _, hx, rfl, rfl, rfl, rfl⟩, Nat.le_trans (Nat.le_trans (Nat.le_succ _) (Nat.le_succ _)) z, dne, hns⟩⟩
end
end LowX
end PySem
namespace L2
open PySem PySem.Spec PyProof.Rows
theorem relO_low {v : V} {v' : Value} (r : RelV v v') (f : Str) : RelO (List.lookup f [(("number" : Str), v)]) (if f = "number" then some v' else none) := by
  by_cases hw : f = "number"
  · subst hw
    rw [if_pos rfl]
    have q : List.lookup ("number" : Str) [(("number" : Str), v)] = some v := by simp [List.lookup]
    rw [q]
    exact r
  · rw [if_neg hw]
    have qw : (f == ("number" : Str)) = false := by simpa using hw
    have q2 : List.lookup f [(("number" : Str), v)] = none := by simp [List.lookup, qw]
    rw [q2]
    trivial
section
variable {X : Cx} {C fI : Addr}
/-- Low(e) -/
def tMkLow (C : Addr) (ta : TA) : St → Hp → XK → Prop := fun σ H Q => ta σ H fun vs H1 => ∃ v, vs = [v] ∧ ∀ d, H1 d = none → Q (.ref C) (some d) (upd H1 d (.xd [(("number" : Str), v)]))
theorem pmk_low {a : Expr} {ta : TA} {p pos : Pos} {k : Nat} (T : PySem.LowX.LowTxt X.K X.mg C fI) (hr : Room k X.A) (ha : PA X [a] ta) (hg : Gl X "Refused" := by rfl)
    (he : starEach (a :: []) X.env = (false, eval a X.env) :: starEach [] X.env := by rfl) (hpl : (backTo pos (starEach [] X.env)).any (·.1) = false := by rfl) :
    PMk X (.Call (.Name "Refused" p) [a] [] pos) (tMkLow C ta) := by
  intro pins s σ H Q I h
  refine wpAny_Call_Name_kw (ld_glob I hg T.gC ?_)
  refine PySem.W.callWith_K (h₀ := X.base) I.ok.mod.kin T.kC (thn (ha.run pos pins s σ H _ I h) fun us s1 hh => ?_) he hpl
  obtain ⟨vs, H1, I1, r1, v, ev, q1⟩ := hh
  subst ev
  refine ⟨I1.kIn, ?_⟩
  cases r1 with
  | cons rv rn =>
    rename_i v' us'
    cases rn
    show wpAny _ _ (call (.ref C) [v']) _ _ _
    have hlim := I1.nolimit
    obtain ⟨hp, g, dr, tk, os⟩ := s1
    refine wpAny_call (PySem.LowX.low_made T I1.kIn hlim (by have := hr.dp; omega) fun h' tk' e d M => ?_)
    show MkP X pins σ Q (.ref e) ⟨h', g, dr, tk', os⟩
    obtain ⟨oe, fv, hoe, hc, hd, hdat, h1⟩ := M.obj
    have hns := M.ns
    obtain ⟨G', g1, g2⟩ := restrict h' fun b => decide (b ≠ e)
    have gk : ∀ b, b ≠ e → G'.get? b = h'.get? b := fun b hb => g1 b (decide_eq_true hb)
    have ge : G'.get? e = none := g2 e (by simp)
    have old : ∀ b o, hp.get? b = some o → G'.get? b = some o := fun b o q => (gk b (Nat.ne_of_lt (Nat.lt_of_lt_of_le (Heap.lt_size q) M.new))).trans (M.keep b o q)
    have ob : ObjOk X.prog X.w (upd H1 d (.xd [(("number" : Str), v)])) G' d (.xd [(("number" : Str), v)]) :=
      ⟨_, hns.at (fun o q => (gk d M.dne).trans q), fun f => relO_low rv f⟩
    have J : Inv X pins σ (upd H1 d (.xd [(("number" : Str), v)])) ⟨G', g, dr, tk', os⟩ := I1.laid (t' := tk') old M.dbig ob
    refine ⟨e, oe, fv, ⟨G', g, dr, tk', os⟩, _, .ref C, some d, rfl, J, fun b o q => ?_, ge, hoe, ⟨hc, hd⟩, hdat, h1, ?_, rfl, I1.bare, raises_own T.exC T.tyC, q1 d (I1.hok.fresh M.dbig)⟩
    · by_cases hb : b = e
      · have q' : G'.get? b = some o := q
        rw [hb, ge] at q'; cases q'
      · exact (gk b hb).symm.trans q
    · rw [upd_ne (Ne.symm M.dne)]
      exact I1.hok.fresh M.new
/-- raise Low(e) -/
def tRaiseLow (C : Addr) (W : WX) (ta : TA) : TS := fun _ σ H => tMkLow C ta σ H fun cls d H' => W cls d σ H'
theorem ps_raiseLow {a : Expr} {ta : TA} {W : WX} {p pos pos2 : Pos} {k : Nat} (hc : X.calm = true) (T : PySem.LowX.LowTxt X.K X.mg C fI) (hr : Room k X.A) (tk : Takes X W) (ha : PA X [a] ta) (hg : Gl X "Refused" := by rfl)
    (he : starEach (a :: []) X.env = (false, eval a X.env) :: starEach [] X.env := by rfl) (hpl : (backTo pos (starEach [] X.env)).any (·.1) = false := by rfl) :
    PS X (.Raise (some (.Call (.Name "Refused" p) [a] [] pos)) none pos2) (tRaiseLow C W ta) := ps_raise hc tk (pmk_low T hr ha hg he hpl)
/-- low.by, low the exception that the suite holds (at a; its class cls, its dict d) -/
def tByLow (C : Addr) (a : Addr) (cls : Value) (d : Option Addr) (te : TE) : TE := fun σ H Q => te σ H fun x H1 => x = .ref a ∧ cls = .ref C ∧ ∃ (dd : Addr) (v : V), d = some dd ∧ H1 dd = some (.xd [(("number" : Str), v)]) ∧ Q v H1
theorem pe_byLow {a : Addr} {oe : Obj} {cls : Value} {d : Option Addr} {pn : List (Addr × Obj)} {e : Expr} {te : TE} {pos : Pos} (T : PySem.LowX.LowTxt X.K X.mg C fI) (hz : Zc cls d oe) (hf : ∃ vs, oe.data = .fields vs) (he : PE (X.suite a ((a, oe) :: pn)) e te)
    (hb : attributeBase e "number" X.env (eval e X.env) = eval e X.env := by rfl) :
    PE (X.suite a ((a, oe) :: pn)) (.Attribute e "number" pos) (tByLow C a cls d te) := by
  refine ⟨fun pins s σ H Q I h => ?_⟩
  refine attr_of hb (thn (he.run pins s σ H _ I h) fun u s1 hh => ?_)
  obtain ⟨x, H1, I1, rx, ex, ec, dd, v, ed, ea, q⟩ := hh
  subst ex
  obtain rfl : u = Value.ref a := rx
  subst ec
  subst ed
  obtain ⟨ha, _⟩ := I1.pin (a, oe) (List.mem_append_left _ List.mem_cons_self)
  obtain ⟨vs, hd⟩ := hf
  have hx : ObjOk X.prog X.w H1 s1.heap dd (.xd [(("number" : Str), v)]) := I1.hok dd _ ea
  obtain ⟨mA, hns, hr⟩ := hx
  obtain ⟨od, ho, hl⟩ := lookIn_ns hns
  have l : List.lookup ("number" : Str) [(("number" : Str), v)] = some v := by simp [List.lookup]
  obtain ⟨u, hu, ru⟩ := RelO.some_of (v := v) (o := mA "number") (by rw [← l]; exact hr "number")
  have J : PySem.W.InstAt s1.heap a oe C (some od) := ⟨ha, hz.1, by unfold PySem.W.notCls; rw [hd] <;> rfl, by rw [hz.2]; exact ho⟩
  exact HandSPX.exc_get I1.kIn J T.ga T.gg T.exC (PySem.W.findObj_own T.hdC T.noN rfl (by rw [hl, hu])) (handed_of ru) ⟨v, H1, I1.tok _, ru, q⟩
end
end L2

namespace L2
open PySem PySem.Spec PyProof.Rows
/-- an if whose test is known -/
theorem if_true_of {c : Bool} {A B : Prop} (hc : c = true) (h : A) : if c = true then A else B := by
  rw [if_pos hc]
  exact h
theorem if_false_of {c : Bool} {A B : Prop} (hc : c = false) (h : B) : if c = true then A else B := by
  rw [hc, if_neg Bool.false_ne_true]
  exact h
end L2
namespace L2
open PySem PySem.Spec PyProof.Rows
/-- an error of the class at S is what «except S» names -/
theorem exm_self {K : PySem.W.Frag} {S : Addr} (h1 : PySem.W.subIn K (.ref S) (.type "BaseException") = some true) (h2 : PySem.W.isClsIn K S = true) (h3 : PySem.W.typeIn K (.ref S) = some (.type "type")) (h4 : PySem.W.subIn K (.ref S) (.ref S) = some true) :
    PySem.W.exmOne K (.ref S) (.ref S) = some true := by
  have e1 : (PySem.W.subIn K (.ref S) (.type "BaseException") == some true) = true := by rw [h1] <;> rfl
  have e2 : ((PySem.W.clsIn K S).isSome && PySem.W.typeIn K (.ref S) == some (.type "type")) = true := by
    have h2' : (PySem.W.clsIn K S).isSome = true := h2
    rw [h2', h3] <;> rfl
  show (if (PySem.W.subIn K (.ref S) (.type "BaseException") == some true) = true then (if ((PySem.W.clsIn K S).isSome && PySem.W.typeIn K (.ref S) == some (.type "type")) = true then PySem.W.subIn K (.ref S) (.ref S) else none) else none) = some true
  rw [if_pos e1, if_pos e2]
  exact h4
end L2

set_option maxRecDepth 100000
set_option maxHeartbeats 2000000
/-! # A tuple's own method: the tuple is held with its object, then let go -/
namespace L2
open PySem PySem.Spec PyProof.Rows
section
variable {X : Cx}
/-- a tuple held with its object, which has no dict of its own -/
def FrzT (H : Hp) (a : Addr) (xs : List V) : Prop := ∃ o : Obj, H a = some (.frz o (.tup xs)) ∧ o.dict = none
theorem FrzT.seq {K : PySem.W.Frag} {H : Hp} {a : Addr} {xs : List V} (h : FrzT H a xs) : SqT K H a xs := let ⟨o, e, _⟩ := h; .inl (.inr ⟨o, e⟩)
theorem FrzT.same {H H' : Hp} {a : Addr} {xs : List V} (h : FrzT H a xs) (k : Same H H') : FrzT H' a xs := let ⟨o, e, d⟩ := h; ⟨o, k _ _ e, d⟩
/-- tuple(a list): a new tuple, held -/
theorem call_tuple_frz : CallR X (.type "tuple") (fun xs H Q => ∃ p ys, xs = [.ref p] ∧ SqL X.K H p ys ∧ ∀ l o, H l = none → o.dict = none → Q (.ref l) (upd H l (.frz o (.tup ys)))) := by
  intro pins s σ H xs us Q I r h
  obtain ⟨p, ys, rfl, hq, q⟩ := h
  obtain ⟨u, rfl, rx⟩ := vals1 r
  cases rx
  obtain ⟨its, r', pl, hz⟩ := I.list hq
  have hlen := r'.length
  refine call_tuple_list pl.isList (fun h' kp => ?_) (by simp only [List.size_toArray] <;> omega)
  have I1 : Inv X pins σ H { s with heap := h' } := I.kept (t' := s.toks) kp
  have I2 : Inv X pins σ (upd H h'.objs.size (.frz { cls := .type "tuple", data := .seq its.toArray } (.tup ys))) { s with heap := h'.push { cls := .type "tuple", data := .seq its.toArray } } :=
    I1.laid (t' := s.toks) (fun b o e => Heap.get?_push_of_some _ e) (Nat.le_refl _) (show ObjOk X.prog X.w _ _ _ (.frz _ (.tup ys)) from ⟨Heap.get?_push_size _ rfl, hz, its, r', IsTup.new _ _⟩)
  exact ⟨.ref h'.objs.size, _, I2, rfl, q _ _ (I1.hok.fresh (Nat.le_refl _)) rfl⟩
def tBMT (r : V → List V → Hp → VK → Prop) (to : TE) (t : TA) : TE := fun σ H Q => to σ H fun x H1 => (∃ a xs, x = .ref a ∧ FrzT H1 a xs) ∧ t σ H1 fun xs H2 => r x xs H2 Q
theorem pe_bmT {o e : Expr} {es : List Expr} {to : TE} {t : TA} {name : Str} {apos cpos : Pos} {id : String} {r : V → List V → Hp → VK → Prop} (pa : PlainAttrs "tuple") (slot : Slot "tuple" name id) (hty : typeOf (.builtin id) = pure (.type "method_descriptor")) (hm : MtR X id r) (ho : PE X o to) (ha : PA X (e :: es) t)
    (hbase : attributeBase o name X.env (eval o X.env) = eval o X.env := by rfl)
    (hfew : ((backTo cpos (starEach (e :: es) X.env)).all (fun x => !x.1) && (backToKw cpos (keywordEach [] X.env)).all (fun x => x.1.isSome)
      && decide ((e :: es).length + ([] : List Keyword).length + (if ([] : List Keyword).isEmpty then 0 else 1) < 30)) = true := by rfl)
    (hline : (apos.endLine == cpos.line) = true := by rfl) (hs : starEach (e :: es) X.env = (false, eval e X.env) :: starEach es X.env := by rfl) (hplain : (backTo cpos (starEach es X.env)).any (·.1) = false := by rfl) :
    PE X (.Call (.Attribute o name apos) (e :: es) [] cpos) (tBMT r to t) := by
  refine ⟨fun pins s σ H Q I h => ?_⟩
  refine wpAny_Call_method_late hbase hfew hline rfl (thn (ho.run pins s σ H _ I h) fun v s1 ⟨x, H1, I1, r1, ty, q1⟩ => ?_)
  obtain ⟨a, xs, rfl, ob, hf, hd⟩ := ty
  cases r1
  obtain ⟨hob, _, its, rv, hT⟩ := I1.hok a _ hf
  refine ⟨"tuple", id, pa, slot, hty, (show s1.heap.IsTuple a its.toArray from hT).typeIs, fun b e => ?_, ?_⟩
  · cases e
    exact ⟨ob, hob, hd⟩
  · have hA := ha.run cpos pins s1 σ H1 _ I1 q1
    rw [hs] at hA ⊢
    refine Calls.callWith_builtin (by show (false || (backTo cpos (starEach es X.env)).any (·.1)) = false; rw [hplain] <;> rfl) (Calls.evalArgs_plain ?_)
    exact thn hA fun us s2 ⟨vs, H2, I2, r2, q2⟩ => hm pins s2 σ H2 (.ref a) vs _ us Q I2 (show RelV (.ref a) (.ref a) from rfl) r2 q2
/-- a held tuple that this def made is let go -/
theorem Inv.thaw {pins : List (Addr × Obj)} {σ : St} {H : Hp} {s : Shared} {a : Addr} {o : Obj} {xs : List V} (I : Inv X pins σ H s) (h : H a = some (.frz o (.tup xs))) (hn : ∀ o u, X.H_0 a ≠ some (.frz o u)) : Inv X pins σ (upd H a (.tup xs)) s := by
  have ne : ∀ {b : Addr}, H b = none → b ≠ a := fun e z => by rw [z, h] at e; cases e
  have nt : ∀ {b : Addr} {ys : List V}, H b = some (.tup ys) → b ≠ a := fun e z => by rw [z, h] at e; cases e
  have no : ∀ {b y : Addr}, H b = some (.own y) → b ≠ a := fun e z => by rw [z, h] at e; cases e
  have nb : ∀ {b : Addr} {ps : Array Value}, H b = some (.tbl ps) → b ≠ a := fun e z => by rw [z, h] at e; cases e
  refine ⟨I.ok, I.os, I.bare, ⟨I.base.keep, I.base.slot, fun b u e n hx => ?_, I.base.there, fun b ys e => ?_, fun b u v e => ?_, fun b ps e => ?_⟩, I.loc, I.cell, ?_, fun x c e => ?_, fun p hp => ?_, fun b u e => ?_, I.len⟩
  · have q := I.base.free b u e n hx
    rw [upd_ne (ne q)]; exact q
  · have q := I.base.tups b ys e
    rw [upd_ne (nt q)]; exact q
  · have q := I.base.frzs b u v e
    have hb : b ≠ a := fun z => by rw [z] at e; exact hn _ _ e
    rw [upd_ne hb]; exact q
  · obtain ⟨more, q⟩ := I.base.tbls b ps e
    exact ⟨more, by rw [upd_ne (nb q)]; exact q⟩
  · rw [upd_ne (ne I.free)]; exact I.free
  · rw [upd_ne (ne (I.freeC x c e))]; exact I.freeC x c e
  · obtain ⟨e, n, r⟩ := I.pin p hp
    exact ⟨e, by rw [upd_ne (ne n)]; exact n, r⟩
  · by_cases hb : b = a
    · subst hb
      rw [upd_same] at e
      cases e
      obtain ⟨_, q⟩ := I.hok b _ h
      exact q
    · rw [upd_ne hb] at e
      exact (I.hok b u e).stay (fun _ _ _ q => q) (fun c q => by rw [upd_ne (no q)]; exact q) fun c ys q => by rw [upd_ne (nt q)]; exact q
def tThaw (H0 : Hp) (te : TE) : TE := fun σ H Q => te σ H fun v H1 => Q v H1 ∨ ∃ a o xs, v = .ref a ∧ H1 a = some (.frz o (.tup xs)) ∧ (∀ o u, H0 a ≠ some (.frz o u)) ∧ Q v (upd H1 a (.tup xs))
theorem pe_thaw {e : Expr} {te : TE} (h : PE X e te) : PE X e (tThaw X.H_0 te) := by
  refine ⟨fun pins s σ H Q I hw => thn (h.run pins s σ H _ I hw) fun v s1 ⟨x, H1, I1, r1, q1⟩ => ?_⟩
  rcases q1 with q | ⟨a, o, xs, e, hf, hn, q⟩
  · exact ⟨x, H1, I1, r1, q⟩
  · exact ⟨x, _, I1.thaw hf hn, r1, q⟩
end
end L2

set_option maxRecDepth 100000
set_option maxHeartbeats 2000000
/-! # The walk: rows -/
namespace Rw
open PySem PySem.Spec PyProof.Rows L2
def top (i : Nat) : Stmt := PySem.Challenge.pw_roundtypes_s01_answers.main.body.getD i (.Pass ⟨0, 0, 0, 0⟩)
/-- a def of the program, as its callers have it -/
def Has (P : Program) (w : World) (K : PySem.W.Frag) (mg : Str → Option Value) (base : Heap) (CX : CXT) (k : Nat) (name : Str) (ps : List Str) (sp : Sp) : Prop :=
  ∃ (f : Addr) (fd : FuncData), mg name = some (.ref f) ∧ PySem.W.keepIn K (.ref f) = true ∧ Binds K fd ps [] ∧ FnOk P w K mg base CX k f fd ps sp
/-- built-in names that the program leaves as they are -/
structure Blt (mg : Str → Option Value) : Prop where
  len : mg "len" = none
  sorted : mg "sorted" = none
  list : mg "list" = none
  range : mg "range" = none
  tuple : mg "tuple" = none
  enumerate : mg "enumerate" = none
  min : mg "min" = none
  max : mg "max" = none
  set : mg "set" = none
  int : mg "int" = none
abbrev vI (l : List Int) : List V := l.map V.int
abbrev vN (l : List Nat) : List V := vI (Rt.nts l)
theorem vN_get {l : List Nat} {i : Nat} {n : Nat} (h : l[i]? = some n) : (vN l)[i]? = some (V.int (n : Int)) := by
  simp [h]
theorem vN_length (l : List Nat) : (vN l).length = l.length := by simp
theorem vN_app (l m : List Nat) : vN (l ++ m) = vN l ++ vN m := by simp
theorem vN_inv {l : List Nat} {i : Nat} {x : V} (h : (vN l)[i]? = some x) : ∃ n, l[i]? = some n ∧ x = V.int (n : Int) := by
  rw [List.getElem?_map, List.getElem?_map] at h
  cases e : l[i]? with
  | none => rw [e] at h; cases h
  | some n => rw [e] at h; exact ⟨n, rfl, (Option.some.inj h).symm⟩
theorem vI_inv {l : List Int} {i : Nat} {x : V} (h : (vI l)[i]? = some x) : ∃ n, l[i]? = some n ∧ x = V.int n := by
  rw [List.getElem?_map] at h
  cases e : l[i]? with
  | none => rw [e] at h; cases h
  | some n => rw [e] at h; exact ⟨n, rfl, (Option.some.inj h).symm⟩
theorem Same.seqT {K : PySem.W.Frag} {H H' : Hp} {a : Addr} {xs : List V} (e : Same H H') (h : SqT K H a xs) : SqT K H' a xs := by
  rcases h with (h | ⟨o, h⟩) | h
  · exact .inl (.inl (e _ _ h))
  · exact .inl (.inr ⟨o, e _ _ h⟩)
  · exact .inr h
theorem Same.new {H : Hp} {p : Addr} {o : HO} (h : H p = none) : Same H (upd H p o) := fun a u e => by
  rw [upd_ne (ne_of_none e h)]
  exact e
/-- what H does not know may change -/
theorem Same.mut {H H' : Hp} {p : Addr} {o : HO} (e : Same H H') (h : H p = none) : Same H (upd H' p o) := fun a u ha => by
  rw [upd_ne (ne_of_none ha h)]
  exact e a u ha
theorem seqT_new {K : PySem.W.Frag} {H : Hp} {p : Addr} {xs : List V} : SqT K (upd H p (.tup xs)) p xs := SqT.of upd_same
theorem sz1000 {n : Nat} (h : n ≤ 100000) : n ≤ sizeLine := Nat.le_trans h (by decide)
theorem szlt {n : Nat} (h : n < 100000) : n < sizeLine := Nat.lt_of_lt_of_le h (by decide)
/-- t + u, whatever they are -/
theorem catA_go {K : PySem.W.Frag} {H : Hp} {a b : Addr} {xs ys : List V} {Q : VK} (ha : SqT K H a xs) (hb : SqT K H b ys) (hz : xs.length + ys.length ≤ 100000)
    (h0 : xs = [] → Q (.ref b) H) (h1 : ys = [] → Q (.ref a) H) (h : ∀ p, H p = none → Q (.ref p) (upd H p (.tup (xs ++ ys)))) : rCatA K (.ref a) (.ref b) H Q :=
  ⟨a, b, xs, ys, rfl, rfl, ha, hb, sz1000 hz, h0, fun _ => h1, fun _ _ => h⟩
theorem cutV_from {l : List Nat} {k : Nat} (h : k ≤ l.length) : cutV (vN l) (some (k : Int)) none = vN (l.drop k) := by
  unfold cutV
  rw [HT.sIx_nat, HT.sIx_none, vN_length, Nat.min_eq_left h, List.take_of_length_le (by rw [List.length_drop, vN_length]; exact Nat.le_refl _)]
  simp
theorem cutV_to {l : List Nat} {k : Nat} (h : k ≤ l.length) : cutV (vN l) none (some (k : Int)) = vN (l.take k) := by
  unfold cutV
  rw [HT.sIx_nat, HT.sIx_none, vN_length, Nat.min_eq_left h]
  simp
section
variable {P : Program} {w : World} {K : PySem.W.Frag} {mg : Str → Option Value} {base : Heap}
/-! ## begun_at -/
abbrev sBegun : Stmt := top 2
theorem scBegun : FnScope ["row", "least", "at"] ["row", "least"] (defScope sBegun) := ⟨rfl, rfl, rfl, by decide +kernel, rfl, by decide +kernel, by decide +kernel⟩
def spBegun : Sp := fun vs H Q _ => ∃ (a : Addr) (l : List Nat), vs = [.ref a, .int 0] ∧ FrzT H a (vN l) ∧ 0 ∈ l ∧ l.length ≤ 1000 ∧
  (∀ H' p, Same H H' → H p = none → H' p = some (.tup (vN (Rt.begunAt l 0))) → Q (.ref p) H') ∧ (Rt.begunAt l 0 = l → ∀ H', Same H H' → Q (.ref a) H')
theorem ok_begun {f : Addr} {fd : FuncData} (F : Fun K "begun_at" "begun_at" sBegun f fd) : FnOk P w K mg base CX0 1 f fd ["row", "least"] spBegun := by
  refine F.ok scBegun (fun vs H Q E h => ?_) (fun cdv A outer s H vs Q E hr h => ?_)
  · obtain ⟨a, l, rfl, _⟩ := h; rfl
  · refine ⟨_, pss_cons (ps_set (i := 2) scBegun.nd rfl (Or.inl rfl) (pe_bmT PySem.F.plainAttrs_tuple PySem.F.slot_tuple_index PySem.F.type_tuple_index mt_tup_indexI (pv 0) (pa_cons (pv 1) pa_nil)))
      (pss_one (ps_ret (pe_op op_catA (pe_slice sl_tupA (pv 0) (po_some (pv 2)) po_none) (pe_slice sl_tupA (pv 0) po_none (po_some (pv 2)))))), ?_⟩
    obtain ⟨a, l, rfl, hf, h0, hz, q1, q2⟩ := h
    have hlt : l.idxOf 0 < l.length := List.idxOf_lt_length_of_mem h0
    have hl : (Rt.nts l).length = l.length := by simp
    refine ⟨_, rfl, ⟨a, _, rfl, hf⟩, _, rfl, a, Rt.nts l, 0, l.idxOf 0, rfl, rfl, hf.seq, ?_, ?_, ?_⟩
    · rw [List.getElem?_map, List.getElem?_eq_getElem hlt, List.getElem_idxOf]; rfl
    · intro m hm e
      rw [List.getElem?_map, List.getElem?_eq_getElem (by omega)] at e
      have e' : ((l[m] : Nat) : Int) = 0 := Option.some.inj e
      have hm' : m < l.findIdx (· == 0) := hm
      have := List.not_of_lt_findIdx hm'
      simp at this
      omega
    · refine ⟨_, rfl, _, rfl, _, rfl, a, _, rfl, hf.seq, fun hw => ?_, fun hw p1 n1 => ?_⟩
      · have e0 : l.idxOf 0 = 0 := by
          have := hw.1
          rw [HT.sIx_nat, vN_length] at this; omega
        refine ⟨_, rfl, _, rfl, _, rfl, a, _, rfl, hf.seq, fun hw2 => ?_, fun hw2 p2 n2 => ?_⟩
        · have := hw2.2
          rw [HT.sIx_nat, vN_length] at this; omega
        · refine catA_go (Same.seqT (Same.new n2) hf.seq) seqT_new (by rw [vN_length]; have := cutV_length (vN l) none (some ((l.idxOf 0 : Nat) : Int)); rw [vN_length] at this; omega) (fun e => ?_) (fun _ => ?_) (fun p3 n3 => ?_)
          · have := congrArg List.length e
            rw [vN_length] at this
            simp at this
            subst this
            simp at h0
          · exact q2 (by unfold Rt.begunAt; rw [e0]; simp [Rt.rot]) _ (Same.new n2)
          · refine q1 _ p3 ((Same.new n2).trans (Same.new n3)) (Same.free (Same.new n2) n3) ?_
            rw [upd_same]
            rw [cutV_to (by omega), ← vN_app]
            unfold Rt.begunAt; rw [e0]; simp [Rt.rot]
      · have e0 : l.idxOf 0 ≠ 0 := by
          intro e0
          refine hw ⟨?_, ?_⟩
          · rw [HT.sIx_nat]; omega
          · rfl
        refine ⟨_, rfl, _, rfl, _, rfl, a, _, rfl, Same.seqT (Same.new n1) hf.seq, fun hw2 => ?_, fun hw2 p2 n2 => ?_⟩
        · have := hw2.2
          rw [HT.sIx_nat, vN_length] at this; omega
        · rw [cutV_from (by omega)] at n2 ⊢
          rw [cutV_to (by omega)]
          refine catA_go (Same.seqT (Same.new n2) seqT_new) seqT_new (by rw [vN_length, vN_length, List.length_drop, List.length_take]; omega) (fun e => ?_) (fun e => ?_) (fun p3 n3 => ?_)
          · have := congrArg List.length e
            rw [vN_length, List.length_drop] at this
            simp at this; omega
          · have := congrArg List.length e
            rw [vN_length, List.length_take] at this
            have h3 : min (l.idxOf 0) l.length = 0 := this
            omega
          · refine q1 _ p3 (((Same.new n1).trans (Same.new n2)).trans (Same.new n3)) (Same.free ((Same.new n1).trans (Same.new n2)) n3) ?_
            rw [upd_same, ← vN_app]
            rfl
end
end Rw

set_option maxRecDepth 100000
set_option maxHeartbeats 2000000
/-! # The walk: rows, further -/
namespace Rw
open PySem PySem.Spec PyProof.Rows L2
/-! ## Pure -/
def turnedP (t : List Nat) : List Nat := Rt.begunAt (t.map fun n => t.length - 1 - n) 0
theorem flatN (l : List Int) : (vI l).all flatV = true := by
  rw [List.all_eq_true]
  intro x hx
  obtain ⟨y, _, rfl⟩ := List.mem_map.mp hx
  rfl
theorem take_more {α : Type} {l : List α} {i : Nat} {x : α} (h : l[i]? = some x) : l.take (i + 1) = l.take i ++ [x] := by
  rw [List.take_add_one, h]; rfl
theorem vN_snoc (l : List Nat) (n : Nat) : vN (l ++ [n]) = vN l ++ [V.int (n : Int)] := by simp
/-- in order, a permutation of different ones: where each stands -/
theorem rank_place {ps qs : List Int} (hp : qs.Perm ps) (hs : qs.Pairwise (· ≤ ·)) (hn : ps.Nodup) {p : Int} (hm : p ∈ ps) : qs[Rt.rank ps p]? = some p ∧ ∀ m : Nat, m < Rt.rank ps p → qs[m]? ≠ some p := by
  have hq : p ∈ qs := hp.mem_iff.mpr hm
  have hnq : qs.Nodup := hp.nodup_iff.mpr hn
  obtain ⟨j, hj, e⟩ := List.getElem_of_mem hq
  have hr : Rt.rank ps p = j := by
    rw [← Rt.rank_perm hp]
    unfold Rt.rank
    have h1 : qs = qs.take j ++ p :: qs.drop (j + 1) := by
      rw [← e, List.getElem_cons_drop, List.take_append_drop]
    have a1 : (qs.take j).filter (fun z => decide (z < p)) = qs.take j := by
      rw [List.filter_eq_self]
      intro a ha
      obtain ⟨i, hi, e2⟩ := List.getElem_of_mem ha
      rw [List.length_take] at hi
      rw [List.getElem_take] at e2
      have h2 := (List.pairwise_iff_getElem.mp hs) i j (by omega) hj (by omega)
      have h3 := (List.pairwise_iff_getElem.mp hnq) i j (by omega) hj (by omega)
      rw [e2, e] at h2 h3
      simp; omega
    have a2 : (p :: qs.drop (j + 1)).filter (fun z => decide (z < p)) = [] := by
      rw [List.filter_eq_nil_iff]
      intro a ha
      rcases List.mem_cons.mp ha with rfl | ha
      · simp
      · obtain ⟨i, hi, e2⟩ := List.getElem_of_mem ha
        rw [List.length_drop] at hi
        rw [List.getElem_drop] at e2
        have h2 := (List.pairwise_iff_getElem.mp hs) j (j + 1 + i) hj (by omega) (by omega)
        rw [e2, e] at h2
        simp; omega
    have h4 : (qs.filter fun z => decide (z < p)) = ((qs.take j ++ p :: qs.drop (j + 1)).filter fun z => decide (z < p)) := congrArg _ h1
    rw [h4, List.filter_append, a1, a2, List.append_nil, List.length_take]
    omega
  rw [hr]
  refine ⟨by rw [List.getElem?_eq_getElem hj, e], fun m hmj hme => ?_⟩
  have : m = j := (List.getElem?_inj (by omega) hnq).mp (by rw [hme, List.getElem?_eq_getElem hj, e])
  omega
/-- len of a list, a tuple -/
def rLenS (K : PySem.W.Frag) : List V → Hp → VK → Prop := fun xs H Q => ∃ p ys, xs = [.ref p] ∧ (SqL K H p ys ∨ SqT K H p ys) ∧ Q (.int ys.length) H
section
variable {P : Program} {w : World} {K : PySem.W.Frag} {mg : Str → Option Value} {base : Heap}
/-! ## turned -/
abbrev sTurned : Stmt := top 3
theorem scTurned : FnScope ["row", "number"] ["row"] (defScope sTurned) := ⟨rfl, rfl, rfl, by decide +kernel, rfl, by decide +kernel, by decide +kernel⟩
def spTurned (K : PySem.W.Frag) : Sp := fun vs H Q _ => ∃ (a : Addr) (t : List Nat), vs = [.ref a] ∧ SqT K H a (vN t) ∧ t.length ≤ 1000 ∧ (∀ n ∈ t, n < t.length) ∧ (t.length - 1) ∈ t ∧
  ∀ H' p, Same H H' → H' p = some (.tup (vN (turnedP t))) → Q (.ref p) H'
theorem ok_turned {f : Addr} {fd : FuncData} (F : Fun K "turned" "turned" sTurned f fd) (T : Blt mg) (hB : Has P w K mg base CX0 1 "begun_at" ["row", "least"] spBegun) : FnOk P w K mg base CX0 2 f fd ["row"] (spTurned K) := by
  obtain ⟨fB, fdB, gB, kB, bB, GB⟩ := hB
  refine F.ok scTurned (fun vs H Q E h => ?_) (fun cdv A outer s H vs Q E hr h => ?_)
  · obtain ⟨a, l, rfl, _⟩ := h; rfl
  · refine ⟨_, pss_one (ps_ret (pe_thaw (pe_call GB hr rfl gB kB bB .nil pass0 (pa_cons (pe_callTy call_tuple_frz (by rfl) T.tuple boot_tuple (pa_cons
      (pe_lc (own := [("number", 1)]) (g := gName 1) (tt := tYes) (te := tOp (rI0 fun i j => .int (i - j)) (tOp (rI0 fun i j => .int (i - j)) (tCB (rLenS K) (tCons (tVar 0) tNil)) (tC (.int 1))) (tVar 1)) rfl scTurned.nd (pi_tup (pv 0)) (blkOk_by (N := ["row", "number"]) (sc := defScope sTurned) (by decide +kernel)) (fun _ _ _ _ _ => pg_name (i := 1) scTurned.nd rfl (Or.inl rfl)) (fun _ _ _ _ _ => pts_nil)
        (fun _ _ _ _ _ => pe_op op_sub (pe_op op_sub (pe_callB call_len_seq (by rfl) T.len boot_len (pa_cons (pv 0) pa_nil)) pe_int) (pv 1))) pa_nil)) (pa_cons pe_int pa_nil))))), ?_⟩
    obtain ⟨a, t, rfl, hs, hz, hlt, hm, q⟩ := h
    refine ⟨_, rfl, a, rfl, ⟨_, hs⟩, fun D hD => lc_tup (K := K) (a := a) (xs := vN t) (fun i H' => Same H H' ∧ H' D = some (.lst (vN ((t.take i).map fun n => t.length - 1 - n)))) ⟨Same.new hD, upd_same⟩ (fun i H' _ p => Same.seqT p.1 hs) (fun i x H' hi p => ?_) (fun H' p => ?_)⟩
    · obtain ⟨n, hn, rfl⟩ := vN_inv hi
      refine ⟨rfl, _, rfl, a, _, rfl, .inr (Same.seqT p.1 hs), _, _, rfl, rfl, _, rfl, _, _, rfl, rfl, _, p.2, ?_, Same.mut p.1 hD, ?_⟩
      · rw [vN_length, List.length_map, List.length_take]
        exact szlt (by omega)
      · rw [upd_same, take_more hn, List.map_append]
        have := hlt n (List.mem_of_getElem? hn)
        have e : (t.length : Int) - 1 - (n : Int) = ((t.length - 1 - n : Nat) : Int) := by omega
        rw [vN_app, vN_length]
        dsimp only
        rw [e]
        rfl
    · obtain ⟨p1, p2⟩ := p
      rw [vN_length, List.take_length] at p2
      refine ⟨D, _, rfl, SqL.of p2, fun l o hl ho => ?_⟩
      refine ⟨l, t.map fun n => t.length - 1 - n, rfl, ⟨o, upd_same, ho⟩, ?_, ?_, fun H2 p s2 n2 h2 => .inl ?_, fun e H2 s2 => .inr ?_⟩
      · exact List.mem_map.mpr ⟨_, hm, by omega⟩
      · rw [List.length_map]; exact hz
      · exact q H2 p ((p1.trans (Same.new hl)).trans s2) h2
      · refine ⟨l, o, _, rfl, s2 l _ upd_same, fun o2 u2 z => ?_, ?_⟩
        · have := p1 _ _ z
          rw [hl] at this; cases this
        · refine q _ l (Same.mut ((p1.trans (Same.new hl)).trans s2) (Same.free p1 hl)) ?_
          rw [upd_same]
          unfold turnedP
          rw [e]
/-! ## doubled -/
abbrev sDoubled : Stmt := top 4
theorem scDoubled : FnScope ["row", "twice", "number"] ["row"] (defScope sDoubled) := ⟨rfl, rfl, rfl, by decide +kernel, rfl, by decide +kernel, by decide +kernel⟩
def spDoubled (K : PySem.W.Frag) : Sp := fun vs H Q _ => ∃ (a : Addr) (t : List Nat), vs = [.ref a] ∧ SqT K H a (vN t) ∧ t.length ≤ 1000 ∧ t ≠ [] ∧
  ∀ H' p, Same H H' → H' p = some (.tup (vN (Su184.doubled t))) → Q (.ref p) H'
theorem ok_doubled {f : Addr} {fd : FuncData} (F : Fun K "doubled" "doubled" sDoubled f fd) (T : Blt mg) : FnOk P w K mg base CX0 1 f fd ["row"] (spDoubled K) := by
  refine F.ok scDoubled (fun vs H Q E h => ?_) (fun cdv A outer s H vs Q E hr h => ?_)
  · obtain ⟨a, l, rfl, _⟩ := h; rfl
  · refine ⟨_, pss_cons (ps_set (i := 1) scDoubled.nd rfl (Or.inl rfl) (pe_callTy call_tuple_of (by rfl) T.tuple boot_tuple (pa_cons
      (pe_lc (own := [("number", 2)]) (g := gName 2) (tt := tYes) rfl scDoubled.nd (pi_tup (pv 0)) (blkOk_by (N := ["row", "twice", "number"]) (sc := defScope sDoubled) (by decide +kernel)) (fun _ _ _ _ _ => pg_name (i := 2) scDoubled.nd rfl (Or.inl rfl)) (fun _ _ _ _ _ => pts_nil)
        (fun _ _ _ _ _ => pe_op op_mul pe_int (pv 2))) pa_nil)))
      (pss_one (ps_ret (pe_op op_catT (pv 1) (pe_callTy call_tuple_of (by rfl) T.tuple boot_tuple (pa_cons
      (pe_lc (own := [("number", 2)]) (g := gName 2) (tt := tYes) rfl scDoubled.nd (pi_tup (pv 1)) (blkOk_by (N := ["row", "twice", "number"]) (sc := defScope sDoubled) (by decide +kernel)) (fun _ _ _ _ _ => pg_name (i := 2) scDoubled.nd rfl (Or.inl rfl)) (fun _ _ _ _ _ => pts_nil)
        (fun _ _ _ _ _ => pe_op op_add (pv 2) pe_int)) pa_nil))))), ?_⟩
    obtain ⟨a, t, rfl, hs, hz, hne, q⟩ := h
    have hlen : 0 < t.length := List.length_pos_iff.mpr hne
    refine ⟨_, rfl, a, rfl, ⟨_, hs⟩, fun D hD => lc_tup (K := K) (a := a) (xs := vN t) (fun i H' => Same H H' ∧ H' D = some (.lst (vN ((t.take i).map fun n => 2 * n)))) ⟨Same.new hD, upd_same⟩ (fun i H' _ p => Same.seqT p.1 hs) (fun i x H' hi p => ?_) (fun H' p => ?_)⟩
    · obtain ⟨n, hn, rfl⟩ := vN_inv hi
      refine ⟨rfl, _, rfl, _, _, rfl, rfl, .inl ⟨by decide, by decide⟩, _, p.2, ?_, Same.mut p.1 hD, ?_⟩
      · rw [vN_length, List.length_map, List.length_take]
        exact szlt (by omega)
      · have e : (2 : Int) * (n : Int) = ((2 * n : Nat) : Int) := by omega
        rw [upd_same, take_more hn, List.map_append, vN_app]
        dsimp only
        rw [e]
        rfl
    · obtain ⟨p1, p2⟩ := p
      rw [vN_length, List.take_length] at p2
      refine ⟨D, _, rfl, .inl ⟨SqL.of p2, fun tw ht => ?_⟩⟩
      have s1 : Same H (upd H' tw (.tup (vN (t.map fun n => 2 * n)))) := p1.trans (Same.new ht)
      refine ⟨_, rfl, _, rfl, tw, rfl, ⟨_, seqT_new⟩, fun D2 hD2 => lc_tup (K := K) (a := tw) (xs := vN (t.map fun n => 2 * n)) (fun i H2 => Same (upd H' tw (.tup (vN (t.map fun n => 2 * n)))) H2 ∧ H2 D2 = some (.lst (vN (((t.map fun n => 2 * n).take i).map fun n => n + 1)))) ⟨Same.new hD2, upd_same⟩ (fun i H2 _ p => Same.seqT p.1 seqT_new) (fun i x H2 hi p => ?_) (fun H2 p => ?_)⟩
      · obtain ⟨n, hn, rfl⟩ := vN_inv hi
        refine ⟨rfl, _, rfl, _, _, rfl, rfl, _, p.2, ?_, Same.mut p.1 hD2, ?_⟩
        · rw [vN_length, List.length_map, List.length_take, List.length_map]
          exact szlt (by omega)
        · rw [upd_same, take_more hn, List.map_append, vN_app]
          rfl
      · obtain ⟨r1, r2⟩ := p
        rw [vN_length, List.take_length] at r2
        refine ⟨D2, _, rfl, .inl ⟨SqL.of r2, fun p3 h3 => ?_⟩⟩
        refine ⟨tw, p3, _, _, rfl, rfl, Same.seqT (r1.trans (Same.new h3)) seqT_new, seqT_new, ?_, ?_, fun e => ?_, fun _ p4 h4 => ?_⟩
        · intro e
          have := congrArg List.length e
          rw [vN_length, List.length_map] at this
          have z : t.length = 0 := this
          omega
        · rw [vN_length, vN_length, List.length_map, List.length_map, List.length_map]
          exact sz1000 (by omega)
        · have := congrArg List.length e
          rw [vN_length, List.length_map, List.length_map] at this
          have z : t.length = 0 := this
          omega
        · refine q _ p4 (((s1.trans r1).trans (Same.new h3)).trans (Same.new h4)) ?_
          rw [upd_same, ← vN_app]
          unfold Su184.doubled
          rw [List.map_map]
          rfl
/-! ## type_of -/
abbrev sTypeOf : Stmt := top 7
theorem scTypeOf : FnScope ["places", "order", "place"] ["places"] (defScope sTypeOf) := ⟨rfl, rfl, rfl, by decide +kernel, rfl, by decide +kernel, by decide +kernel⟩
def spTypeOf (K : PySem.W.Frag) : Sp := fun vs H Q _ => ∃ (a : Addr) (ps : List Int), vs = [.ref a] ∧ SqL K H a (vI ps) ∧ ps.length < 64 ∧ ps ≠ [] ∧ ps.Nodup ∧
  ∀ H' p, Same H H' → H' p = some (.tup (vN (Rt.typeOf ps))) → Q (.ref p) H'
theorem ok_typeOf {f : Addr} {fd : FuncData} (F : Fun K "type_of" "type_of" sTypeOf f fd) (T : Blt mg) (hB : Has P w K mg base CX0 1 "begun_at" ["row", "least"] spBegun) : FnOk P w K mg base CX0 2 f fd ["places"] (spTypeOf K) := by
  obtain ⟨fB, fdB, gB, kB, bB, GB⟩ := hB
  refine F.ok scTypeOf (fun vs H Q E h => ?_) (fun cdv A outer s H vs Q E hr h => ?_)
  · obtain ⟨a, l, rfl, _⟩ := h; rfl
  · refine ⟨_, pss_cons (ps_set (i := 1) scTypeOf.nd rfl (Or.inr rfl) (pe_callB cr_sorted (by rfl) T.sorted boot_sorted (pa_cons (pv 0) pa_nil)))
      (pss_one (ps_ret (pe_thaw (pe_call GB hr rfl gB kB bB .nil pass0 (pa_cons (pe_callTy call_tuple_frz (by rfl) T.tuple boot_tuple (pa_cons
      (pe_lc (own := [("place", 2)]) (g := gName 2) (tt := tYes) (te := tBM K "list" (rIndex K) (tVar 1) (tCons (tVar 2) tNil)) rfl scTypeOf.nd (pi_list (pv 0)) (blkOk_by (N := ["places", "order", "place"]) (sc := defScope sTypeOf) (by decide +kernel)) (fun _ _ _ _ _ => pg_name (i := 2) scTypeOf.nd rfl (Or.inl rfl)) (fun _ _ _ _ _ => pts_nil)
        (fun _ _ _ _ _ => pe_bm PySem.F.plainAttrs_list PySem.F.slot_list_index PySem.F.type_list_index mt_index (pv 1) (pa_cons (pv 2) pa_nil))) pa_nil)) (pa_cons pe_int pa_nil)))))), ?_⟩
    obtain ⟨a, ps, rfl, hs, hz, hne, hnd, q⟩ := h
    refine ⟨_, rfl, a, ps, rfl, hs, hz, fun qs po perm sorted ho => ?_⟩
    have s0 : Same H (upd H po (.lst (vI qs))) := Same.new ho
    refine ⟨_, rfl, a, rfl, ⟨_, s0.seq hs⟩, fun D hD => lc_list (K := K) (a := a) (xs := vI ps) (fun i H' => Same (upd H po (.lst (vI qs))) H' ∧ H' D = some (.lst (vN ((ps.take i).map (Rt.rank ps))))) ⟨Same.new hD, upd_same⟩ (fun i H' _ p => (s0.trans p.1).seq hs) (fun i x H' hi p => ?_) (fun H' p => ?_)⟩
    · obtain ⟨n, hn, rfl⟩ := vI_inv hi
      have hpo : H' po = some (.lst (vI qs)) := p.1 _ _ upd_same
      obtain ⟨r1, r2⟩ := rank_place perm sorted hnd (List.mem_of_getElem? hn)
      refine ⟨rfl, _, rfl, .inl ⟨rfl, _, SqL.of hpo⟩, _, rfl, po, vI qs, .int n, Rt.rank ps n, .int n, rfl, rfl, SqL.of hpo, rfl, flatN _, ?_, ?_, fun m z' hm hz' => ?_, _, p.2, ?_, Same.mut p.1 hD, ?_⟩
      · rw [List.getElem?_map, r1]; rfl
      · exact beq_self_eq_true n
      · obtain ⟨n', hn', rfl⟩ := vI_inv hz'
        refine beq_eq_false_iff_ne.mpr fun e => r2 m hm (by rw [hn', e])
      · rw [vN_length, List.length_map, List.length_take]
        exact szlt (by omega)
      · rw [upd_same, take_more hn, List.map_append, vN_app]
        rfl
    · obtain ⟨p1, p2⟩ := p
      have e1 : ps.take (vI ps).length = ps := by rw [List.length_map, List.take_length]
      rw [e1] at p2
      refine ⟨D, _, rfl, SqL.of p2, fun l o hl ho => ?_⟩
      refine ⟨l, ps.map (Rt.rank ps), rfl, ⟨o, upd_same, ho⟩, Rt.zero_mem_ranks hne, ?_, fun H2 p s2 n2 h2 => .inl ?_, fun e H2 s2 => .inr ?_⟩
      · rw [List.length_map]; omega
      · exact q H2 p (((s0.trans p1).trans (Same.new hl)).trans s2) h2
      · refine ⟨l, o, _, rfl, s2 l _ upd_same, fun o2 u2 z => ?_, ?_⟩
        · have := (s0.trans p1) _ _ z
          rw [hl] at this; cases this
        · refine q _ l (Same.mut (((s0.trans p1).trans (Same.new hl)).trans s2) (Same.free (s0.trans p1) hl)) ?_
          rw [upd_same]
          unfold Rt.typeOf
          rw [e]
end
end Rw

set_option maxRecDepth 100000
set_option maxHeartbeats 2000000
/-! # The walk: is_type, line_of, all_types -/
namespace Rw
open PySem PySem.Spec PyProof.Rows L2
/-! ## Data that are compared -/
abbrev dI (l : List Int) : List PyData := l.map PyData.int
theorem dpInts {K : PySem.W.Frag} {H : Hp} : ∀ l : List Int, DpAll K H (vI l) (dI l)
  | [] => .nil
  | n :: l => .cons (.int n) (dpInts l)
theorem eqvAll_ints : ∀ a b : List Int, PyData.eqvAll (dI a) (dI b) = decide (a = b)
  | [], [] => by simp [PyData.eqvAll]
  | [], _ :: _ => by simp [PyData.eqvAll]
  | _ :: _, [] => by simp [PyData.eqvAll]
  | x :: a, y :: b => by
    show PyData.eqvAll (.int x :: dI a) (.int y :: dI b) = _
    rw [PyData.eqvAll, eqvAll_ints a b, PyData.eqv]
    by_cases h : x = y
    · subst h; by_cases h2 : a = b <;> simp [h2]
    · simp [h]
theorem layInts : ∀ l : List Int, PyData.canLayAll0 (dI l) = true
  | [] => by simp [PyData.canLayAll0]
  | x :: l => by
    show PyData.canLayAll0 (.int x :: dI l) = true
    simp [PyData.canLayAll0, PyData.canLay0, layInts l]
theorem depthInts : ∀ l : List Int, PyData.depthAll (dI l) = 0
  | [] => by simp [PyData.depthAll]
  | x :: l => by
    show PyData.depthAll (.int x :: dI l) = 0
    simp [PyData.depthAll, PyData.depth, depthInts l]
theorem shapedL (l : List Int) : SeqAt.shaped (.list (dI l)) = true := by
  show (PyData.canLay0 (.list (dI l)) && decide (PyData.depth (.list (dI l)) ≤ 64)) = true
  simp only [PyData.canLay0, PyData.depth, layInts, depthInts]
  rfl
theorem shapedT (l : List Int) : SeqAt.shaped (.tuple (dI l)) = true := by
  show (PyData.canLay0 (.tuple (dI l)) && decide (PyData.depth (.tuple (dI l)) ≤ 64)) = true
  simp only [PyData.canLay0, PyData.depth, layInts, depthInts]
  rfl
theorem eqvL (a b : List Int) : PyData.eqv (.list (dI a)) (.list (dI b)) = decide (a = b) := by
  rw [PyData.eqv]; exact eqvAll_ints a b
theorem eqvT (a b : List Int) : PyData.eqv (.tuple (dI a)) (.tuple (dI b)) = decide (a = b) := by
  rw [PyData.eqv]; exact eqvAll_ints a b
theorem ints_inj {a b : List Nat} (h : Rt.nts a = Rt.nts b) : a = b := by
  have h2 := congrArg (List.map Int.toNat) h
  rw [List.map_map, List.map_map] at h2
  have e : ∀ l : List Nat, List.map (Int.toNat ∘ fun v : Nat => (v : Int)) l = l := fun l => by
    conv => rhs; rw [← List.map_id l]
    exact List.map_congr_left fun x _ => by simp
  rw [e, e] at h2
  exact h2
/-- tuples that stand -/
def TL (H : Hp) (L : List (Addr × List Nat)) : Prop := ∀ p ∈ L, H p.1 = some (.tup (vN p.2))
theorem TL.same {H H' : Hp} {L : List (Addr × List Nat)} (h : TL H L) (k : Same H H') : TL H' L := fun p hp => k _ _ (h p hp)
theorem TL.upd {H : Hp} {L : List (Addr × List Nat)} {l : Addr} {xs : List V} {o : HO} (h : TL H L) (k : H l = some (.lst xs)) : TL (upd H l o) L := fun p hp => by
  rw [upd_ne (ne_of (h p hp) k (by intro z; cases z))]; exact h p hp
theorem TL.app {H : Hp} {L M : List (Addr × List Nat)} (h : TL H L) (k : TL H M) : TL H (L ++ M) := fun p hp => (List.mem_append.mp hp).elim (h p) (k p)
abbrev refs (L : List (Addr × List Nat)) : List V := L.map fun p => V.ref p.1
abbrev kinds (L : List (Addr × List Nat)) : List (List Nat) := L.map (·.2)
/-- a list of tuples -/
def LT (H : Hp) (a : Addr) (ts : List (List Nat)) : Prop := ∃ L, kinds L = ts ∧ H a = some (.lst (refs L)) ∧ TL H L
theorem LT.same {H H' : Hp} {a : Addr} {ts : List (List Nat)} (h : LT H a ts) (k : Same H H') : LT H' a ts := let ⟨L, e, h1, h2⟩ := h; ⟨L, e, k _ _ h1, h2.same k⟩
/-! ## is_type -/
theorem isType_perm {ns : List Int} (h0 : ∀ z ∈ ns, 0 ≤ z) : Su184.isType (ns.map Int.toNat) = true ↔ 1 ≤ ns.length ∧ ns.headD 1 = 0 ∧ ns.Perm (Rt.nts (List.range ns.length)) := by
  rw [Rt.isT_iff]
  have back : Rt.nts (ns.map Int.toNat) = ns := by
    unfold Rt.nts
    rw [List.map_map]
    conv => rhs; rw [← List.map_id ns]
    exact List.map_congr_left fun z hz => by have := h0 z hz; simp; omega
  constructor
  · intro h
    have hp := h.perm.map (fun v : Nat => (v : Int))
    rw [List.length_map] at hp
    have hl := h.pos
    rw [List.length_map] at hl
    refine ⟨hl, ?_, ?_⟩
    · cases ns with
      | nil => simp at hl
      | cons z ns =>
        have e := h.hd
        have := h0 z List.mem_cons_self
        simp at e
        show z = 0
        omega
    · have e : (ns.map Int.toNat).map (fun v : Nat => (v : Int)) = ns := back
      rw [e] at hp
      exact hp
  · rintro ⟨h1, h2, h3⟩
    have hp : (ns.map Int.toNat).Perm (List.range ns.length) := by
      have := h3.map Int.toNat
      rw [List.map_map] at this
      have e : List.map (Int.toNat ∘ fun v : Nat => (v : Int)) (List.range ns.length) = List.range ns.length := by
        conv => rhs; rw [← List.map_id (List.range ns.length)]
        exact List.map_congr_left fun x _ => by simp
      rw [e] at this
      exact this
    refine ⟨by rw [List.length_map]; exact h1, ?_, hp.nodup_iff.mpr List.nodup_range, fun r hr => ?_⟩
    · cases ns with
      | nil => simp at h1
      | cons z ns =>
        have : z = 0 := h2
        subst this; rfl
    · rw [List.length_map]
      exact List.mem_range.mp (hp.mem_iff.mp hr)
theorem range_sorted (n : Nat) : (Rt.nts (List.range n)).Pairwise (· ≤ ·) := by
  rw [List.pairwise_map]
  exact List.pairwise_lt_range.imp fun h => by omega
theorem sorted_unique {a b : List Int} (hp : a.Perm b) (ha : a.Pairwise (· ≤ ·)) (hb : b.Pairwise (· ≤ ·)) : a = b :=
  hp.eq_of_pairwise (fun x y _ _ h1 h2 => Int.le_antisymm h1 h2) ha hb
theorem rgV_zero (n : Nat) : rgV 0 (n : Int) = vN (List.range n) := by
  unfold rgV
  unfold vN vI Rt.nts
  rw [show ((n : Int) - 0).toNat = n by omega, List.map_map]
  exact List.map_congr_left fun i _ => by simp
section
variable {P : Program} {w : World} {K : PySem.W.Frag} {mg : Str → Option Value} {base : Heap}
abbrev sIsType : Stmt := top 1
theorem scIsType : FnScope ["row", "most"] ["row", "most"] (defScope sIsType) := ⟨rfl, rfl, rfl, by decide +kernel, rfl, by decide +kernel, by decide +kernel⟩
def spIsType (K : PySem.W.Frag) : Sp := fun vs H Q _ => ∃ (a : Addr) (ns : List Int) (most : Int), vs = [.ref a, .int most] ∧ SqL K H a (vI ns) ∧ ns.length ≤ 20 ∧ (∀ z ∈ ns, 0 ≤ z) ∧
  ∀ H', Same H H' → Q (.bl (Su184.isType (ns.map Int.toNat) && decide ((ns.length : Int) ≤ most))) H'
theorem ok_isType {f : Addr} {fd : FuncData} (F : Fun K "is_type" "is_type" sIsType f fd) (T : Blt mg) : FnOk P w K mg base CX0 1 f fd ["row", "most"] (spIsType K) := by
  refine F.ok scIsType (fun vs H Q E h => ?_) (fun cdv A outer s H vs Q E hr h => ?_)
  · obtain ⟨a, l, m, rfl, _⟩ := h; rfl
  · refine ⟨_, pss_one (ps_ret (pe_and (pe_chain op_le op_le pe_int (pe_callB call_len_seq (by rfl) T.len boot_len (pa_cons (pv 0) pa_nil)) (pv 1))
      (pe_and (pe_cmpR op_eq (pe_ix ix_list (pv 0) pe_int (fun _ _ => rfl)) pe_int (nomark _))
        (pe_one (pe_cmpR (op_eqD hr.units) (pe_callB cr_sorted (by rfl) T.sorted boot_sorted (pa_cons (pv 0) pa_nil)) (pe_listRg rfl (by rfl) T.list (prg_1 (by rfl) T.range (pe_callB call_len_seq (by rfl) T.len boot_len (pa_cons (pv 0) pa_nil)))) (nomark _)))))), ?_⟩
    obtain ⟨a, ns, most, rfl, hs, hz, h0, q⟩ := h
    have hlen : (vI ns).length = ns.length := List.length_map ..
    have fin : ∀ b : Bool, b = (Su184.isType (ns.map Int.toNat) && decide ((ns.length : Int) ≤ most)) → ∀ H', Same H H' → Q (.bl b) H' := fun b e H' s => e ▸ q H' s
    have iff := isType_perm h0
    refine ⟨_, rfl, a, _, rfl, .inl hs, _, _, rfl, rfl, _, rfl, ?_⟩
    have noT : ∀ b2 : Bool, ¬ (1 ≤ ns.length ∧ ns.headD 1 = 0 ∧ ns.Perm (Rt.nts (List.range ns.length))) → false = (Su184.isType (ns.map Int.toNat) && b2) := fun b2 hn => by
      cases e : Su184.isType (ns.map Int.toNat) with
      | false => rfl
      | true => exact absurd (iff.mp e) hn
    by_cases c1 : (1 : Int) ≤ ((vI ns).length : Nat)
    · rw [decide_eq_true c1]
      refine iteT ⟨_, rfl, _, _, rfl, rfl, _, rfl, ?_⟩
      by_cases c2 : (((vI ns).length : Nat) : Int) ≤ most
      · rw [decide_eq_true c2]
        cases ns with
        | nil => simp at c1
        | cons z ns' =>
        refine iteT ⟨_, rfl, a, _, 0, .int z, rfl, rfl, hs, atI_nat (j := 0) rfl, rfl, _, rfl, ?_⟩
        by_cases c3 : z = 0
        · rw [decide_eq_true (by rw [c3])]
          refine iteT ⟨_, rfl, a, z :: ns', rfl, hs, by omega, fun qs p perm srt hp => ?_⟩
          refine ⟨_, rfl, a, _, rfl, .inl ((Same.new hp).seq hs), _, rfl, RgOk.of_le (by decide) (by rw [hlen]; omega) (by decide) (by omega), fun q2 hq2 => ?_⟩
          rw [hlen]
          refine ⟨.list (dI qs), .list (dI (Rt.nts (List.range (z :: ns').length))), .lst (SqL.of ((Same.new hq2) _ _ upd_same)) (dpInts qs), .lst (xs := rgV 0 (((z :: ns').length : Nat) : Int)) (SqL.of upd_same) (by rw [rgV_zero]; exact dpInts _), shapedL _, shapedL _, ?_⟩
          rw [eqvL]
          refine fin _ ?_ _ ((Same.new hp).trans (Same.new hq2))
          rw [hlen] at c1 c2
          by_cases c4 : qs = Rt.nts (List.range (z :: ns').length)
          · rw [decide_eq_true c4, decide_eq_true c2, iff.mpr ⟨by simp, c3, c4 ▸ perm.symm⟩]; rfl
          · rw [decide_eq_false c4]
            exact noT _ fun h => c4 (sorted_unique (perm.trans h.2.2) srt (range_sorted _))
        · rw [decide_eq_false (by intro e; exact c3 (V.int.inj e))]
          exact iteF (fin _ (noT _ fun h => c3 h.2.1) H (Same.refl H))
      · rw [decide_eq_false c2]
        refine iteF (fin _ ?_ H (Same.refl H))
        rw [hlen] at c2
        rw [decide_eq_false c2, Bool.and_false]
    · rw [decide_eq_false c1]
      refine iteF ⟨false, rfl, iteF (fin _ ?_ H (Same.refl H))⟩
      refine noT _ fun h => c1 ?_
      rw [hlen]; omega
end
end Rw

set_option maxRecDepth 100000
set_option maxHeartbeats 2000000
/-! # The walk: line_of, all_types -/
namespace Rw
open PySem PySem.Spec PyProof.Rows L2
/-! ## Pure -/
def lineUp (t : List Nat) (i : Nat) : List Nat := (List.range i).foldl (fun f k => f.set (t.getD k 0) (t.getD ((k + 1) % t.length) 0)) (List.replicate t.length 0)
theorem lineUp_succ (t : List Nat) (i : Nat) : lineUp t (i + 1) = (lineUp t i).set (t.getD i 0) (t.getD ((i + 1) % t.length) 0) := by
  unfold lineUp
  rw [List.range_succ, List.foldl_append]
  rfl
theorem lineUp_length (t : List Nat) : ∀ i, (lineUp t i).length = t.length
  | 0 => by simp [lineUp]
  | i + 1 => by rw [lineUp_succ, List.length_set, lineUp_length t i]
theorem lineUp_at {t : List Nat} (h : Rt.IsT t) : ∀ {i : Nat}, i ≤ t.length → ∀ k, k < i → (lineUp t i).getD (t.getD k 0) 0 = t.getD ((k + 1) % t.length) 0
  | 0, _, k, hk => absurd hk (Nat.not_lt_zero k)
  | i + 1, hi, k, hk => by
    have hit : i < t.length := by omega
    have hkt : k < t.length := by omega
    have e1 : t.getD i 0 = t[i] := by rw [List.getD_eq_getElem?_getD, List.getElem?_eq_getElem hit]; rfl
    have hl : t[i] < (lineUp t i).length := by rw [lineUp_length]; exact h.lt _ (List.getElem_mem hit)
    rw [lineUp_succ]
    by_cases c : k = i
    · subst c
      rw [List.getD_eq_getElem?_getD, e1, List.getElem?_set_self hl]
      rfl
    · have ne : t.getD i 0 ≠ t.getD k 0 := fun e => c (Rt.getD_inj h.nodup hkt hit e.symm)
      rw [List.getD_eq_getElem?_getD, List.getElem?_set_ne ne, ← List.getD_eq_getElem?_getD]
      exact lineUp_at h (by omega) k (by omega)
theorem lineUp_all {t : List Nat} (h : Rt.IsT t) : lineUp t t.length = Su184.putOf t := by
  refine List.ext_getElem? fun r => ?_
  by_cases hr : r < t.length
  · obtain ⟨k, hk, e⟩ := List.getElem_of_mem (h.mem hr)
    have e1 : t.getD k 0 = r := by rw [List.getD_eq_getElem?_getD, List.getElem?_eq_getElem hk]; exact e
    have h1 := lineUp_at h (Nat.le_refl _) k hk
    have h2 := Rt.putOf_at h hk
    rw [e1] at h1
    rw [e] at h2
    have l1 : r < (lineUp t t.length).length := by rw [lineUp_length]; exact hr
    have l2 : r < (Su184.putOf t).length := by rw [Rt.putOf_length]; exact hr
    rw [List.getD_eq_getElem?_getD, List.getElem?_eq_getElem l1] at h1
    rw [List.getD_eq_getElem?_getD, List.getElem?_eq_getElem l2] at h2
    rw [List.getElem?_eq_getElem l1, List.getElem?_eq_getElem l2]
    exact congrArg some (h1.trans h2.symm)
  · rw [List.getElem?_eq_none (by rw [lineUp_length]; omega), List.getElem?_eq_none (by rw [Rt.putOf_length]; omega)]
theorem kinds_app (L M : List (Addr × List Nat)) : kinds (L ++ M) = kinds L ++ kinds M := List.map_append
theorem refs_app (L M : List (Addr × List Nat)) : refs (L ++ M) = refs L ++ refs M := List.map_append
/-- one number more -/
def extK (k : Nat) (l : List (List Nat)) : List (List Nat) := l.flatMap fun b => ((List.range k).filter fun n => !b.contains n).map fun n => b ++ [n]
def allN (k : Nat) : Nat → List (List Nat)
  | 0 => [[0]]
  | j + 1 => extK k (allN k j)
theorem allN_all {k : Nat} (h1 : 1 ≤ k) (h5 : k ≤ 5) : allN k (k - 1) = Su184.all k := by
  have : ∀ k, k < 6 → 1 ≤ k → allN k (k - 1) = Su184.all k := by decide +kernel
  exact this k (by omega) h1
theorem allN_len {k : Nat} (h1 : 1 ≤ k) (h5 : k ≤ 5) {j : Nat} (hj : j < k) : (allN k j).length ≤ 120 ∧ ∀ b ∈ allN k j, b.length ≤ 5 := by
  have : ∀ k, k < 6 → ∀ j, j < k → (allN k j).length ≤ 120 ∧ ∀ b ∈ allN k j, b.length ≤ 5 := by decide +kernel
  exact this k (by omega) j hj
theorem inV_N (n : Nat) (l : List Nat) : inV (.int (n : Int)) (vN l) = l.contains n := by
  unfold inV
  induction l with
  | nil => rfl
  | cons a l ih =>
    show (((a : Int) == (n : Int)) || (vN l).any fun y => eqV y (.int (n : Int))) = (n == a || l.contains n)
    rw [ih]
    congr 1
    by_cases h : a = n
    · subst h; simp
    · rw [beq_eq_false_iff_ne.mpr (by omega), beq_eq_false_iff_ne.mpr (Ne.symm h)]
section
variable {P : Program} {w : World} {K : PySem.W.Frag} {mg : Str → Option Value} {base : Heap}
/-! ## line_of -/
abbrev sLineOf : Stmt := top 6
theorem scLineOf : FnScope ["row", "found", "k", "number"] ["row"] (defScope sLineOf) := ⟨rfl, rfl, rfl, by decide +kernel, rfl, by decide +kernel, by decide +kernel⟩
def spLineOf (K : PySem.W.Frag) : Sp := fun vs H Q _ => ∃ (a : Addr) (t : List Nat), vs = [.ref a] ∧ SqT K H a (vN t) ∧ t.length ≤ 1000 ∧ Rt.IsT t ∧
  ∀ H' p, Same H H' → H' p = some (.lst (vN (Su184.putOf t))) → Q (.ref p) H'
theorem ok_lineOf {f : Addr} {fd : FuncData} (F : Fun K "line_of" "line_of" sLineOf f fd) (T : Blt mg) : FnOk P w K mg base CX0 1 f fd ["row"] (spLineOf K) := by
  refine F.ok scLineOf (fun vs H Q E h => ?_) (fun cdv A outer s H vs Q E hr h => ?_)
  · obtain ⟨a, l, rfl, _⟩ := h; rfl
  · refine ⟨_, pss_cons (ps_set (i := 1) scLineOf.nd rfl (Or.inl rfl) (pe_op op_rep (pe_lst (pa_cons pe_int pa_nil)) (pe_callB call_len_seq (by rfl) T.len boot_len (pa_cons (pv 0) pa_nil))))
      (pss_cons (ps_for PassesOwn.never rfl (pi_enumT (by rfl) T.enumerate (pa_cons (pv 0) pa_nil)) (pg_tup rfl (pgs_cons (pg_name (i := 2) scLineOf.nd rfl (Or.inl rfl)) (pgs_cons (pg_name (i := 3) scLineOf.nd rfl (Or.inl rfl)) pgs_nil)))
        (pss_one (ps_asg (pe_ix ix_tup (pv 0) (pe_op op_modN (pe_op op_add (pv 2) pe_int) (pe_callB call_len_seq (by rfl) T.len boot_len (pa_cons (pv 0) pa_nil))) (fun _ _ => rfl)) (pg_sub (pv 1) (pv 3) set_list))))
      (pss_one (ps_ret (pv 1)))), ?_⟩
    obtain ⟨a, t, rfl, hs, hz, ht, q⟩ := h
    have hpos := ht.pos
    refine ⟨by show 1 ≤ sizeLine; decide, fun p0 n0 => ⟨_, rfl, a, _, rfl, .inr (Same.seqT (Same.new n0) hs), p0, _, _, rfl, rfl, upd_same, ?_, ?_, ?_, fun F nF => ?_⟩⟩
    · rw [vN_length]; omega
    · rw [vN_length]; omega
    · rw [vN_length, show ((t.length : Nat) : Int).toNat = t.length by omega]
      show 1 * t.length ≤ sizeLine
      exact sz1000 (by omega)
    · have s0 : Same H (upd (upd H p0 (.lst [V.int 0])) F (.lst (List.replicate ((vN t).length : Int).toNat [V.int 0]).flatten)) := (Same.new n0).trans (Same.new nF)
      have hF : H F = none := Same.free (Same.new n0) nF
      refine ⟨_, rfl, a, _, rfl, Same.seqT s0 hs, for_enumT (K := K) (a := a) (xs := vN t) (fun i σ H' => (∃ v2 v3, σ = [some (.ref a), some (.ref F), v2, v3]) ∧ Same H H' ∧ H' F = some (.lst (vN (lineUp t i)))) ⟨⟨none, none, rfl⟩, s0, ?_⟩ (fun i σ H' _ p => Same.seqT p.2.1 hs) ?_ ?_⟩
      · rw [upd_same, vN_length, show ((t.length : Nat) : Int).toNat = t.length by omega]
        congr 2
        unfold lineUp vN vI Rt.nts
        simp [List.map_replicate]
      · rintro i x T0 σ H' hi ⟨⟨v2, v3, rfl⟩, s1, hL⟩ nT
        obtain ⟨n, hn, rfl⟩ := vN_inv hi
        have hit : i < t.length := (List.getElem?_eq_some_iff.mp hn).1
        have hnt : t[i] = n := (List.getElem?_eq_some_iff.mp hn).2
        have hnl : n < t.length := hnt ▸ ht.lt _ (List.getElem_mem hit)
        have hm : (i + 1) % t.length < t.length := Nat.mod_lt _ hpos
        have s2 : Same H' (upd H' T0 (.tup [.int (i : Nat), .int (n : Int)])) := Same.new nT
        have em : (((i : Nat) : Int) + 1).fmod ((vN t).length : Nat) = (((i + 1) % t.length : Nat) : Int) := by
          rw [vN_length, Int.fmod_eq_emod_of_nonneg _ (by omega)]
          push_cast
          rfl
        refine ⟨T0, _, rfl, seqT_new, rfl, _, _, rfl, _, _, rfl, rfl, _, rfl, _, rfl, _, _, rfl, rfl, _, rfl, a, _, rfl, .inr (Same.seqT (s1.trans s2) hs), _, _, rfl, rfl, by rw [vN_length]; omega, a, _, _, .int ((t.getD ((i + 1) % t.length) 0 : Nat) : Int), rfl, rfl, Same.seqT (s1.trans s2) hs, ?_, _, rfl, _, rfl, F, _, _, n, rfl, rfl, s2 _ _ hL, ?_, ⟨_, _, rfl⟩, Same.mut (s1.trans s2) hF, ?_⟩
        · rw [em]
          refine atI_nat (vN_get ?_)
          rw [List.getD_eq_getElem?_getD, List.getElem?_eq_getElem hm]; rfl
        · unfold ixN
          rw [vN_length, lineUp_length, if_pos (by omega), if_pos (by omega)]
          congr 1
        · rw [upd_same, lineUp_succ]
          have e1 : t.getD i 0 = n := by rw [List.getD_eq_getElem?_getD, hn]; rfl
          rw [e1]
          unfold vN vI Rt.nts
          rw [List.map_set, List.map_set]
      · rintro σ H' ⟨⟨v2, v3, rfl⟩, s1, hL⟩
        rw [vN_length, lineUp_all ht] at hL
        exact ⟨_, rfl, q _ F s1 hL⟩
/-! ## all_types -/
abbrev sAll : Stmt := top 5
abbrev nAll : List Str := ["steps", "found", "turn", "longer", "begun", "number"]
theorem scAll : FnScope nAll ["steps"] (defScope sAll) := ⟨rfl, rfl, rfl, by decide +kernel, rfl, by decide +kernel, by decide +kernel⟩
def spAll : Sp := fun vs H Q _ => ∃ k : Nat, vs = [.int (k : Int)] ∧ 1 ≤ k ∧ k ≤ 5 ∧ ∀ H' p, Same H H' → LT H' p (Su184.all k) → Q (.ref p) H'
theorem ok_all {f : Addr} {fd : FuncData} (F : Fun K "all_types" "all_types" sAll f fd) (T : Blt mg) : FnOk P w K mg base CX0 1 f fd ["steps"] spAll := by
  refine F.ok scAll (fun vs H Q E h => ?_) (fun cdv A outer s H vs Q E hr h => ?_)
  · obtain ⟨a, rfl, _⟩ := h; rfl
  · refine ⟨_, pss_cons (ps_set (i := 1) scAll.nd rfl (Or.inl rfl) (pe_lst (pa_cons (pe_tup (pa_cons pe_int pa_nil)) pa_nil)))
      (pss_cons (ps_for PassesOwn.never rfl (pi_range1 rfl T.range (pa_cons (pe_op op_sub (pv 0) pe_int) pa_nil)) (pg_name (i := 2) scAll.nd rfl (Or.inl rfl))
        (pss_cons (ps_set (i := 3) scAll.nd rfl (Or.inl rfl) (pe_lst pa_nil))
        (pss_cons (ps_for PassesOwn.never rfl (pi_list (pv 1)) (pg_name (i := 4) scAll.nd rfl (Or.inr rfl))
          (pss_one (ps_expr (pe_bm PySem.F.plainAttrs_list PySem.F.slot_list_extend PySem.F.type_list_extend mt_extend (pv 3) (pa_cons
            (pe_lc (own := [("number", 5)]) (g := gName 5) (tt := tTest (tOp (rIn K true) (tVar 5) (tVar 4))) (te := tOp (rCatA K) (tVar 4) (tTup (tCons (tVar 5) tNil))) rfl scAll.nd (pi_range1 rfl T.range (pa_cons (pv 0) pa_nil)) (blkOk_by (N := nAll) (sc := defScope sAll) (by decide +kernel)) (fun _ _ _ _ _ => pg_name (i := 5) scAll.nd rfl (Or.inl rfl))
              (fun _ _ _ _ _ => pts_one (pt_cmpR op_notIn_seq (pv 5) (pv 4) (by rfl)))
              (fun _ _ _ _ _ => pe_op op_catA (pv 4) (pe_tup (pa_cons (pv 5) pa_nil)))) pa_nil)))))
        (pss_one (ps_set (i := 1) scAll.nd rfl (Or.inl rfl) (pv 3))))))
      (pss_one (ps_ret (pv 1)))), ?_⟩
    obtain ⟨k, rfl, k1, k5, q⟩ := h
    refine ⟨by show 1 ≤ sizeLine; decide, fun p0 n0 => ⟨by show 1 ≤ sizeLine; decide, fun f0 m0 => ?_⟩⟩
    have s0 : Same H (upd (upd H p0 (.tup [.int 0])) f0 (.lst [.ref p0])) := (Same.new n0).trans (Same.new m0)
    refine ⟨_, rfl, _, _, rfl, rfl, (k : Int) - 1, rfl, by omega, by omega, for_range (lo := 0) (n := ((k : Int) - 1).toNat) (fun i σ H' => (∃ fa v2 v3 v4 v5, σ = [some (.int (k : Int)), some (.ref fa), v2, v3, v4, v5] ∧ LT H' fa (allN k i)) ∧ Same H H') ?_ ?_ ?_⟩
    · refine ⟨⟨f0, none, none, none, none, rfl, [(p0, [0])], rfl, upd_same, fun p hp => ?_⟩, s0⟩
      rw [List.mem_singleton] at hp
      subst hp
      exact (Same.new m0) _ _ upd_same
    · rintro i σ H1 hi ⟨⟨fa, v2, v3, v4, v5, rfl, L, eL, hL, tL⟩, s1⟩
      have hik : i < k := by omega
      have hlen := allN_len k1 k5 hik
      have hlen2 := allN_len (j := i + 1) k1 k5 (by omega)
      refine ⟨by show 0 ≤ sizeLine; decide, fun lg nlg => ?_⟩
      have s2 : Same H1 (upd H1 lg (.lst [])) := Same.new nlg
      refine ⟨_, rfl, fa, rfl, ⟨_, SqL.of (s2 _ _ hL)⟩, for_list (K := K) (a := fa) (xs := refs L) (fun m σ H2 => (∃ v4 v5, σ = [some (.int (k : Int)), some (.ref fa), some (.int (0 + (i : Int))), some (.ref lg), v4, v5]) ∧ Same H1 H2 ∧ ∃ M, kinds M = extK k ((allN k i).take m) ∧ H2 lg = some (.lst (refs M)) ∧ TL H2 M) ?_ (fun m σ H2 _ p => SqL.of (p.2.1 _ _ hL)) ?_ ?_⟩
      · exact ⟨⟨v4, v5, rfl⟩, s2, [], rfl, upd_same, fun p hp => nomatch hp⟩
      · rintro m x σ H2 hx ⟨⟨v4, v5, rfl⟩, s3, M, eM, hM, tM⟩
        obtain ⟨pb, hpb, rfl⟩ : ∃ pb, L[m]? = some pb ∧ x = V.ref pb.1 := by
          rw [List.getElem?_map] at hx
          cases e : L[m]? with
          | none => rw [e] at hx; cases hx
          | some z => rw [e] at hx; exact ⟨z, rfl, (Option.some.inj hx).symm⟩
        have hbm : (allN k i)[m]? = some pb.2 := by rw [← eL, List.getElem?_map, hpb]; rfl
        have hb := (tL pb (List.mem_of_getElem? hpb))
        have hb5 := hlen.2 pb.2 (List.mem_of_getElem? hbm)
        refine ⟨_, rfl, .inl ⟨rfl, _, SqL.of hM⟩, _, rfl, (k : Int), rfl, by omega, by omega, fun D hD => lc_range (lo := 0) (n := ((k : Int)).toNat) (fun j H3 => Same H2 H3 ∧ ∃ N, kinds N = (((List.range j).filter fun n => !pb.2.contains n).map fun n => pb.2 ++ [n]) ∧ H3 D = some (.lst (refs N)) ∧ TL H3 N) ?_ ?_ ?_⟩
        · exact ⟨Same.new hD, [], rfl, upd_same, fun p hp => nomatch hp⟩
        · rintro j H3 hj ⟨s4, N, eN, hN, tN⟩
          have hb3 : H3 pb.1 = some (.tup (vN pb.2)) := (s3.trans s4) _ _ hb
          refine ⟨rfl, _, rfl, _, rfl, pb.1, _, rfl, .inr (SqT.of hb3), rfl, flatN _, _, rfl, ?_⟩
          have e0 : (0 : Int) + (j : Int) = (j : Int) := Int.zero_add _
          rw [e0, if_pos rfl, inV_N]
          by_cases c : pb.2.contains j = true
          · rw [c]
            refine iteF ⟨s4, N, ?_, hN, tN⟩
            rw [List.range_succ, List.filter_append, List.map_append, List.filter_cons, if_neg (by rw [c]; decide), eN]
            simp
          · have c' : pb.2.contains j = false := by simpa using c
            rw [c']
            refine iteT ⟨_, rfl, _, rfl, by show 1 ≤ sizeLine; decide, fun p1 n1 => catA_go (Same.seqT (Same.new n1) (SqT.of hb3)) seqT_new (by rw [vN_length]; simp; omega) (fun e => ?_) (fun e => nomatch e) fun p2 n2 => ?_⟩
            · -- nothing begun: the new one itself
              have z : pb.2 = [] := by
                have := congrArg List.length e
                rw [vN_length] at this
                exact List.length_eq_zero_iff.mp this
              refine ⟨_, (Same.new n1) _ _ hN, ?_, Same.mut (s4.trans (Same.new n1)) hD, N ++ [(p1, [j])], ?_, ?_, ?_⟩
              · rw [List.length_map]
                have := congrArg List.length eN
                rw [List.length_map, List.length_map] at this
                have h2 := List.length_filter_le (fun n => !pb.2.contains n) (List.range j)
                rw [List.length_range] at h2
                exact szlt (by omega)
              · rw [List.range_succ, List.filter_append, List.map_append, kinds_app, List.filter_cons, if_pos (by rw [c']; rfl), eN, z]; rfl
              · rw [upd_same, refs_app]; rfl
              · refine TL.upd (TL.app (tN.same (Same.new n1)) fun p hp => ?_) ((Same.new n1) _ _ hN)
                rw [List.mem_singleton] at hp
                subst hp
                exact upd_same
            · refine ⟨_, ((Same.new n1).trans (Same.new n2)) _ _ hN, ?_, Same.mut (s4.trans ((Same.new n1).trans (Same.new n2))) hD, N ++ [(p2, pb.2 ++ [j])], ?_, ?_, ?_⟩
              · rw [List.length_map]
                have := congrArg List.length eN
                rw [List.length_map, List.length_map] at this
                have h2 := List.length_filter_le (fun n => !pb.2.contains n) (List.range j)
                rw [List.length_range] at h2
                exact szlt (by omega)
              · rw [List.range_succ, List.filter_append, List.map_append, kinds_app, List.filter_cons, if_pos (by rw [c']; rfl), eN]; rfl
              · rw [upd_same, refs_app]; rfl
              · refine TL.upd (TL.app (tN.same ((Same.new n1).trans (Same.new n2))) fun p hp => ?_) (((Same.new n1).trans (Same.new n2)) _ _ hN)
                rw [List.mem_singleton] at hp
                subst hp
                rw [upd_same]
                show _ = some (HO.tup (vN (pb.2 ++ [j])))
                rw [vN_snoc]
        · rintro H3 ⟨s4, N, eN, hN, tN⟩
          rw [show ((k : Int)).toNat = k by omega] at eN
          have hM3 := s4 _ _ hM
          have eMN : kinds (M ++ N) = extK k ((allN k i).take (m + 1)) := by
            rw [take_more hbm]
            unfold extK at eM ⊢
            rw [List.flatMap_append, ← eM, kinds_app, eN]
            simp
          refine ⟨lg, D, _, _, rfl, rfl, hM3, hN, ?_, ⟨_, _, rfl⟩, Same.mut (s3.trans s4) nlg, M ++ N, eMN, ?_, ?_⟩
          · rw [← List.length_append, ← refs_app, List.length_map]
            have l1 := congrArg List.length eMN
            rw [List.length_map] at l1
            have l2 : (extK k ((allN k i).take (m + 1))).length ≤ (allN k i).length * 5 := by
              have gen : ∀ l : List (List Nat), (extK k l).length ≤ l.length * 5 := by
                intro l
                induction l with
                | nil => simp [extK]
                | cons b l ih =>
                  have h1 : (extK k (b :: l)).length = (((List.range k).filter fun n => !b.contains n).map fun n => b ++ [n]).length + (extK k l).length := by
                    unfold extK
                    rw [List.flatMap_cons, List.length_append]
                  rw [h1, List.length_map, List.length_cons]
                  have h2 := List.length_filter_le (fun n => !b.contains n) (List.range k)
                  rw [List.length_range] at h2
                  omega
              have := gen ((allN k i).take (m + 1))
              have h3 : ((allN k i).take (m + 1)).length ≤ (allN k i).length := by rw [List.length_take]; omega
              omega
            exact sz1000 (by omega)
          · rw [upd_same, refs_app]
          · exact TL.upd (TL.app (tM.same s4) tN) hM3
      · rintro σ H2 ⟨⟨v4, v5, rfl⟩, s3, M, eM, hM, tM⟩
        have e1 : (refs L).length = (allN k i).length := by rw [← eL, List.length_map, List.length_map]
        rw [e1, List.take_length] at eM
        exact ⟨_, rfl, ⟨lg, _, _, _, _, rfl, M, eM, hM, tM⟩, s1.trans s3⟩
    · rintro σ H1 ⟨⟨fa, v2, v3, v4, v5, rfl, hL⟩, s1⟩
      rw [show ((k : Int) - 1).toNat = k - 1 by omega, allN_all k1 k5] at hL
      exact ⟨_, rfl, q _ fa s1 hL⟩
end
end Rw

set_option maxRecDepth 100000
set_option maxHeartbeats 2000000
/-! # The walk: a kind's line -/
namespace Rw
open PySem PySem.Spec PyProof.Rows L2
abbrev lineOf (t : List Nat) := Su184.lineOf t
abbrev steeps (t : List Nat) (i : Nat) : List Int := (List.range i).map (lineOf t).slope
abbrev lifts (t : List Nat) (i : Nat) : List Int := (List.range i).map (Rt.lift (lineOf t))
abbrev ontos (t : List Nat) (i : Nat) : List (List Nat) := (List.range i).map (Rt.onto (lineOf t))
/-- lists that stand -/
def OL (H : Hp) (L : List (Addr × List Nat)) : Prop := ∀ p ∈ L, H p.1 = some (.lst (vN p.2))
def fL (a b c : Addr) : List (Str × V) := [("steep", .ref a), ("lift", .ref b), ("onto", .ref c)]
theorem fL_steep (a b c : Addr) : List.lookup ("steep" : Str) (fL a b c) = some (V.ref a) := rfl
theorem fL_lift (a b c : Addr) : List.lookup ("lift" : Str) (fL a b c) = some (V.ref b) := rfl
theorem fL_onto (a b c : Addr) : List.lookup ("onto" : Str) (fL a b c) = some (V.ref c) := rfl
/-- all but x is as it was -/
def SB (x : Addr) (H H' : Hp) : Prop := ∀ b o, H b = some o → b ≠ x → H' b = some o
theorem SB.new {x p : Addr} {H H' : Hp} {o : HO} (s : SB x H H') (h : H' p = none) : SB x H (upd H' p o) := fun b u e n => by
  rw [upd_ne (ne_of_none (s b u e n) h)]
  exact s b u e n
theorem SB.self {x : Addr} {H H' : Hp} {o : HO} (s : SB x H H') : SB x H (upd H' x o) := fun b u e n => by
  rw [upd_ne n]
  exact s b u e n
theorem SB.mut {x p : Addr} {H H' : Hp} {o : HO} (s : SB x H H') (h : H p = none) : SB x H (upd H' p o) := fun b u e n => by
  rw [upd_ne (ne_of_none e h)]
  exact s b u e n
theorem SB.same {x : Addr} {H H1 H2 : Hp} (s : SB x H H1) (k : Same H1 H2) : SB x H H2 := fun b u e n => k b u (s b u e n)
theorem SB.free {x p : Addr} {H H' : Hp} (s : SB x H H') (h : H' p = none) (n : p ≠ x) : H p = none := by
  cases e : H p with
  | none => rfl
  | some o => rw [s p o e n] at h; cases h
theorem fL_make (a b c : Addr) : putF "onto" (.ref c) (putF "lift" (.ref b) (putF "steep" (.ref a) [])) = fL a b c := rfl
/-- a kind's line, its first i pieces, at x -/
structure LineUp (C : Addr) (H : Hp) (x dx sa la oa : Addr) (t : List Nat) (i : Nat) (O : List (Addr × List Nat)) : Prop where
  obj : H x = some (.ins C dx (fL sa la oa))
  sl : H sa = some (.lst (vI (steeps t i)))
  ll : H la = some (.lst (vI (lifts t i)))
  ol : H oa = some (.lst (refs O))
  ek : kinds O = ontos t i
  on : OL H O
def LineAt (C : Addr) (H : Hp) (x : Addr) (t : List Nat) : Prop := ∃ dx sa la oa O, LineUp C H x dx sa la oa t (t.length - 1) O
theorem OL.same {H H' : Hp} {L : List (Addr × List Nat)} (h : OL H L) (k : Same H H') : OL H' L := fun p hp => k _ _ (h p hp)
theorem LineAt.same {C : Addr} {H H' : Hp} {x : Addr} {t : List Nat} (h : LineAt C H x t) (k : Same H H') : LineAt C H' x t := by
  obtain ⟨dx, sa, la, oa, O, a, b, c, d, e, f⟩ := h
  exact ⟨dx, sa, la, oa, O, k _ _ a, k _ _ b, k _ _ c, k _ _ d, e, f.same k⟩
theorem putOf_get {t : List Nat} {j : Nat} (h : j < t.length) : (Su184.putOf t)[j]? = some ((lineOf t).point j) := by
  show (Su184.putOf t)[j]? = some ((Su184.putOf t).getD j 0)
  rw [List.getD_eq_getElem?_getD, List.getElem?_eq_getElem (by rw [Rt.putOf_length]; exact h)]; rfl
theorem rgV_nat (a b : Nat) : rgV (a : Int) (b : Int) = vN (List.range' a (b - a)) := by
  unfold rgV vN vI Rt.nts
  rw [show ((b : Int) - (a : Int)).toNat = b - a by omega, List.range'_eq_map_range, List.map_map, List.map_map]
  exact List.map_congr_left fun i _ => by simp
theorem cut2 {l : List Nat} {i a b : Nat} (h1 : l[i]? = some a) (h2 : l[i + 1]? = some b) : cutV (vN l) (some (i : Int)) (some ((i : Int) + 2)) = vN [a, b] := by
  have hi : i + 1 < l.length := (List.getElem?_eq_some_iff.mp h2).1
  unfold cutV
  rw [show (i : Int) + 2 = ((i + 2 : Nat) : Int) by omega, HT.sIx_nat, HT.sIx_nat, vN_length, Nat.min_eq_left (by omega), Nat.min_eq_left (by omega), show i + 2 - i = 2 by omega]
  refine List.ext_getElem? fun j => ?_
  rw [List.getElem?_take]
  match j with
  | 0 => rw [if_pos (by omega), List.getElem?_drop, vN_get (show l[i + 0]? = some a from h1)]; rfl
  | 1 => rw [if_pos (by omega), List.getElem?_drop, vN_get h2]; rfl
  | j + 2 => rw [if_neg (by omega)]; rfl
theorem point_lt {t : List Nat} (h : Rt.IsT t) (j : Nat) : (lineOf t).point j < t.length := by
  have := Rt.point_le h j
  rw [Rt.line_n] at this
  have := h.pos
  have e : (lineOf t).point j = (Su184.lineOf t).point j := rfl
  omega
section
variable {P : Program} {w : World} {K : PySem.W.Frag} {mg : Str → Option Value} {base : Heap}
abbrev sLineInit : Stmt := inClass (top 10) 0
abbrev nLineInit : List Str := ["self", "row", "ends", "piece", "steep"]
theorem scLineInit : FnScope nLineInit ["self", "row"] (defScope sLineInit) := ⟨rfl, rfl, rfl, by decide +kernel, rfl, by decide +kernel, by decide +kernel⟩
/-- the class of lines -/
structure LineTxt (K : PySem.W.Frag) (C : Addr) : Prop where
  cl : Cls K C
  nS : NoAttr K C "steep"
  nL : NoAttr K C "lift"
  nO : NoAttr K C "onto"
def spLineInit (K : PySem.W.Frag) (C : Addr) : Sp := fun vs H Q _ => ∃ (x dx r : Addr) (t : List Nat), vs = [.ref x, .ref r] ∧ H x = some (.ins C dx []) ∧ SqT K H r (vN t) ∧ t.length ≤ 1000 ∧ Rt.IsT t ∧
  ∀ H', (∀ b o, H b = some o → b ≠ x → H' b = some o) → LineAt C H' x t → Q .non H'
theorem ok_lineInit {f C : Addr} {fd : FuncData} (F : Fun K "__init__" "Line.__init__" sLineInit f fd) (T : Blt mg) (TL : LineTxt K C) (hB : Has P w K mg base CX0 1 "line_of" ["row"] (spLineOf K)) : FnOk P w K mg base CX0 2 f fd ["self", "row"] (spLineInit K C) := by
  obtain ⟨fB, fdB, gB, kB, bB, GB⟩ := hB
  refine F.ok scLineInit (fun vs H Q E h => ?_) (fun cdv A outer s H vs Q E hr h => ?_)
  · obtain ⟨x, dx, r, t, rfl, _⟩ := h; rfl
  · refine ⟨_, pss_cons (ps_set (i := 2) scLineInit.nd rfl (Or.inl rfl) (pe_call GB hr rfl gB kB bB .nil pass0 (pa_cons (pv 1) pa_nil)))
      (pss_cons (ps_fld (pv 0) (pe_lst pa_nil) rfl) (pss_cons (ps_fld (pv 0) (pe_lst pa_nil) rfl) (pss_cons (ps_fld (pv 0) (pe_lst pa_nil) rfl)
      (pss_one (ps_for PassesOwn.never rfl (pi_range1 rfl T.range (pa_cons (pe_op op_sub (pe_callB call_len_seq (by rfl) T.len boot_len (pa_cons (pv 1) pa_nil)) pe_int) pa_nil)) (pg_name (i := 3) scLineInit.nd rfl (Or.inl rfl))
        (pss_cons (ps_set (i := 4) scLineInit.nd rfl (Or.inl rfl) (pe_op op_sub (pe_ix ix_list (pv 2) (pe_op op_add (pv 3) pe_int) (fun _ _ => rfl)) (pe_ix ix_list (pv 2) (pv 3) (fun _ _ => rfl))))
        (pss_cons (ps_expr (pe_bm PySem.F.plainAttrs_list PySem.F.slot_list_append PySem.F.type_list_append mt_append (pe_fld (pv 0) rfl) (pa_cons (pv 4) pa_nil)))
        (pss_cons (ps_expr (pe_bm PySem.F.plainAttrs_list PySem.F.slot_list_append PySem.F.type_list_append mt_append (pe_fld (pv 0) rfl) (pa_cons (pe_op op_sub (pe_ix ix_list (pv 2) (pv 3) (fun _ _ => rfl)) (pe_op op_mul (pv 4) (pv 3))) pa_nil)))
        (pss_one (ps_expr (pe_bm PySem.F.plainAttrs_list PySem.F.slot_list_append PySem.F.type_list_append mt_append (pe_fld (pv 0) rfl) (pa_cons
          (pe_listRg rfl (by rfl) T.list (prg_2 (by rfl) T.range
            (pe_callB (cr_min rfl) (by rfl) T.min boot_min (pa_cons (pe_slice sl_list (pv 2) (po_some (pv 3)) (po_some (pe_op op_add (pv 3) pe_int))) pa_nil))
            (pe_callB (cr_max rfl) (by rfl) T.max boot_max (pa_cons (pe_slice sl_list (pv 2) (po_some (pv 3)) (po_some (pe_op op_add (pv 3) pe_int))) pa_nil)))) pa_nil)))))))))))), ?_⟩
    obtain ⟨x, dx, r, t, rfl, hx, hs, hz, ht, q⟩ := h
    refine ⟨_, rfl, r, t, rfl, hs, hz, ht, fun H1 ea s1 hE => ?_⟩
    have hx1 := s1 _ _ hx
    refine ⟨by show 0 ≤ sizeLine; decide, fun sa ns => ⟨_, rfl, x, C, dx, _, rfl, (s1.trans (Same.new ns)) _ _ hx, TL.cl, TL.nS, by show 0 < 1000; decide, ?_⟩⟩
    have xs : x ≠ sa := ne_of_none hx1 ns
    have b1 : SB x H H1 := fun b o e _ => s1 b o e
    have b2 := (b1.new (o := .lst []) ns).self (o := .ins C dx (putF "steep" (.ref sa) []))
    generalize hH2 : upd (upd H1 sa (.lst [])) x (.ins C dx (putF "steep" (.ref sa) [])) = H2 at b2
    have x2 : H2 x = some (.ins C dx (putF "steep" (.ref sa) [])) := by rw [← hH2]; exact upd_same
    have a2 : H2 sa = some (.lst []) := by rw [← hH2, upd_ne (Ne.symm xs)]; exact upd_same
    have e2 : H2 ea = some (.lst (vN (Su184.putOf t))) := by rw [← hH2, upd_ne (ne_of hE hx1 (by intro z; cases z)), upd_ne (ne_of_none hE ns)]; exact hE
    show tSeq _ _ _ _ H2
    refine ⟨by show 0 ≤ sizeLine; decide, fun la nl => ⟨_, rfl, x, C, dx, _, rfl, (Same.new nl) _ _ x2, TL.cl, TL.nL, by show 1 < 1000; decide, ?_⟩⟩
    have xl : x ≠ la := ne_of_none x2 nl
    have sl_ : sa ≠ la := ne_of_none a2 nl
    have b3 := (b2.new (o := .lst []) nl).self (o := .ins C dx (putF "lift" (.ref la) (putF "steep" (.ref sa) [])))
    generalize hH3 : upd (upd H2 la (.lst [])) x (.ins C dx (putF "lift" (.ref la) (putF "steep" (.ref sa) []))) = H3 at b3
    have x3 : H3 x = some (.ins C dx (putF "lift" (.ref la) (putF "steep" (.ref sa) []))) := by rw [← hH3]; exact upd_same
    have a3 : H3 sa = some (.lst []) := by rw [← hH3, upd_ne (Ne.symm xs), upd_ne sl_]; exact a2
    have l3 : H3 la = some (.lst []) := by rw [← hH3, upd_ne (Ne.symm xl)]; exact upd_same
    have e3 : H3 ea = some (.lst (vN (Su184.putOf t))) := by rw [← hH3, upd_ne (ne_of e2 x2 (by intro z; cases z)), upd_ne (ne_of_none e2 nl)]; exact e2
    show tSeq _ _ _ _ H3
    refine ⟨by show 0 ≤ sizeLine; decide, fun oa no => ⟨_, rfl, x, C, dx, _, rfl, (Same.new no) _ _ x3, TL.cl, TL.nO, by show 2 < 1000; decide, ?_⟩⟩
    have xo : x ≠ oa := ne_of_none x3 no
    have so_ : sa ≠ oa := ne_of_none a3 no
    have lo_ : la ≠ oa := ne_of_none l3 no
    have eo : ea ≠ oa := ne_of_none e3 no
    have el : ea ≠ la := ne_of_none e2 nl
    have es : ea ≠ sa := ne_of_none hE ns
    have b4 := (b3.new (o := .lst []) no).self (o := .ins C dx (fL sa la oa))
    rw [fL_make]
    generalize hH4 : upd (upd H3 oa (.lst [])) x (.ins C dx (fL sa la oa)) = H4 at b4
    have x4 : H4 x = some (.ins C dx (fL sa la oa)) := by rw [← hH4]; exact upd_same
    have a4 : H4 sa = some (.lst []) := by rw [← hH4, upd_ne (Ne.symm xs), upd_ne so_]; exact a3
    have l4 : H4 la = some (.lst []) := by rw [← hH4, upd_ne (Ne.symm xl), upd_ne lo_]; exact l3
    have o4 : H4 oa = some (.lst []) := by rw [← hH4, upd_ne (Ne.symm xo)]; exact upd_same
    have e4 : H4 ea = some (.lst (vN (Su184.putOf t))) := by rw [← hH4, upd_ne (ne_of e3 x3 (by intro z; cases z)), upd_ne eo]; exact e3
    have fs : H sa = none := (b1.free ns (Ne.symm xs))
    have fl : H la = none := (b2.free nl (Ne.symm xl))
    have fo : H oa = none := (b3.free no (Ne.symm xo))
    have rn : ∀ {H' : Hp}, SB x H H' → SqT K H' r (vN t) := fun {H'} b => by
      rcases hs with (h | ⟨o, h⟩) | h
      · exact .inl (.inl (b _ _ h (ne_of h hx (by intro z; cases z))))
      · exact .inl (.inr ⟨o, b _ _ h (ne_of h hx (by intro z; cases z))⟩)
      · exact .inr h
    refine ⟨_, rfl, r, _, rfl, .inr (rn b4), _, _, rfl, rfl, ((vN t).length : Int) - 1, rfl, by rw [vN_length]; omega, by rw [vN_length]; omega, for_range (lo := 0) (n := (((vN t).length : Int) - 1).toNat) (fun i σ H' => (∃ v3 v4, σ = [some (.ref x), some (.ref r), some (.ref ea), v3, v4]) ∧ SB x H H' ∧ H' ea = some (.lst (vN (Su184.putOf t))) ∧ ∃ O, LineUp C H' x dx sa la oa t i O ∧ ∀ p ∈ O, p.1 ≠ sa ∧ p.1 ≠ la ∧ p.1 ≠ oa) ?_ ?_ ?_⟩
    · exact ⟨⟨none, none, rfl⟩, b4, e4, [], ⟨x4, a4, l4, o4, rfl, fun p hp => nomatch hp⟩, fun p hp => nomatch hp⟩
    · rintro i σ H' hi ⟨⟨v3, v4, rfl⟩, b5, e5, O, lu, sep⟩
      rw [vN_length] at hi
      have hi1 : i + 1 < t.length := by omega
      have g0 := putOf_get (t := t) (j := i) (by omega)
      have g1 := putOf_get (t := t) (j := i + 1) hi1
      have p0 := point_lt ht i
      have p1 := point_lt ht (i + 1)
      have ei : (0 : Int) + (i : Int) = (i : Int) := Int.zero_add _
      have dslope : (lineOf t).slope i = ((lineOf t).point (i + 1) : Int) - ((lineOf t).point i : Int) := rfl
      refine ⟨_, rfl, _, rfl, _, _, rfl, rfl, ea, _, _, .int ((lineOf t).point (i + 1)), rfl, rfl, SqL.of e5, ?_, _, rfl, _, rfl, ea, _, _, .int ((lineOf t).point i), rfl, rfl, SqL.of e5, ?_, _, _, rfl, rfl, ?_⟩
      · rw [ei, show (i : Int) + 1 = ((i + 1 : Nat) : Int) by omega]
        exact atI_nat (vN_get g1)
      · rw [ei]
        exact atI_nat (vN_get g0)
      -- self.steep.append(steep)
      refine ⟨_, rfl, x, C, dx, _, _, rfl, lu.obj, TL.cl, TL.nS, fL_steep sa la oa, .inl ⟨rfl, _, SqL.of lu.sl⟩, _, rfl, sa, _, _, rfl, rfl, lu.sl, ?_, ?_⟩
      · rw [List.length_map, List.length_map, List.length_range]
        exact szlt (by omega)
      have b6 := b5.mut (o := .lst (vI (steeps t i) ++ [V.int (((lineOf t).point (i + 1) : Int) - ((lineOf t).point i : Int))])) fs
      generalize hH6 : upd H' sa (.lst (vI (steeps t i) ++ [V.int (((lineOf t).point (i + 1) : Int) - ((lineOf t).point i : Int))])) = H6 at b6
      have x6 : H6 x = some (.ins C dx (fL sa la oa)) := by rw [← hH6, upd_ne xs]; exact lu.obj
      have s6 : H6 sa = some (.lst (vI (steeps t (i + 1)))) := by
        rw [← hH6, upd_same]
        unfold steeps vI
        rw [List.range_succ, List.map_append, List.map_append]; rfl
      have l6 : H6 la = some (.lst (vI (lifts t i))) := by rw [← hH6, upd_ne (Ne.symm sl_)]; exact lu.ll
      have o6 : H6 oa = some (.lst (refs O)) := by rw [← hH6, upd_ne (Ne.symm so_)]; exact lu.ol
      have e6 : H6 ea = some (.lst (vN (Su184.putOf t))) := by rw [← hH6, upd_ne es]; exact e5
      show tSeq _ _ _ _ H6
      -- self.lift.append(..)
      have hlift : ((lineOf t).point i : Int) - (((lineOf t).point (i + 1) : Int) - ((lineOf t).point i : Int)) * (0 + (i : Int)) = Rt.lift (lineOf t) i := by
        unfold Rt.lift
        rw [dslope, ei]
      refine ⟨_, rfl, x, C, dx, _, _, rfl, x6, TL.cl, TL.nL, fL_lift sa la oa, .inl ⟨rfl, _, SqL.of l6⟩, _, rfl, _, rfl, ea, _, _, .int ((lineOf t).point i), rfl, rfl, SqL.of e6, ?_, _, rfl, _, rfl, _, _, rfl, rfl, .inl ⟨by omega, by omega⟩, _, _, rfl, rfl, la, _, _, rfl, rfl, l6, ?_, ?_⟩
      · rw [ei]
        exact atI_nat (vN_get g0)
      · rw [List.length_map, List.length_map, List.length_range]
        exact szlt (by omega)
      show tSeq _ _ _ _ _
      dsimp only
      rw [hlift]
      have b7 := b6.mut (o := .lst (vI (lifts t i) ++ [V.int (Rt.lift (lineOf t) i)])) fl
      generalize hH7 : upd H6 la (.lst (vI (lifts t i) ++ [V.int (Rt.lift (lineOf t) i)])) = H7 at b7
      have x7 : H7 x = some (.ins C dx (fL sa la oa)) := by rw [← hH7, upd_ne xl]; exact x6
      have s7 : H7 sa = some (.lst (vI (steeps t (i + 1)))) := by rw [← hH7, upd_ne sl_]; exact s6
      have l7 : H7 la = some (.lst (vI (lifts t (i + 1)))) := by
        rw [← hH7, upd_same]
        unfold lifts vI
        rw [List.range_succ, List.map_append, List.map_append]; rfl
      have o7 : H7 oa = some (.lst (refs O)) := by rw [← hH7, upd_ne (Ne.symm lo_)]; exact o6
      have e7 : H7 ea = some (.lst (vN (Su184.putOf t))) := by rw [← hH7, upd_ne el]; exact e6
      have on7 : OL H7 O := fun p hp => by
        obtain ⟨h1, h2, _⟩ := sep p hp
        rw [← hH7, upd_ne h2, ← hH6, upd_ne h1]
        exact lu.on p hp
      have cut : cutV (vN (Su184.putOf t)) (some (0 + (i : Int))) (some (0 + (i : Int) + 2)) = vI [((lineOf t).point i : Int), ((lineOf t).point (i + 1) : Int)] := by
        rw [ei]; exact cut2 g0 g1
      -- self.onto.append(..)
      refine ⟨_, rfl, x, C, dx, _, _, rfl, x7, TL.cl, TL.nO, fL_onto sa la oa, .inl ⟨rfl, _, SqL.of o7⟩, _, rfl, _, rfl, _, rfl, _, rfl, _, _, rfl, rfl, _, rfl, ea, _, rfl, SqL.of e7, fun q1 n1 => ?_⟩
      rw [cut]
      refine ⟨q1, [((lineOf t).point i : Int), ((lineOf t).point (i + 1) : Int)], rfl, SqL.of upd_same, by simp, fun m hm hle => ?_⟩
      refine ⟨_, rfl, _, rfl, _, rfl, _, rfl, _, _, rfl, rfl, _, rfl, ea, _, rfl, SqL.of ((Same.new n1) _ _ e7), fun q2 n2 => ?_⟩
      rw [cut]
      refine ⟨q2, [((lineOf t).point i : Int), ((lineOf t).point (i + 1) : Int)], rfl, SqL.of upd_same, by simp, fun M hM hle2 => ?_⟩
      have em : m = ((min ((lineOf t).point i) ((lineOf t).point (i + 1)) : Nat) : Int) := by
        have h1 := hle _ (List.mem_cons_self)
        have h2 := hle ((lineOf t).point (i + 1) : Int) (by simp)
        rcases List.mem_cons.mp hm with h | h
        · omega
        · rw [List.mem_singleton] at h; omega
      have eM : M = ((max ((lineOf t).point i) ((lineOf t).point (i + 1)) : Nat) : Int) := by
        have h1 := hle2 _ (List.mem_cons_self)
        have h2 := hle2 ((lineOf t).point (i + 1) : Int) (by simp)
        rcases List.mem_cons.mp hM with h | h
        · omega
        · rw [List.mem_singleton] at h; omega
      refine ⟨m, M, rfl, rfl, RgOk.of_le (by omega) (by omega) (by omega) (by omega), fun q3 n3 => ?_⟩
      rw [em, eM, rgV_nat]
      have s8 := ((Same.new (o := .lst (vI [((lineOf t).point i : Int), ((lineOf t).point (i + 1) : Int)])) n1).trans (Same.new (o := .lst (vI [((lineOf t).point i : Int), ((lineOf t).point (i + 1) : Int)])) n2)).trans (Same.new (o := .lst (vN (List.range' (min ((lineOf t).point i) ((lineOf t).point (i + 1))) (max ((lineOf t).point i) ((lineOf t).point (i + 1)) - min ((lineOf t).point i) ((lineOf t).point (i + 1)))))) n3)
      have r8 : upd (upd (upd H7 q1 (.lst (vI [((lineOf t).point i : Int), ((lineOf t).point (i + 1) : Int)]))) q2 (.lst (vI [((lineOf t).point i : Int), ((lineOf t).point (i + 1) : Int)]))) q3 (.lst (vN (List.range' (min ((lineOf t).point i) ((lineOf t).point (i + 1))) (max ((lineOf t).point i) ((lineOf t).point (i + 1)) - min ((lineOf t).point i) ((lineOf t).point (i + 1)))))) q3 = some (.lst (vN (Rt.onto (lineOf t) i))) := upd_same
      have n3' : ∀ {b : Addr} {o : HO}, H7 b = some o → b ≠ q3 := fun h => ne_of_none (((Same.new n1).trans (Same.new n2)) _ _ h) n3
      generalize upd (upd (upd H7 q1 (.lst (vI [((lineOf t).point i : Int), ((lineOf t).point (i + 1) : Int)]))) q2 (.lst (vI [((lineOf t).point i : Int), ((lineOf t).point (i + 1) : Int)]))) q3 (.lst (vN (List.range' (min ((lineOf t).point i) ((lineOf t).point (i + 1))) (max ((lineOf t).point i) ((lineOf t).point (i + 1)) - min ((lineOf t).point i) ((lineOf t).point (i + 1)))))) = H8 at s8 r8
      have o8 := s8 _ _ o7
      refine ⟨oa, refs O, _, rfl, rfl, o8, ?_, ⟨_, _, rfl⟩, (b7.same s8).mut fo, ?_, O ++ [(q3, Rt.onto (lineOf t) i)], ⟨?_, ?_, ?_, ?_, ?_, ?_⟩, ?_⟩
      · have := congrArg List.length lu.ek
        rw [List.length_map, List.length_map, List.length_range] at this
        rw [List.length_map]
        exact szlt (by omega)
      · rw [upd_ne eo]; exact s8 _ _ e7
      · rw [upd_ne xo]; exact s8 _ _ x7
      · rw [upd_ne so_]; exact s8 _ _ s7
      · rw [upd_ne lo_]; exact s8 _ _ l7
      · rw [upd_same, refs_app]; rfl
      · rw [kinds_app, lu.ek]
        unfold ontos
        rw [List.range_succ, List.map_append]; rfl
      · intro p hp
        rcases List.mem_append.mp hp with hp | hp
        · rw [upd_ne (sep p hp).2.2]
          exact s8 _ _ (on7 p hp)
        · rw [List.mem_singleton] at hp
          subst hp
          rw [upd_ne (Ne.symm (n3' o7))]
          exact r8
      · intro p hp
        rcases List.mem_append.mp hp with hp | hp
        · exact sep p hp
        · rw [List.mem_singleton] at hp
          subst hp
          exact ⟨Ne.symm (n3' s7), Ne.symm (n3' l7), Ne.symm (n3' o7)⟩
    · rintro σ H' ⟨⟨v3, v4, rfl⟩, b5, e5, O, lu, _⟩
      refine q H' b5 ⟨dx, sa, la, oa, O, ?_⟩
      rw [vN_length, show ((t.length : Int) - 1).toNat = t.length - 1 by omega] at lu
      exact lu
end
end Rw

set_option maxRecDepth 100000
set_option maxHeartbeats 2000000
/-! # The walk: ways_of -/
namespace Rw
open PySem PySem.Spec PyProof.Rows L2
theorem onto_len {t : List Nat} (h : Rt.IsT t) (j : Nat) : (Rt.onto (lineOf t) j).length < t.length := by
  unfold Rt.onto
  rw [List.length_range']
  have := point_lt h j
  have := point_lt h (j + 1)
  have := h.pos
  have e1 : (lineOf t).point j = (Su184.lineOf t).point j := rfl
  omega
theorem longer_len {g : Su183.Abs} {first k : Nat} (h : ∀ j, (Rt.onto g j).length ≤ k) : ∀ l : List (List Nat), (Rt.longer g first l).length ≤ l.length * k := by
  intro l
  induction l with
  | nil => simp [Rt.longer]
  | cons b l ih =>
    have h1 : (Rt.longer g first (b :: l)).length = (((Rt.onto g (b.getLastD 0)).filter fun p => decide (first ≤ p)).map fun p => b ++ [p]).length + (Rt.longer g first l).length := by
      unfold Rt.longer
      rw [List.flatMap_cons, List.length_append]
    rw [h1, List.length_map, List.length_cons]
    have h2 := List.length_filter_le (fun p => decide (first ≤ p)) (Rt.onto g (b.getLastD 0))
    have h3 := h (b.getLastD 0)
    have : (l.length + 1) * k = l.length * k + k := Nat.succ_mul _ _
    omega
theorem someN_len {g : Su183.Abs} {first : Nat} (h : ∀ j, (Rt.onto g j).length ≤ 6) : ∀ m, (Rt.someN g first m).length ≤ 6 ^ m
  | 0 => Nat.le_refl 1
  | m + 1 => by
    have h1 := someN_len (first := first) h m
    have h2 := longer_len (first := first) h (Rt.someN g first m)
    show (Rt.longer g first (Rt.someN g first m)).length ≤ _
    have : 6 ^ (m + 1) = 6 ^ m * 6 := Nat.pow_succ 6 m
    omega
theorem someN_ne {g : Su183.Abs} {first m : Nat} {w : List Nat} (h : w ∈ Rt.someN g first m) : ∃ r, w = first :: r ∧ r.length = m := by
  obtain ⟨r, e, l, _⟩ := Rt.someN_mem.mp h
  exact ⟨r, e, l⟩
theorem last_lt {t : List Nat} (h : Rt.IsT t) {first m : Nat} {w : List Nat} (hf : first < t.length - 1) (hw : w ∈ Rt.someN (lineOf t) first m) : w.getLastD 0 < t.length - 1 := by
  obtain ⟨r, rfl, _, hp, _⟩ := Rt.someN_mem.mp hw
  rw [List.getLastD_cons]
  have key : ∀ (r : List Nat) (j : Nat), j < t.length - 1 → Rt.Pth (lineOf t) j r → r.getLastD j < t.length - 1 := by
    intro r
    induction r with
    | nil => intro j hj _; exact hj
    | cons a r ih =>
      intro j hj hp
      rw [List.getLastD_cons]
      exact ih a (Rt.covers_lt h j a hp.1) hp.2
  exact key r first hf hp
theorem atI_end {l : List Nat} (h : l ≠ []) : atI (vN l) (-1) = some (.int ((l.getLastD 0 : Nat) : Int)) := by
  obtain ⟨r, x, rfl, _⟩ := Rt.exists_snoc (m := l.length - 1) (l := l) (by have := List.length_pos_iff.mpr h; omega)
  rw [vN_snoc, atI_last]
  simp
theorem LineUp.same {C : Addr} {H H' : Hp} {x dx sa la oa : Addr} {t : List Nat} {i : Nat} {O : List (Addr × List Nat)} (lu : LineUp C H x dx sa la oa t i O) (k : Same H H') : LineUp C H' x dx sa la oa t i O :=
  ⟨k _ _ lu.obj, k _ _ lu.sl, k _ _ lu.ll, k _ _ lu.ol, lu.ek, lu.on.same k⟩
theorem LineUp.onto_at {C : Addr} {H : Hp} {x dx sa la oa : Addr} {t : List Nat} {i : Nat} {O : List (Addr × List Nat)} (lu : LineUp C H x dx sa la oa t i O) {l : Nat} (h : l < i) :
    ∃ a, (refs O)[l]? = some (.ref a) ∧ H a = some (.lst (vN (Rt.onto (lineOf t) l))) := by
  have e : (kinds O)[l]? = some (Rt.onto (lineOf t) l) := by rw [lu.ek, List.getElem?_map, List.getElem?_range h]; rfl
  rw [List.getElem?_map] at e
  cases hO : O[l]? with
  | none => rw [hO] at e; cases e
  | some p =>
    rw [hO] at e
    have e2 : p.2 = Rt.onto (lineOf t) l := Option.some.inj e
    refine ⟨p.1, by rw [List.getElem?_map, hO]; rfl, ?_⟩
    have := lu.on p (List.mem_of_getElem? hO)
    rw [e2] at this
    exact this
theorem waysFrom_len {g : Su183.Abs} {k : Nat} (h : ∀ j, (Rt.onto g j).length ≤ 6) (k6 : k ≤ 6) (first : Nat) : (Rt.waysFrom g k first).length ≤ 7776 := by
  have h1 := List.length_filter_le (fun way => (Rt.onto g (way.getLastD 0)).contains first) (Rt.someN g first (k - 1))
  have h2 := someN_len (first := first) h (k - 1)
  have h3 : 6 ^ (k - 1) ≤ 6 ^ 5 := Nat.pow_le_pow_right (by decide) (by omega)
  have h4 : 6 ^ 5 = 7776 := by decide
  unfold Rt.waysFrom
  omega
theorem ways_len {g : Su183.Abs} {k : Nat} (h : ∀ j, (Rt.onto g j).length ≤ 6) (k6 : k ≤ 6) : ∀ i, ((List.range i).flatMap (Rt.waysFrom g k)).length ≤ i * 7776
  | 0 => Nat.le_refl 0
  | i + 1 => by
    rw [List.range_succ, List.flatMap_append, List.length_append]
    have h1 := ways_len h k6 i
    have h2 := waysFrom_len h k6 i
    simp only [List.flatMap_cons, List.flatMap_nil, List.append_nil]
    omega
theorem ref_at {L : List (Addr × List Nat)} {m : Nat} {x : V} (h : (refs L)[m]? = some x) : ∃ p, L[m]? = some p ∧ x = V.ref p.1 := by
  rw [List.getElem?_map] at h
  cases e : L[m]? with
  | none => rw [e] at h; cases h
  | some z => rw [e] at h; exact ⟨z, rfl, (Option.some.inj h).symm⟩
theorem kind_at {L : List (Addr × List Nat)} {ts : List (List Nat)} (e : kinds L = ts) {m : Nat} {p : Addr × List Nat} (h : L[m]? = some p) : ts[m]? = some p.2 := by
  rw [← e, List.getElem?_map, h]; rfl
theorem refs_len {L : List (Addr × List Nat)} {ts : List (List Nat)} (e : kinds L = ts) : (refs L).length = ts.length := by
  rw [← e, List.length_map, List.length_map]
section
variable {P : Program} {w : World} {K : PySem.W.Frag} {mg : Str → Option Value} {base : Heap}
abbrev sWays : Stmt := top 11
abbrev nWays : List Str := ["line", "steps", "found", "first", "some", "turn", "longer", "way", "piece"]
theorem scWays : FnScope nWays ["line", "steps"] (defScope sWays) := ⟨rfl, rfl, rfl, by decide +kernel, rfl, by decide +kernel, by decide +kernel⟩
def spWays (C : Addr) : Sp := fun vs H Q _ => ∃ (x : Addr) (t : List Nat) (k : Nat), vs = [.ref x, .int (k : Int)] ∧ LineAt C H x t ∧ t.length ≤ 7 ∧ Rt.IsT t ∧ 1 ≤ k ∧ k ≤ 6 ∧
  ∀ H' p, Same H H' → LT H' p (Rt.ways (lineOf t) k) → Q (.ref p) H'
theorem ok_ways {f C : Addr} {fd : FuncData} (F : Fun K "ways_of" "ways_of" sWays f fd) (T : Blt mg) (TLn : LineTxt K C) : FnOk P w K mg base CX0 1 f fd ["line", "steps"] (spWays C) := by
  refine F.ok scWays (fun vs H Q E h => ?_) (fun cdv A outer s H vs Q E hr h => ?_)
  · obtain ⟨x, t, k, rfl, _⟩ := h; rfl
  · refine ⟨_, pss_cons (ps_set (i := 2) scWays.nd rfl (Or.inl rfl) (pe_lst pa_nil))
      (pss_cons (ps_for PassesOwn.never rfl (pi_range1 rfl T.range (pa_cons (pe_callB call_len_seq (by rfl) T.len boot_len (pa_cons (pe_fld (pv 0) rfl) pa_nil)) pa_nil)) (pg_name (i := 3) scWays.nd rfl (Or.inr rfl))
        (pss_cons (ps_set (i := 4) scWays.nd rfl (Or.inl rfl) (pe_lst (pa_cons (pe_tup (pa_cons (pv 3) pa_nil)) pa_nil)))
        (pss_cons (ps_for PassesOwn.never rfl (pi_range1 rfl T.range (pa_cons (pe_op op_sub (pv 1) pe_int) pa_nil)) (pg_name (i := 5) scWays.nd rfl (Or.inl rfl))
          (pss_cons (ps_set (i := 6) scWays.nd rfl (Or.inl rfl) (pe_lst pa_nil))
          (pss_cons (ps_for PassesOwn.never rfl (pi_list (pv 4)) (pg_name (i := 7) scWays.nd rfl (Or.inr rfl))
            (pss_one (ps_expr (pe_bm PySem.F.plainAttrs_list PySem.F.slot_list_extend PySem.F.type_list_extend mt_extend (pv 6) (pa_cons
              (pe_lc (own := [("piece", 8)]) (g := gName 8) (tt := tTest (tOp (rI0 fun i j => .bl (decide (j ≤ i))) (tVar 8) (tVar 3))) (te := tOp (rCatA K) (tVar 7) (tTup (tCons (tVar 8) tNil))) rfl scWays.nd
                (pi_list (pe_ix ix_list (pe_fld (pv 0) rfl) (pe_ix ix_tup (pv 7) (pe_un un_neg pe_int) (fun _ _ => rfl)) (fun _ _ => rfl))) (blkOk_by (N := nWays) (sc := defScope sWays) (by decide +kernel)) (fun _ _ _ _ _ => pg_name (i := 8) scWays.nd rfl (Or.inl rfl))
                (fun _ _ _ _ _ => pts_one (pt_cmpR op_ge (pv 8) (pv 3) (nomark _)))
                (fun _ _ _ _ _ => pe_op op_catA (pv 7) (pe_tup (pa_cons (pv 8) pa_nil)))) pa_nil)))))
          (pss_one (ps_set (i := 4) scWays.nd rfl (Or.inl rfl) (pv 6))))))
        (pss_one (ps_expr (pe_bm PySem.F.plainAttrs_list PySem.F.slot_list_extend PySem.F.type_list_extend mt_extend (pv 2) (pa_cons
              (pe_lc (own := [("way", 7)]) (g := gName 7) (tt := tTest (tOp (rIn K false) (tVar 3) (tOp (rIxL K) (tFld K (tVar 0) "onto") (tOp (rIxT K) (tVar 7) (tUn (rU fun i => .int (-i)) (tC (.int 1))))))) (te := tVar 7) rfl scWays.nd
                (pi_list (pv 4)) (blkOk_by (N := nWays) (sc := defScope sWays) (by decide +kernel)) (fun _ _ _ _ _ => pg_name (i := 7) scWays.nd rfl (Or.inl rfl))
                (fun _ _ _ _ _ => pts_one (pt_cmpR op_in_seq (pv 3) (pe_ix ix_list (pe_fld (pv 0) rfl) (pe_ix ix_tup (pv 7) (pe_un un_neg pe_int) (fun _ _ => rfl)) (fun _ _ => rfl)) (by rfl)))
                (fun _ _ _ _ _ => pv 7)) pa_nil)))))))
      (pss_one (ps_ret (pv 2)))), ?_⟩
    obtain ⟨x, t, k, rfl, ⟨dx, sa, la, oa, O, lu⟩, hz, ht, k1, k6, q⟩ := h
    have hpos := ht.pos
    refine ⟨by show 0 ≤ sizeLine; decide, fun f0 n0 => ?_⟩
    have s0 : Same H (upd H f0 (.lst [])) := Same.new n0
    have h6 : ∀ j, (Rt.onto (lineOf t) j).length ≤ 6 := fun j => by have := onto_len ht j; omega
    refine ⟨_, rfl, x, C, dx, _, _, rfl, s0 _ _ lu.obj, TLn.cl, TLn.nS, fL_steep sa la oa, sa, _, rfl, .inl (SqL.of (s0 _ _ lu.sl)), _, rfl, by omega, ?_, ?_⟩
    · rw [List.length_map, List.length_map, List.length_range]; omega
    rw [List.length_map, List.length_map, List.length_range]
    refine for_range (lo := 0) (n := ((t.length - 1 : Nat) : Int).toNat) (fun i σ H' => (∃ v3 v4 v5 v6 v7 v8, σ = [some (.ref x), some (.int (k : Int)), some (.ref f0), v3, v4, v5, v6, v7, v8]) ∧ Same H H' ∧ ∃ M, kinds M = (List.range i).flatMap (Rt.waysFrom (lineOf t) k) ∧ H' f0 = some (.lst (refs M)) ∧ TL H' M) ?_ ?_ ?_
    · exact ⟨⟨none, none, none, none, none, none, rfl⟩, s0, [], rfl, upd_same, fun p hp => nomatch hp⟩
    · rintro i σ H1 hi ⟨⟨v3, v4, v5, v6, v7, v8, rfl⟩, s1, M, eM, hM, tM⟩
      have hit : i < t.length - 1 := by omega
      have ei : (0 : Int) + (i : Int) = (i : Int) := Int.zero_add _
      -- some = [(first,)]
      refine ⟨_, rfl, by show 1 ≤ sizeLine; decide, fun p1 n1 => ⟨by show 1 ≤ sizeLine; decide, fun l1 m1 => ?_⟩⟩
      have s2 : Same H1 (upd (upd H1 p1 (.tup [.int (0 + (i : Int))])) l1 (.lst [.ref p1])) := (Same.new n1).trans (Same.new m1)
      refine ⟨_, rfl, _, _, rfl, rfl, (k : Int) - 1, rfl, by omega, by omega, for_range (lo := 0) (n := ((k : Int) - 1).toNat) (fun m σ H2 => (∃ sm v5 v6 v7 v8, σ = [some (.ref x), some (.int (k : Int)), some (.ref f0), some (.int (0 + (i : Int))), some (.ref sm), v5, v6, v7, v8] ∧ LT H2 sm (Rt.someN (lineOf t) i m)) ∧ Same H1 H2) ?_ ?_ ?_⟩
      · refine ⟨⟨l1, v5, v6, v7, v8, rfl, [(p1, [i])], rfl, upd_same, fun p hp => ?_⟩, s2⟩
        rw [List.mem_singleton] at hp
        subst hp
        have e9 : vN [i] = [V.int (0 + (i : Int))] := by rw [ei]; rfl
        show _ = some (HO.tup (vN [i]))
        rw [e9]
        exact (Same.new m1) _ _ upd_same
      · rintro m σ H2 hm ⟨⟨sm, v5, v6, v7, v8, rfl, L, eL, hL, tL⟩, s3⟩
        have hm5 : m ≤ 4 := by omega
        refine ⟨by show 0 ≤ sizeLine; decide, fun lg nlg => ?_⟩
        have s4 : Same H2 (upd H2 lg (.lst [])) := Same.new nlg
        refine ⟨_, rfl, sm, rfl, ⟨_, SqL.of (s4 _ _ hL)⟩, for_list (K := K) (a := sm) (xs := refs L) (fun n σ H3 => (∃ v7 v8, σ = [some (.ref x), some (.int (k : Int)), some (.ref f0), some (.int (0 + (i : Int))), some (.ref sm), some (.int (0 + (m : Int))), some (.ref lg), v7, v8]) ∧ Same H2 H3 ∧ ∃ N, kinds N = Rt.longer (lineOf t) i ((Rt.someN (lineOf t) i m).take n) ∧ H3 lg = some (.lst (refs N)) ∧ TL H3 N) ?_ (fun n σ H3 _ p => SqL.of (p.2.1 _ _ hL)) ?_ ?_⟩
        · exact ⟨⟨v7, v8, rfl⟩, s4, [], rfl, upd_same, fun p hp => nomatch hp⟩
        · rintro n y σ H3 hy ⟨⟨v7, v8, rfl⟩, s5, N, eN, hN, tN⟩
          obtain ⟨pb, hpb, rfl⟩ := ref_at hy
          have hbm := kind_at eL hpb
          have hbw : pb.2 ∈ Rt.someN (lineOf t) i m := List.mem_of_getElem? hbm
          obtain ⟨r, er, lr⟩ := someN_ne hbw
          have hne : pb.2 ≠ [] := by rw [er]; exact fun z => nomatch z
          have hlast := last_lt ht hit hbw
          have lu3 := lu.same ((s1.trans s3).trans s5)
          have hb3 : H3 pb.1 = some (.tup (vN pb.2)) := s5 _ _ (tL pb (List.mem_of_getElem? hpb))
          obtain ⟨oo, h1, h2⟩ := lu3.onto_at hlast
          refine ⟨_, rfl, .inl ⟨rfl, _, SqL.of hN⟩, _, rfl, x, C, dx, _, _, rfl, lu3.obj, TLn.cl, TLn.nO, fL_onto sa la oa, _, rfl, 1, rfl, pb.1, _, _, _, rfl, rfl, SqT.of hb3, atI_end hne, oa, _, _, _, rfl, rfl, SqL.of lu3.ol, atI_nat h1, oo, rfl, ⟨_, SqL.of h2⟩, fun D hD => lc_list (K := K) (a := oo) (xs := vN (Rt.onto (lineOf t) (pb.2.getLastD 0))) (fun j H4 => Same H3 H4 ∧ ∃ N2, kinds N2 = (((Rt.onto (lineOf t) (pb.2.getLastD 0)).take j).filter fun p => decide (i ≤ p)).map (fun p => pb.2 ++ [p]) ∧ H4 D = some (.lst (refs N2)) ∧ TL H4 N2) ?_ (fun j H4 _ p => SqL.of (p.1 _ _ h2)) ?_ ?_⟩
          · exact ⟨Same.new hD, [], rfl, upd_same, fun p hp => nomatch hp⟩
          · rintro j y H4 hj ⟨s6, N2, eN2, hN2, tN2⟩
            obtain ⟨pc, hpc, rfl⟩ := vN_inv hj
            have hjo : j < 6 := by have := (List.getElem?_eq_some_iff.mp hpc).1; have := h6 (pb.2.getLastD 0); omega
            have hb4 := s6 _ _ hb3
            have lN2 := congrArg List.length eN2
            rw [List.length_map, List.length_map] at lN2
            have lf := List.length_filter_le (fun p => decide (i ≤ p)) ((Rt.onto (lineOf t) (pb.2.getLastD 0)).take j)
            rw [List.length_take] at lf
            refine ⟨rfl, _, rfl, _, rfl, _, _, rfl, rfl, _, rfl, ?_⟩
            by_cases c : i ≤ pc
            · have c' : decide ((0 : Int) + (i : Int) ≤ (pc : Int)) = true := decide_eq_true (by omega)
              rw [c']
              refine iteT ⟨_, rfl, _, rfl, by show 1 ≤ sizeLine; decide, fun p2 n2 => catA_go (SqT.of ((Same.new n2) _ _ hb4)) seqT_new (by rw [vN_length, er]; simp; omega) (fun e => ?_) (fun e => nomatch e) fun p3 n3 => ?_⟩
              · have := congrArg List.length e
                rw [vN_length] at this
                exact absurd (List.length_eq_zero_iff.mp this) hne
              · have s7 := (Same.new (o := .tup [.int (pc : Int)]) n2).trans (Same.new (o := .tup (vN pb.2 ++ [.int (pc : Int)])) n3)
                refine ⟨_, s7 _ _ hN2, ?_, Same.mut (s6.trans s7) hD, N2 ++ [(p3, pb.2 ++ [pc])], ?_, ?_, ?_⟩
                · rw [List.length_map]
                  exact szlt (by omega)
                · rw [take_more hpc, List.filter_append, List.map_append, kinds_app, List.filter_cons, if_pos (decide_eq_true c), eN2]; rfl
                · rw [upd_same, refs_app]; rfl
                · refine TL.upd (TL.app (tN2.same s7) fun p hp => ?_) (s7 _ _ hN2)
                  rw [List.mem_singleton] at hp
                  subst hp
                  rw [upd_same]
                  show _ = some (HO.tup (vN (pb.2 ++ [pc])))
                  rw [vN_snoc]
            · have c' : decide ((0 : Int) + (i : Int) ≤ (pc : Int)) = false := decide_eq_false (by omega)
              rw [c']
              refine iteF ⟨s6, N2, ?_, hN2, tN2⟩
              rw [take_more hpc, List.filter_append, List.map_append, List.filter_cons, if_neg (by simpa using c), eN2]
              simp
          · rintro H4 ⟨s6, N2, eN2, hN2, tN2⟩
            rw [vN_length, List.take_length] at eN2
            have hN4 := s6 _ _ hN
            have eNN : kinds (N ++ N2) = Rt.longer (lineOf t) i ((Rt.someN (lineOf t) i m).take (n + 1)) := by
              rw [take_more hbm]
              unfold Rt.longer at eN ⊢
              rw [List.flatMap_append, ← eN, kinds_app, eN2]
              simp
            refine ⟨lg, D, _, _, rfl, rfl, hN4, hN2, ?_, ⟨_, _, rfl⟩, Same.mut (s5.trans s6) nlg, N ++ N2, eNN, ?_, ?_⟩
            · rw [← List.length_append, ← refs_app, refs_len eNN]
              have h3 := longer_len (first := i) h6 ((Rt.someN (lineOf t) i m).take (n + 1))
              have h4 := someN_len (first := i) h6 m
              have h5 : 6 ^ m ≤ 6 ^ 4 := Nat.pow_le_pow_right (by decide) hm5
              have h7 : ((Rt.someN (lineOf t) i m).take (n + 1)).length ≤ (Rt.someN (lineOf t) i m).length := by rw [List.length_take]; omega
              have h8 : 6 ^ 4 = 1296 := by decide
              exact sz1000 (by omega)
            · rw [upd_same, refs_app]
            · exact TL.upd (TL.app (tN.same s6) tN2) hN4
        · rintro σ H3 ⟨⟨v7, v8, rfl⟩, s5, N, eN, hN, tN⟩
          rw [refs_len eL, List.take_length] at eN
          exact ⟨_, rfl, ⟨lg, _, _, _, _, rfl, N, eN, hN, tN⟩, s3.trans s5⟩
      · rintro σ H2 ⟨⟨sm, v5, v6, v7, v8, rfl, L, eL, hL, tL⟩, s3⟩
        rw [show ((k : Int) - 1).toNat = k - 1 by omega] at eL
        have hM2 := s3 _ _ hM
        refine ⟨_, rfl, .inl ⟨rfl, _, SqL.of hM2⟩, _, rfl, sm, rfl, ⟨_, SqL.of hL⟩, fun D hD => lc_list (K := K) (a := sm) (xs := refs L) (fun n H3 => Same H2 H3 ∧ H3 D = some (.lst (refs ((L.take n).filter fun p => (Rt.onto (lineOf t) (p.2.getLastD 0)).contains i)))) ⟨Same.new hD, upd_same⟩ (fun n H3 _ p => SqL.of (p.1 _ _ hL)) ?_ ?_⟩
        · rintro n y H3 hy ⟨s5, hD3⟩
          obtain ⟨pb, hpb, rfl⟩ := ref_at hy
          have hbm := kind_at eL hpb
          have hbw : pb.2 ∈ Rt.someN (lineOf t) i (k - 1) := List.mem_of_getElem? hbm
          obtain ⟨r, er, lr⟩ := someN_ne hbw
          have hne : pb.2 ≠ [] := by rw [er]; exact fun z => nomatch z
          have hlast := last_lt ht hit hbw
          have lu3 := lu.same ((s1.trans s3).trans s5)
          have hb3 : H3 pb.1 = some (.tup (vN pb.2)) := s5 _ _ (tL pb (List.mem_of_getElem? hpb))
          obtain ⟨oo, h1, h2⟩ := lu3.onto_at hlast
          refine ⟨rfl, _, rfl, _, rfl, x, C, dx, _, _, rfl, lu3.obj, TLn.cl, TLn.nO, fL_onto sa la oa, _, rfl, 1, rfl, pb.1, _, _, _, rfl, rfl, SqT.of hb3, atI_end hne, oa, _, _, _, rfl, rfl, SqL.of lu3.ol, atI_nat h1, oo, _, rfl, .inl (SqL.of h2), rfl, flatN _, _, rfl, ?_⟩
          rw [ei, if_neg Bool.false_ne_true, inV_N]
          by_cases c : (Rt.onto (lineOf t) (pb.2.getLastD 0)).contains i = true
          · rw [c]
            refine iteT ⟨_, rfl, _, hD3, ?_, Same.mut s5 hD, ?_⟩
            · rw [List.length_map]
              have l1 := List.length_filter_le (fun p : Addr × List Nat => (Rt.onto (lineOf t) (p.2.getLastD 0)).contains i) (L.take n)
              have l2 : (L.take n).length ≤ L.length := by rw [List.length_take]; omega
              have l3 := refs_len eL
              rw [List.length_map] at l3
              have l4 := someN_len (first := i) h6 (k - 1)
              have l5 : 6 ^ (k - 1) ≤ 6 ^ 5 := Nat.pow_le_pow_right (by decide) (by omega)
              have l6 : 6 ^ 5 = 7776 := by decide
              exact szlt (by omega)
            · rw [upd_same, take_more hpb, List.filter_append, List.filter_cons, if_pos c, refs_app]; rfl
          · have c' : (Rt.onto (lineOf t) (pb.2.getLastD 0)).contains i = false := by simpa using c
            rw [c']
            refine iteF ⟨s5, ?_⟩
            rw [take_more hpb, List.filter_append, List.filter_cons, if_neg c]
            simpa using hD3
        · rintro H3 ⟨s5, hD3⟩
          have e1 : (refs L).length = L.length := List.length_map ..
          rw [e1, List.take_length] at hD3
          have hM3 := s5 _ _ hM2
          have eF : kinds (L.filter fun p => (Rt.onto (lineOf t) (p.2.getLastD 0)).contains i) = Rt.waysFrom (lineOf t) k i := by
            unfold Rt.waysFrom
            rw [← eL, List.filter_map]; rfl
          have eMM : kinds (M ++ L.filter fun p => (Rt.onto (lineOf t) (p.2.getLastD 0)).contains i) = (List.range (i + 1)).flatMap (Rt.waysFrom (lineOf t) k) := by
            rw [List.range_succ, List.flatMap_append, kinds_app, eM, eF]
            simp
          refine ⟨f0, D, _, _, rfl, rfl, hM3, hD3, ?_, ⟨_, _, _, _, _, _, rfl⟩, Same.mut ((s1.trans s3).trans s5) n0, M ++ L.filter (fun p => (Rt.onto (lineOf t) (p.2.getLastD 0)).contains i), eMM, ?_, ?_⟩
          · rw [← List.length_append, ← refs_app, refs_len eMM]
            have := ways_len h6 k6 (i + 1)
            exact sz1000 (by omega)
          · rw [upd_same, refs_app]
          · refine TL.upd (TL.app ((tM.same s3).same s5) fun p hp => ?_) hM3
            exact s5 _ _ (tL p (List.mem_filter.mp hp).1)
    · rintro σ H1 ⟨⟨v3, v4, v5, v6, v7, v8, rfl⟩, s1, M, eM, hM, tM⟩
      rw [show ((t.length - 1 : Nat) : Int).toNat = t.length - 1 by omega] at eM
      exact ⟨_, rfl, q _ f0 s1 ⟨M, eM, hM, tM⟩⟩
end
end Rw

set_option maxRecDepth 100000
set_option maxHeartbeats 2000000
/-! # The walk: place_of, places_along -/
namespace Rw
open PySem PySem.Spec PyProof.Rows L2
theorem slope_small {t : List Nat} (h : Rt.IsT t) (hz : t.length ≤ 7) (j : Nat) : -7 ≤ (lineOf t).slope j ∧ (lineOf t).slope j ≤ 7 := by
  have p0 := point_lt h j
  have p1 := point_lt h (j + 1)
  have d : (lineOf t).slope j = ((lineOf t).point (j + 1) : Int) - ((lineOf t).point j : Int) := rfl
  omega
theorem lift_small {t : List Nat} (h : Rt.IsT t) (hz : t.length ≤ 7) {j : Nat} (hj : j < 7) : -100 ≤ Rt.lift (lineOf t) j ∧ Rt.lift (lineOf t) j ≤ 100 := by
  obtain ⟨s1, s2⟩ := slope_small h hz j
  have p0 := point_lt h j
  unfold Rt.lift
  have h1 := Int.mul_le_mul_of_nonneg_right s2 (show (0 : Int) ≤ (j : Int) by omega)
  have h2 := Int.mul_le_mul_of_nonneg_right s1 (show (0 : Int) ≤ (j : Int) by omega)
  omega
theorem steep_at {t : List Nat} {i j : Nat} (h : j < i) : (vI (steeps t i))[j]? = some (.int ((lineOf t).slope j)) := by
  rw [List.getElem?_map, List.getElem?_map, List.getElem?_range h]; rfl
theorem lift_at {t : List Nat} {i j : Nat} (h : j < i) : (vI (lifts t i))[j]? = some (.int (Rt.lift (lineOf t) j)) := by
  rw [List.getElem?_map, List.getElem?_map, List.getElem?_range h]; rfl
section
variable {P : Program} {w : World} {K : PySem.W.Frag} {mg : Str → Option Value} {base : Heap}
abbrev sPlace : Stmt := top 12
abbrev nPlace : List Str := ["line", "way", "steep", "lift", "piece"]
theorem scPlace : FnScope nPlace ["line", "way"] (defScope sPlace) := ⟨rfl, rfl, rfl, by decide +kernel, rfl, by decide +kernel, by decide +kernel⟩
def spPlace (C : Addr) : Sp := fun vs H Q _ => ∃ (x wa : Addr) (t w : List Nat), vs = [.ref x, .ref wa] ∧ LineAt C H x t ∧ H wa = some (.tup (vN w)) ∧ t.length ≤ 7 ∧ Rt.IsT t ∧ w ≠ [] ∧ (∀ j ∈ w, j < t.length - 1) ∧
  ∀ H' p, Same H H' → H' p = some (.tup [.int (Rt.placeOf (lineOf t) w).1, .int (Rt.placeOf (lineOf t) w).2]) → Q (.ref p) H'
theorem ok_place {f C : Addr} {fd : FuncData} (F : Fun K "place_of" "place_of" sPlace f fd) (TLn : LineTxt K C) : FnOk P w K mg base CX0 1 f fd ["line", "way"] (spPlace C) := by
  refine F.ok scPlace (fun vs H Q E h => ?_) (fun cdv A outer s H vs Q E hr h => ?_)
  · obtain ⟨x, wa, t, w, rfl, _⟩ := h; rfl
  · refine ⟨_, pss_cons (ps_set (i := 2) scPlace.nd rfl (Or.inl rfl) pe_int)
      (pss_cons (ps_set (i := 3) scPlace.nd rfl (Or.inl rfl) pe_int)
      (pss_cons (ps_for PassesOwn.never rfl (pi_tup (pv 1)) (pg_name (i := 4) scPlace.nd rfl (Or.inl rfl))
        (pss_cons (ps_set (i := 2) scPlace.nd rfl (Or.inl rfl) (pe_op op_mul (pe_ix ix_list (pe_fld (pv 0) rfl) (pv 4) (fun _ _ => rfl)) (pv 2)))
        (pss_one (ps_set (i := 3) scPlace.nd rfl (Or.inl rfl) (pe_op op_add (pe_op op_mul (pe_ix ix_list (pe_fld (pv 0) rfl) (pv 4) (fun _ _ => rfl)) (pv 3)) (pe_ix ix_list (pe_fld (pv 0) rfl) (pv 4) (fun _ _ => rfl)))))))
      (pss_cons (ps_if (pt_cmpR op_eq (pv 2) pe_int (nomark _)) (pss_one (ps_ret (pe_tup (pa_cons (pe_op op_add (pe_op op_mul pe_int (pe_ix ix_tup (pv 1) pe_int (fun _ _ => rfl))) pe_int) (pa_cons pe_int pa_nil))))) pss_nil)
      (pss_cons (ps_if (pt_cmpR op_gt (pv 2) pe_int (nomark _)) (pss_one (ps_ret (pe_tup (pa_cons (pe_un un_neg (pv 3)) (pa_cons (pe_op op_sub (pv 2) pe_int) pa_nil))))) pss_nil)
      (pss_one (ps_ret (pe_tup (pa_cons (pv 3) (pa_cons (pe_op op_sub pe_int (pv 2)) pa_nil))))))))), ?_⟩
    obtain ⟨x, wa, t, w, rfl, ⟨dx, sa, la, oa, O, lu⟩, hw, hz, ht, hne, hlt, q⟩ := h
    refine ⟨_, rfl, wa, rfl, ⟨_, SqT.of hw⟩, for_tup (K := K) (a := wa) (xs := vN w) (fun i σ H' => H' = H ∧ ∃ v4, σ = [some (.ref x), some (.ref wa), some (.int ((w.take i).foldl (Rt.step (lineOf t)) (1, 0)).1), some (.int ((w.take i).foldl (Rt.step (lineOf t)) (1, 0)).2), v4]) ⟨rfl, none, rfl⟩ (fun i σ H' _ p => by rw [p.1]; exact SqT.of hw) ?_ ?_⟩
    · rintro i y σ H' hi ⟨rfl, v4, rfl⟩
      obtain ⟨j, hj, rfl⟩ := vN_inv hi
      have hjn := hlt j (List.mem_of_getElem? hj)
      obtain ⟨s1, s2⟩ := slope_small ht hz j
      refine ⟨_, rfl, x, C, dx, _, _, rfl, lu.obj, TLn.cl, TLn.nS, fL_steep sa la oa, _, rfl, sa, _, _, _, rfl, rfl, SqL.of lu.sl, atI_nat (steep_at hjn), _, rfl, _, _, rfl, rfl, .inl ⟨by omega, by omega⟩, ?_⟩
      refine ⟨_, rfl, x, C, dx, _, _, rfl, lu.obj, TLn.cl, TLn.nS, fL_steep sa la oa, _, rfl, sa, _, _, _, rfl, rfl, SqL.of lu.sl, atI_nat (steep_at hjn), _, rfl, _, _, rfl, rfl, .inl ⟨by omega, by omega⟩, _, rfl, x, C, dx, _, _, rfl, lu.obj, TLn.cl, TLn.nL, fL_lift sa la oa, _, rfl, la, _, _, _, rfl, rfl, SqL.of lu.ll, atI_nat (lift_at hjn), _, _, rfl, rfl, rfl, some (.int (j : Int)), ?_⟩
      rw [take_more hj, List.foldl_append]
      rfl
    · rintro σ H' ⟨rfl, v4, rfl⟩
      rw [vN_length, List.take_length, ← Rt.along_eq]
      obtain ⟨j, r, rfl⟩ : ∃ j r, w = j :: r := by
        cases w with
        | nil => exact absurd rfl hne
        | cons j r => exact ⟨j, r, rfl⟩
      unfold Rt.placeOf at q
      refine ⟨_, rfl, rfl, _, rfl, ?_⟩
      by_cases c1 : ((lineOf t).along (j :: r)).1 = 1
      · rw [decide_eq_true (congrArg V.int c1)]
        rw [if_pos c1] at q
        refine iteT ⟨_, rfl, wa, _, _, .int (j : Int), rfl, rfl, SqT.of hw, atI_nat (j := 0) rfl, _, _, rfl, rfl, .inl ⟨by decide, by decide⟩, _, _, rfl, rfl, by show 2 ≤ sizeLine; decide, fun p hp => q _ p (Same.new hp) upd_same⟩
      · rw [decide_eq_false (fun e => c1 (V.int.inj e))]
        rw [if_neg c1] at q
        refine iteF ⟨_, rfl, _, _, rfl, rfl, _, rfl, ?_⟩
        by_cases c2 : 1 < ((lineOf t).along (j :: r)).1
        · rw [decide_eq_true c2]
          rw [if_pos c2] at q
          exact iteT ⟨_, rfl, _, rfl, _, rfl, _, _, rfl, rfl, by show 2 ≤ sizeLine; decide, fun p hp => q _ p (Same.new hp) upd_same⟩
        · rw [decide_eq_false c2]
          rw [if_neg c2] at q
          exact iteF ⟨_, rfl, _, rfl, _, _, rfl, rfl, by show 2 ≤ sizeLine; decide, fun p hp => q _ p (Same.new hp) upd_same⟩
/-! ## places_along -/
abbrev sPlaces : Stmt := top 13
abbrev nPlaces : List Str := ["line", "way", "place", "over", "found", "piece"]
theorem scPlaces : FnScope nPlaces ["line", "way"] (defScope sPlaces) := ⟨rfl, rfl, rfl, by decide +kernel, rfl, by decide +kernel, by decide +kernel⟩
/-- the places that the program gives -/
def placesP (t w : List Nat) : List Int := if (Rt.placeOf (lineOf t) w).2 ∣ (Rt.placeOf (lineOf t) w).1 then [] else Rt.roundOf (lineOf t) w
def spPlaces (C : Addr) : Sp := fun vs H Q _ => ∃ (x wa : Addr) (t w : List Nat), vs = [.ref x, .ref wa] ∧ LineAt C H x t ∧ H wa = some (.tup (vN w)) ∧ t.length ≤ 7 ∧ Rt.IsT t ∧ w ≠ [] ∧ (∀ j ∈ w, j < t.length - 1) ∧ w.length ≤ 1000 ∧ 0 < (Rt.placeOf (lineOf t) w).2 ∧
  ∀ H' p, Same H H' → H' p = some (.lst (vI (placesP t w))) → Q (.ref p) H'
theorem ok_places {f C : Addr} {fd : FuncData} (F : Fun K "places_along" "places_along" sPlaces f fd) (TLn : LineTxt K C) (hB : Has P w K mg base CX0 1 "place_of" ["line", "way"] (spPlace C)) : FnOk P w K mg base CX0 2 f fd ["line", "way"] (spPlaces C) := by
  obtain ⟨fB, fdB, gB, kB, bB, GB⟩ := hB
  refine F.ok scPlaces (fun vs H Q E h => ?_) (fun cdv A outer s H vs Q E hr h => ?_)
  · obtain ⟨x, wa, t, w, rfl, _⟩ := h; rfl
  · refine ⟨_, pss_cons (ps_asg (pe_call GB hr rfl gB kB bB .nil pass0 (pa_cons (pv 0) (pa_cons (pv 1) pa_nil))) (pg_tup rfl (pgs_cons (pg_name (i := 2) scPlaces.nd rfl (Or.inl rfl)) (pgs_cons (pg_name (i := 3) scPlaces.nd rfl (Or.inl rfl)) pgs_nil))))
      (pss_cons (ps_if (pt_cmpR op_eq (pe_op op_modN (pv 2) (pv 3)) pe_int (nomark _)) (pss_one (ps_ret (pe_lst pa_nil))) pss_nil)
      (pss_cons (ps_set (i := 4) scPlaces.nd rfl (Or.inl rfl) (pe_lst pa_nil))
      (pss_cons (ps_for PassesOwn.never rfl (pi_tup (pv 1)) (pg_name (i := 5) scPlaces.nd rfl (Or.inl rfl))
        (pss_cons (ps_expr (pe_bm PySem.F.plainAttrs_list PySem.F.slot_list_append PySem.F.type_list_append mt_append (pv 4) (pa_cons (pv 2) pa_nil)))
        (pss_one (ps_set (i := 2) scPlaces.nd rfl (Or.inl rfl) (pe_op op_add (pe_op op_mul (pe_ix ix_list (pe_fld (pv 0) rfl) (pv 5) (fun _ _ => rfl)) (pv 2)) (pe_op op_mul (pe_ix ix_list (pe_fld (pv 0) rfl) (pv 5) (fun _ _ => rfl)) (pv 3)))))))
      (pss_one (ps_ret (pv 4)))))), ?_⟩
    obtain ⟨x, wa, t, w, rfl, hL, hw, hz, ht, hne, hlt, hwl, hov, q⟩ := h
    refine ⟨_, rfl, _, rfl, x, wa, t, w, rfl, hL, hw, hz, ht, hne, hlt, fun H1 p1 s1 h1 => ?_⟩
    obtain ⟨dx, sa, la, oa, O, lu⟩ := hL.same s1
    have hw1 := s1 _ _ hw
    refine ⟨p1, _, rfl, SqT.of h1, rfl, _, _, rfl, _, _, rfl, rfl, _, rfl, _, rfl, _, _, rfl, rfl, by omega, rfl, _, rfl, ?_⟩
    unfold placesP at q
    by_cases c : (Rt.placeOf (lineOf t) w).2 ∣ (Rt.placeOf (lineOf t) w).1
    · rw [if_pos c] at q
      rw [decide_eq_true (congrArg V.int (show (Rt.placeOf (lineOf t) w).1.fmod (Rt.placeOf (lineOf t) w).2 = 0 by rw [Int.fmod_eq_emod_of_nonneg _ (by omega)]; exact Int.emod_eq_zero_of_dvd c))]
      exact iteT ⟨by show 0 ≤ sizeLine; decide, fun p hp => q _ p (s1.trans (Same.new hp)) upd_same⟩
    · rw [if_neg c] at q
      rw [decide_eq_false (fun e => c (Int.dvd_of_emod_eq_zero (by have := V.int.inj e; rw [Int.fmod_eq_emod_of_nonneg _ (by omega)] at this; exact this)))]
      refine iteF ⟨by show 0 ≤ sizeLine; decide, fun fa nf => ?_⟩
      have s2 : Same H1 (upd H1 fa (.lst [])) := Same.new nf
      refine ⟨_, rfl, wa, rfl, ⟨_, SqT.of (s2 _ _ hw1)⟩, for_tup (K := K) (a := wa) (xs := vN w) (fun i σ H' => Same H1 H' ∧ H' fa = some (.lst (vI (Rt.places (lineOf t) (Rt.placeOf (lineOf t) w).2 (Rt.placeOf (lineOf t) w).1 (w.take i)))) ∧ ∃ v5, σ = [some (.ref x), some (.ref wa), some (.int (Rt.endp (lineOf t) (Rt.placeOf (lineOf t) w).2 (Rt.placeOf (lineOf t) w).1 (w.take i))), some (.int (Rt.placeOf (lineOf t) w).2), some (.ref fa), v5]) ⟨s2, upd_same, none, rfl⟩ (fun i σ H' _ p => SqT.of (p.1 _ _ hw1)) ?_ ?_⟩
      · rintro i y σ H' hi ⟨s3, h3, v5, rfl⟩
        obtain ⟨j, hj, rfl⟩ := vN_inv hi
        have hjn := hlt j (List.mem_of_getElem? hj)
        have hiw : i < w.length := (List.getElem?_eq_some_iff.mp hj).1
        obtain ⟨b1, b2⟩ := slope_small ht hz j
        obtain ⟨b3, b4⟩ := lift_small ht hz (j := j) (by omega)
        have lu3 := lu.same (Same.mut (o := .lst (vI (Rt.places (lineOf t) (Rt.placeOf (lineOf t) w).2 (Rt.placeOf (lineOf t) w).1 (w.take i)) ++ [.int (Rt.endp (lineOf t) (Rt.placeOf (lineOf t) w).2 (Rt.placeOf (lineOf t) w).1 (w.take i))])) s3 nf)
        refine ⟨_, rfl, .inl ⟨rfl, _, SqL.of h3⟩, _, rfl, fa, _, _, rfl, rfl, h3, ?_, ?_⟩
        · rw [List.length_map, Rt.places_length, List.length_take]
          exact szlt (by omega)
        refine ⟨_, rfl, x, C, dx, _, _, rfl, lu3.obj, TLn.cl, TLn.nS, fL_steep sa la oa, _, rfl, sa, _, _, _, rfl, rfl, SqL.of lu3.sl, atI_nat (steep_at hjn), _, rfl, _, _, rfl, rfl, .inl ⟨by omega, by omega⟩, _, rfl, x, C, dx, _, _, rfl, lu3.obj, TLn.cl, TLn.nL, fL_lift sa la oa, _, rfl, la, _, _, _, rfl, rfl, SqL.of lu3.ll, atI_nat (lift_at hjn), _, rfl, _, _, rfl, rfl, .inl ⟨by omega, by omega⟩, _, _, rfl, rfl, Same.mut s3 nf, ?_, some (.int (j : Int)), ?_⟩
        · rw [upd_same, take_more hj, Rt.places_append]
          unfold vI
          rw [List.map_append]; rfl
        · rw [take_more hj, Rt.endp_append]
          rfl
      · rintro σ H' ⟨s3, h3, v5, rfl⟩
        rw [vN_length, List.take_length] at h3
        exact ⟨_, rfl, q _ fa (s1.trans s3) h3⟩
end
end Rw

set_option maxRecDepth 100000
set_option maxHeartbeats 2000000
/-! # The walk: types_brought -/
namespace Rw
open PySem PySem.Spec PyProof.Rows L2
/-! ## Pure -/
abbrev kN (t : List Nat) : List Key := t.map fun n : Nat => (Sum.inl (n : Int) : Key)
theorem kN_V (t : List Nat) : (kN t).map kV = vN t := by
  unfold vN vI Rt.nts
  rw [List.map_map, List.map_map]; rfl
theorem kN_inj {a b : List Nat} (h : kN a = kN b) : a = b := by
  refine ints_inj ?_
  have h2 := congrArg (List.map fun k : Key => match k with | .inl i => i | .inr _ => 0) h
  rw [List.map_map, List.map_map] at h2
  exact h2
theorem putK_keys {κ : Type} [DecidableEq κ] (kvs : List (κ × V)) (k : κ) (v : V) : (putK kvs k v).map (·.1) = if k ∈ kvs.map (·.1) then kvs.map (·.1) else kvs.map (·.1) ++ [k] := by
  unfold putK
  have e : (kvs.any fun kv => decide (kv.1 = k)) = true ↔ k ∈ kvs.map (·.1) := by
    rw [List.any_eq_true, List.mem_map]
    exact ⟨fun ⟨x, h1, h2⟩ => ⟨x, h1, of_decide_eq_true h2⟩, fun ⟨x, h1, h2⟩ => ⟨x, h1, decide_eq_true h2⟩⟩
  by_cases c : k ∈ kvs.map (·.1)
  · rw [if_pos (e.mpr c), if_pos c, List.map_map]
    refine List.map_congr_left fun x _ => ?_
    show (if x.1 = k then (x.1, v) else x).1 = x.1
    split <;> rfl
  · rw [if_neg (fun z => c (e.mp z)), if_neg c, List.map_append]; rfl
/-- the keys behind a store -/
def addK (ks : List (List Nat)) (u : List Nat) : List (List Nat) := if u ∈ ks then ks else ks ++ [u]
theorem addK_mem {ks : List (List Nat)} {u v : List Nat} : v ∈ addK ks u ↔ v ∈ ks ∨ v = u := by
  unfold addK
  split
  · rename_i h
    exact ⟨.inl, fun z => z.elim id fun e => e ▸ h⟩
  · simp
theorem addK_nodup {ks : List (List Nat)} {u : List Nat} (h : ks.Nodup) : (addK ks u).Nodup := by
  unfold addK
  split
  · exact h
  · rename_i c
    rw [List.nodup_append]
    refine ⟨h, by simp, fun a ha b hb => ?_⟩
    rw [List.mem_singleton] at hb
    rw [hb]
    exact fun z => c (z ▸ ha)
theorem addK_len {ks : List (List Nat)} {u : List Nat} : (addK ks u).length ≤ ks.length + 1 := by
  unfold addK
  split
  · omega
  · simp
theorem put_kN {kvs : List (List Key × V)} {ks : List (List Nat)} (e : kvs.map (·.1) = ks.map kN) (u : List Nat) (v : V) : (putK kvs (kN u) v).map (·.1) = (addK ks u).map kN := by
  rw [putK_keys, e]
  unfold addK
  by_cases c : u ∈ ks
  · rw [if_pos c, if_pos (List.mem_map.mpr ⟨u, c, rfl⟩)]
  · rw [if_neg c, if_neg]
    · rw [List.map_append]; rfl
    · intro z
      obtain ⟨x, hx, ex⟩ := List.mem_map.mp z
      exact c (kN_inj ex ▸ hx)
/-- the count of different ones -/
theorem firstMet_full {ns : List Int} : ∀ i, i ≤ ns.length → (PyProof.Rows.firstMet (fun i => ns.getD i 0) i).length = i → (ns.take i).Nodup
  | 0, _, _ => by simp
  | i + 1, hi, h => by
    have hlt : i < ns.length := hi
    have e1 : ns.getD i 0 = ns[i] := by rw [List.getD_eq_getElem?_getD, List.getElem?_eq_getElem hlt]; rfl
    rw [PyProof.Rows.firstMet_succ] at h
    have hl := PyProof.Rows.firstMet_length_le (fun i => ns.getD i 0) i
    unfold PyProof.Rows.step_dedup at h
    split at h
    · omega
    · rename_i c
      rw [List.length_append] at h
      have h0 : (PyProof.Rows.firstMet (fun i => ns.getD i 0) i).length = i := by simpa using h
      have ih := firstMet_full i (by omega) h0
      have ef : PyProof.Rows.firstMet (fun i => ns.getD i 0) i = ns.take i := by
        have ht : (ns.take i).length = i := by rw [List.length_take]; omega
        have := RZ.firstMet_nodup ih i (by rw [ht]; exact Nat.le_refl i)
        rw [List.take_take, Nat.min_self] at this
        refine Eq.trans ?_ this
        have g : ∀ j, j ≤ i → PyProof.Rows.firstMet (fun i => ns.getD i 0) j = PyProof.Rows.firstMet (fun k => (ns.take i).getD k 0) j := by
          intro j
          induction j with
          | zero => intro _; rfl
          | succ j ihj =>
            intro hj
            rw [PyProof.Rows.firstMet_succ, PyProof.Rows.firstMet_succ, ihj (by omega)]
            have : ns.getD j 0 = (ns.take i).getD j 0 := by
              rw [List.getD_eq_getElem?_getD, List.getD_eq_getElem?_getD, List.getElem?_take, if_pos (by omega)]
            rw [this]
        exact g i (Nat.le_refl i)
      rw [ef] at c
      rw [List.take_add_one, List.getElem?_eq_getElem hlt]
      show (ns.take i ++ [ns[i]]).Nodup
      rw [List.nodup_append]
      refine ⟨ih, by simp, fun a ha b hb e => c ?_⟩
      rw [List.mem_singleton] at hb
      rw [List.any_eq_true]
      exact ⟨a, ha, by rw [e, hb, ← e1]; exact beq_self_eq_true _⟩
theorem firstMet_iff {ns : List Int} : (PyProof.Rows.firstMet (fun i => ns.getD i 0) ns.length).length = ns.length ↔ ns.Nodup := by
  constructor
  · intro h
    have := firstMet_full ns.length (Nat.le_refl _) h
    rwa [List.take_length] at this
  · intro h
    rw [RZ.firstMet_nodup h ns.length (Nat.le_refl _), List.take_length]
theorem bf_lt : ∀ {a b : List Nat}, Rt.Bf a b → Rt.nts a < Rt.nts b
  | [], [], h => by cases h
  | [], y :: b, _ => List.nil_lt_cons _ _
  | _ :: _, [], h => by cases h
  | x :: a, y :: b, h => by
    have h : (decide (x < y) || (x == y && Su184.before a b)) = true := h
    simp only [Bool.or_eq_true, decide_eq_true_iff, Bool.and_eq_true, beq_iff_eq] at h
    show ((x : Int) :: Rt.nts a) < ((y : Int) :: Rt.nts b)
    rw [List.cons_lt_cons_iff]
    rcases h with h | ⟨h, h2⟩
    · exact .inl (by omega)
    · exact .inr ⟨by omega, bf_lt h2⟩
/-- what sorted gives of a list of kinds -/
theorem sorted_kinds {M : List (Addr × List Nat)} (hn : (kinds M).Nodup) {ts : List (List Nat)} (hs : ts.Pairwise Rt.Bf) (hm : ∀ u, u ∈ kinds M ↔ u ∈ ts) :
    ∃ M', kinds M' = ts ∧ ((M.map fun p => (p.1, Rt.nts p.2)).mergeSort fun p q => decide (p.2 ≤ q.2)).map (fun p => V.ref p.1) = refs M' ∧ ∀ p ∈ M', p ∈ M := by
  refine ⟨M.mergeSort fun p q => decide (Rt.nts p.2 ≤ Rt.nts q.2), ?_, ?_, fun p hp => List.mem_mergeSort.mp hp⟩
  · have perm := List.mergeSort_perm M fun p q => decide (Rt.nts p.2 ≤ Rt.nts q.2)
    have pk : (kinds (M.mergeSort fun p q => decide (Rt.nts p.2 ≤ Rt.nts q.2))).Perm (kinds M) := perm.map _
    have nd : (kinds (M.mergeSort fun p q => decide (Rt.nts p.2 ≤ Rt.nts q.2))).Nodup := pk.nodup_iff.mpr hn
    refine Rt.sorted_same ?_ hs fun u => (pk.mem_iff).trans (hm u)
    have pw := List.pairwise_mergeSort (le := fun p q : Addr × List Nat => decide (Rt.nts p.2 ≤ Rt.nts q.2)) (fun a b c h1 h2 => decide_eq_true (List.le_trans (of_decide_eq_true h1) (of_decide_eq_true h2))) (fun a b => by
      rcases List.le_total (Rt.nts a.2) (Rt.nts b.2) with h | h <;> simp [h]) M
    unfold List.Nodup at nd
    rw [List.pairwise_map] at nd ⊢
    refine (pw.and nd).imp fun {a b} h => ?_
    rcases Rt.bf_total a.2 b.2 with e | e | e
    · exact absurd e h.2
    · exact e
    · exact absurd (of_decide_eq_true h.1) (List.not_le.mpr (bf_lt e))
  · rw [← List.map_mergeSort (r := fun p q : Addr × List Nat => decide (Rt.nts p.2 ≤ Rt.nts q.2)), List.map_map]
    · rfl
    · intro a ha b hb; rfl
/-- the key tuples of the dict -/
theorem keys_tups {H : Hp} : ∀ {kvs : List (List Key × V)} {ks : List (List Nat)} {bs : List Addr}, IsKeys H kvs bs → kvs.map (·.1) = ks.map kN → ∃ M : List (Addr × List Nat), kinds M = ks ∧ M.map (·.1) = bs ∧ TL H M
  | [], [], _, h, _ => by
    have h : Paired _ _ _ := h
    cases h
    exact ⟨[], rfl, rfl, fun p hp => nomatch hp⟩
  | [], _ :: _, _, _, e => by cases e
  | _ :: _, [], _, _, e => by cases e
  | kv :: kvs, u :: ks, _, h, e => by
    have h : Paired _ _ _ := h
    cases h with
    | @cons _ b _ bs h1 t =>
      rw [List.map_cons, List.map_cons] at e
      injection e with e1 e2
      obtain ⟨M, m1, m2, m3⟩ := keys_tups (bs := bs) t e2
      refine ⟨(b, u) :: M, by rw [← m1]; rfl, by rw [← m2]; rfl, fun p hp => ?_⟩
      rcases List.mem_cons.mp hp with rfl | hp
      · rw [e1, kN_V] at h1
        exact h1
      · exact m3 p hp
theorem typeOf_len (ps : List Int) : (Rt.typeOf ps).length = ps.length := by
  unfold Rt.typeOf Rt.begunAt
  rw [Rt.rot_length, List.length_map]
/-- kinds that the first i ways bring -/
def MemB (t : List Nat) (k i : Nat) (u : List Nat) : Prop := (u = t ∧ t.length = k) ∨ ∃ w ∈ (Rt.ways (lineOf t) k).take i, Rt.Brings (lineOf t) w ∧ u = Rt.typeOf (Rt.roundOf (lineOf t) w)
theorem LineAt.sb {C : Addr} {H H' : Hp} {x F : Addr} {t : List Nat} {kvs : List (List Key × V)} (h : LineAt C H x t) (hF : H F = some (.dT kvs)) (k : SB F H H') : LineAt C H' x t := by
  obtain ⟨dx, sa, la, oa, O, a, b, c, d, e, f⟩ := h
  have nl : ∀ {b : Addr} {o : HO}, H b = some o → o ≠ .dT kvs → b ≠ F := fun h n => ne_of h hF n
  refine ⟨dx, sa, la, oa, O, k _ _ a (nl a fun z => by cases z), k _ _ b (nl b fun z => by cases z), k _ _ c (nl c fun z => by cases z), k _ _ d (nl d fun z => by cases z), e, fun p hp => ?_⟩
  exact k _ _ (f p hp) (nl (f p hp) fun z => by cases z)
end Rw

set_option maxRecDepth 100000
set_option maxHeartbeats 4000000
/-! # The walk: types_brought -/
namespace Rw
open PySem PySem.Spec PyProof.Rows L2
/-- a statement, then the rest, with a word between -/
def tMid (t u : TS) : TS := fun D σ H => ∃ M : L2.St → Hp → Prop, t { D with nx := M } σ H ∧ ∀ σ' H', M σ' H' → u D σ' H'
theorem pss_mid {X : Cx} {st : Stmt} {rest : List Stmt} {t u : TS} (h1 : PS X st t) (h2 : PSs X rest u) : PSs X (st :: rest) (tMid t u) := by
  refine ⟨fun pins s σ H D I h => ?_⟩
  obtain ⟨M, hm, hu⟩ := h
  refine wpAny_execs_cons (thn (h1.run pins s σ H { D with nx := M } I hm) fun f s1 q => ?_)
  cases f with
  | next =>
    obtain ⟨σ', H', I', q⟩ := q
    exact h2.run pins s1 σ' H' D I' (hu σ' H' q)
  | ret v => exact q
  | brk => exact q
  | cont => exact q
/-- the dict at fa: the kinds that the first i ways bring; all else as it was -/
def BI (fa : Addr) (k : Nat) (t : List Nat) (H4 : Hp) (i : Nat) (H' : Hp) : Prop :=
  SB fa H4 H' ∧ ∃ (kvs : List (List Key × V)) (ks : List (List Nat)), H' fa = some (.dT kvs) ∧ kvs.map (·.1) = ks.map kN ∧ ks.Nodup ∧ ks.length ≤ i + 1 ∧ ∀ u, u ∈ ks ↔ MemB t k i u
section
variable {P : Program} {w : World} {K : PySem.W.Frag} {mg : Str → Option Value} {base : Heap}
abbrev sTypesB : Stmt := top 14
abbrev nTypesB : List Str := ["row", "steps", "line", "found", "way", "places"]
theorem scTypesB : FnScope nTypesB ["row", "steps"] (defScope sTypesB) := ⟨rfl, rfl, rfl, by decide +kernel, rfl, by decide +kernel, by decide +kernel⟩
/-- the class Line, as its callers have it -/
def HasLine (P : Program) (w : World) (K : PySem.W.Frag) (mg : Str → Option Value) (base : Heap) (C : Addr) : Prop :=
  mg "Line" = some (.ref C) ∧ ∃ (fI : Addr) (fd : FuncData), Mk K C fI ∧ Binds K fd ["self", "row"] [] ∧ FnOk P w K mg base CX0 2 fI fd ["self", "row"] (spLineInit K C)
def spTypesB : Sp := fun vs H Q _ => ∃ (r : Addr) (t : List Nat) (k : Nat), vs = [.ref r, .int (k : Int)] ∧ H r = some (.tup (vN t)) ∧ t.length ≤ 7 ∧ Rt.IsT t ∧ 1 ≤ k ∧ k ≤ 6 ∧
  ∀ H' p, Same H H' → LT H' p (Su184.types t k) → Q (.ref p) H'
theorem ok_typesB {f C : Addr} {fd : FuncData} (F : Fun K "types_brought" "types_brought" sTypesB f fd) (T : Blt mg) (TLn : LineTxt K C) (hL : HasLine P w K mg base C)
    (hW : Has P w K mg base CX0 1 "ways_of" ["line", "steps"] (spWays C)) (hP : Has P w K mg base CX0 2 "places_along" ["line", "way"] (spPlaces C)) (hT : Has P w K mg base CX0 2 "type_of" ["places"] (spTypeOf K)) :
    FnOk P w K mg base CX0 4 f fd ["row", "steps"] spTypesB := by
  obtain ⟨gL, fI, fdI, mk, bI, GI⟩ := hL
  obtain ⟨fW, fdW, gW, kW, bW, GW⟩ := hW
  obtain ⟨fP, fdP, gP, kP, bP, GP⟩ := hP
  obtain ⟨fT, fdT, gT, kT, bT, GT⟩ := hT
  refine F.ok scTypesB (fun vs H Q E h => ?_) (fun cdv A outer s H vs Q E hr h => ?_)
  · obtain ⟨r, t, k, rfl, _⟩ := h; rfl
  · refine ⟨_, pss_cons (ps_set (i := 2) scTypesB.nd rfl (Or.inl rfl) (pe_make mk GI hr (by rfl) gL bI .nil pass0 (pa_cons (pv 0) pa_nil)))
      (pss_cons (ps_set (i := 3) scTypesB.nd rfl (Or.inl rfl) pe_dnewT)
      (pss_mid (ps_if (pt_cmpR op_eq (pe_callB call_len_seq (by rfl) T.len boot_len (pa_cons (pv 0) pa_nil)) (pv 1) (nomark _)) (pss_one (ps_dput (hu_of hr) (pv 3) (pv 0) pe_bl rfl)) pss_nil)
      (pss_cons (ps_for PassesOwn.never rfl (pi_list (pe_call GW (hr.mono (by decide)) rfl gW kW bW .nil pass0 (pa_cons (pv 2) (pa_cons (pv 1) pa_nil)))) (pg_name (i := 4) scTypesB.nd rfl (Or.inl rfl))
        (pss_cons (ps_set (i := 5) scTypesB.nd rfl (Or.inl rfl) (pe_call GP (hr.mono (by decide)) rfl gP kP bP .nil pass0 (pa_cons (pv 2) (pa_cons (pv 4) pa_nil))))
        (pss_one (ps_if (PW.pt (pw_and (pt_cmpR (op_neD hr.units) (pv 5) (pe_lst pa_nil) (nomark _)) (pw_and1 (pt_cmpR op_eq (pe_lenSetA (by rfl) T.len (by rfl) T.set (pv 5)) (pv 1) (nomark _)))))
          (pss_one (ps_dput (hu_of hr) (pv 3) (pe_call GT (hr.mono (by decide)) rfl gT kT bT .nil pass0 (pa_cons (pv 5) pa_nil)) pe_bl rfl)) pss_nil))))
      (pss_one (ps_ret (pe_callB (cr_sortedTups hr.units) (by rfl) T.sorted boot_sorted (pa_cons (pe_callTy (call_list_dT rfl) (by rfl) T.list boot_list (pa_cons (pv 3) pa_nil)) pa_nil))))))), ?_⟩
    obtain ⟨r, t, k, rfl, hrow, hz, ht, k1, k6, q⟩ := h
    have hpos := ht.pos
    have h6 : ∀ j, (Rt.onto (lineOf t) j).length ≤ 6 := fun j => by have := onto_len ht j; omega
    have hwl := ways_len h6 k6 (t.length - 1)
    have hwl2 : (Rt.ways (lineOf t) k).length ≤ 6 * 7776 := by
      show ((List.range (lineOf t).n).flatMap (Rt.waysFrom (lineOf t) k)).length ≤ _
      rw [Rt.line_n]
      have : (t.length - 1) * 7776 ≤ 6 * 7776 := Nat.mul_le_mul_right _ (by omega)
      omega
    -- line = Line(row)
    refine ⟨_, rfl, fun x dx nx nd ne => ⟨x, dx, r, t, rfl, upd_same, ?_, by omega, ht, fun H1 b1 L1 => ⟨rfl, ?_⟩⟩⟩
    · have s0 : Same H (upd (upd H dx (.own x)) x (.ins C dx [])) := (Same.new nd).trans (Same.new (by rw [upd_ne (Ne.symm ne)]; exact nx))
      exact SqT.of (s0 _ _ hrow)
    have s1 : Same H H1 := fun b o e => b1 b o (by rw [upd_ne (ne_of_none e nx), upd_ne (ne_of_none e nd)]; exact e) (ne_of_none e nx)
    -- found = {}
    refine fun fa nf => ?_
    have hF0 : H fa = none := Same.free s1 nf
    have s2 : Same H1 (upd H1 fa (.dT [])) := Same.new nf
    generalize hH2 : upd H1 fa (.dT []) = H2 at s2
    have f2 : H2 fa = some (.dT []) := by rw [← hH2]; exact upd_same
    have L2' := L1.same s2
    have hrow2 := (s1.trans s2) _ _ hrow
    have memT : ∀ u, MemB t k 0 u ↔ u = t ∧ t.length = k := fun u => by
      unfold MemB
      simp
    refine ⟨fun σ H3 => σ = [some (.ref r), some (.int (k : Int)), some (.ref x), some (.ref fa), none, none] ∧ Same H H3 ∧ LineAt C H3 x t ∧ ∃ kvs ks, H3 fa = some (.dT kvs) ∧ kvs.map (·.1) = List.map kN ks ∧ ks.Nodup ∧ ks.length ≤ 1 ∧ ∀ u, u ∈ ks ↔ MemB t k 0 u, ?_, ?_⟩
    · refine ⟨_, rfl, r, _, rfl, .inr (SqT.of hrow2), _, rfl, rfl, _, rfl, ?_⟩
      rw [vN_length]
      by_cases c : t.length = k
      · rw [decide_eq_true (congrArg V.int (by omega : (t.length : Int) = (k : Int)))]
        refine iteT ⟨_, rfl, _, rfl, fa, _, rfl, DPut.t (k := kN t) f2 (by rw [kN_V]; exact hrow2) (by decide), rfl, Same.mut (s1.trans s2) hF0, L2'.sb f2 (SB.self fun b o e _ => e), _, [t], upd_same, ?_, by simp, by simp, fun u => ?_⟩
        · rw [put_kN (ks := []) rfl]; rfl
        · rw [memT, List.mem_singleton]
          exact ⟨fun e => ⟨e, c⟩, fun e => e.1⟩
      · rw [decide_eq_false (fun e => c (by have := V.int.inj e; omega))]
        refine iteF ⟨rfl, s1.trans s2, L2', [], [], f2, rfl, by simp, by simp, fun u => ?_⟩
        rw [memT]
        exact ⟨fun e => (nomatch e), fun e => absurd e.2 c⟩
    · rintro σ H3 ⟨rfl, s3, L3, kvs0, ks0, f3, ek0, nd0, len0, mem0⟩
      refine ⟨_, rfl, _, rfl, x, t, k, rfl, L3, hz, ht, k1, k6, fun H4 wl s4 ⟨W, eW, hW4, tW⟩ => ?_⟩
      have f4 := s4 _ _ f3
      refine ⟨wl, rfl, ⟨_, SqL.of hW4⟩, for_list (K := K) (a := wl) (xs := refs W) (fun i σ H5 => (∃ v4 v5, σ = [some (.ref r), some (.int (k : Int)), some (.ref x), some (.ref fa), v4, v5]) ∧ BI fa k t H4 i H5) ?_ (fun i σ H5 _ p => SqL.of (p.2.1 _ _ hW4 (ne_of hW4 f4 fun z => by cases z))) ?_ ?_⟩
      · exact ⟨⟨none, none, rfl⟩, fun b o e _ => e, kvs0, ks0, f4, ek0, nd0, len0, mem0⟩
      · rintro i y σ H5 hy ⟨⟨v4, v5, rfl⟩, b5, kvs, ks, f5, ek, nd, len, mem⟩
        obtain ⟨pb, hpb, rfl⟩ := ref_at hy
        have hbw := kind_at eW hpb
        have hiw : i < (Rt.ways (lineOf t) k).length := (List.getElem?_eq_some_iff.mp hbw).1
        obtain ⟨first, rr, er, hfn, hrr, hlk, hfi⟩ := (Rt.ways_mem (Rt.covers_lt ht)).mp (List.mem_of_getElem? hbw)
        have hb5 : H5 pb.1 = some (.tup (vN pb.2)) := b5 _ _ (tW pb (List.mem_of_getElem? hpb)) (ne_of (tW pb (List.mem_of_getElem? hpb)) f4 fun z => by cases z)
        have L5 := (L3.same s4).sb f4 b5
        have hov := (Rt.place_comes hlk).1
        have hnew : ∀ u, MemB t k (i + 1) u ↔ MemB t k i u ∨ (Rt.Brings (lineOf t) pb.2 ∧ u = Rt.typeOf (Rt.roundOf (lineOf t) pb.2)) := fun u => by
          unfold MemB
          rw [take_more hbw]
          constructor
          · rintro (h | ⟨w', hw', h1, h2⟩)
            · exact .inl (.inl h)
            · rcases List.mem_append.mp hw' with h | h
              · exact .inl (.inr ⟨w', h, h1, h2⟩)
              · rw [List.mem_singleton] at h
                subst h
                exact .inr ⟨h1, h2⟩
          · rintro ((h | ⟨w', hw', h1, h2⟩) | ⟨h1, h2⟩)
            · exact .inl h
            · exact .inr ⟨w', List.mem_append_left _ hw', h1, h2⟩
            · exact .inr ⟨pb.2, List.mem_append_right _ (List.mem_singleton.mpr rfl), h1, h2⟩
        have noB : ∀ {H' : Hp}, ¬ Rt.Brings (lineOf t) pb.2 → Same H5 H' → BI fa k t H4 (i + 1) H' := by
          intro H' hn sm
          refine ⟨b5.same sm, kvs, ks, sm _ _ f5, ek, nd, by omega, fun u => ?_⟩
          rw [mem, hnew]
          exact ⟨.inl, fun z => z.elim id fun z => absurd z.1 hn⟩
        refine ⟨_, rfl, _, rfl, x, pb.1, t, pb.2, rfl, L5, hb5, hz, ht, by rw [er]; exact fun z => (nomatch z), ?_, by rw [er]; simp; omega, by rw [er]; exact hov, fun H6 pl s6 h6 => ?_⟩
        · rw [er]
          intro j hj
          rcases List.mem_cons.mp hj with rfl | hj
          · exact hfn
          · exact Rt.lk_lt hlk j hj
        -- places != []
        have hro : (Rt.roundOf (lineOf t) pb.2).length = k := by
          unfold Rt.roundOf
          rw [Rt.places_length, er]; simp; omega
        refine ⟨_, rfl, by show 0 ≤ sizeLine; decide, fun e0 n0 => ⟨.list (dI (placesP t pb.2)), .list (dI []), .lst (SqL.of ((Same.new n0) _ _ h6)) (dpInts _), .lst (xs := []) (SqL.of upd_same) .nil, shapedL _, shapedL _, _, rfl, ?_⟩⟩
        have s7 : Same H6 (upd H6 e0 (.lst [])) := Same.new n0
        rw [eqvL]
        by_cases cd : (Rt.placeOf (lineOf t) pb.2).2 ∣ (Rt.placeOf (lineOf t) pb.2).1
        · have ep : placesP t pb.2 = [] := if_pos cd
          rw [ep]
          refine iteF (iteF ⟨⟨_, _, rfl⟩, noB (fun z => z.non cd) (s6.trans s7)⟩)
        · have ep : placesP t pb.2 = Rt.roundOf (lineOf t) pb.2 := if_neg cd
          rw [ep] at h6 ⊢
          rw [decide_eq_false (fun z => by rw [z] at hro; simp at hro; omega)]
          refine iteT ⟨_, rfl, pl, _, rfl, SqL.of (s7 _ _ h6), by rw [hro]; omega, _, rfl, rfl, _, rfl, ?_⟩
          by_cases cn : (Rt.roundOf (lineOf t) pb.2).Nodup
          · rw [decide_eq_true (congrArg V.int (by rw [firstMet_iff.mpr cn, hro]))]
            have hB : Rt.Brings (lineOf t) pb.2 := ⟨cd, cn⟩
            have f7 : (upd H6 e0 (.lst [])) fa = some (.dT kvs) := s7 _ _ (s6 _ _ f5)
            refine iteT ⟨_, rfl, _, rfl, pl, _, rfl, SqL.of (s7 _ _ h6), by rw [hro]; omega, fun z => by rw [z] at hro; simp at hro; omega, cn, fun H8 p8 s8 h8 => ?_⟩
            have f8 := s8 _ _ f7
            have l1 : kvs.length = ks.length := by have := congrArg List.length ek; rw [List.length_map, List.length_map] at this; exact this
            refine ⟨fa, _, rfl, DPut.t (k := kN (Rt.typeOf (Rt.roundOf (lineOf t) pb.2))) f8 (by rw [kN_V]; exact h8) (szlt (by omega)), ⟨_, _, rfl⟩, ((b5.same s6).same s7 |>.same s8).self, _, addK ks (Rt.typeOf (Rt.roundOf (lineOf t) pb.2)), upd_same, put_kN ek _ _, addK_nodup nd, ?_, fun u => ?_⟩
            · have := addK_len (ks := ks) (u := Rt.typeOf (Rt.roundOf (lineOf t) pb.2))
              omega
            · rw [addK_mem, mem, hnew]
              exact ⟨fun z => z.elim .inl fun e => .inr ⟨hB, e⟩, fun z => z.elim .inl fun e => .inr e.2⟩
          · rw [decide_eq_false (fun e => cn (firstMet_iff.mp (by have := V.int.inj e; omega)))]
            exact iteF ⟨⟨_, _, rfl⟩, noB (fun z => cn z.nodup) (s6.trans s7)⟩
      · rintro σ H5 ⟨⟨v4, v5, rfl⟩, b5, kvs, ks, f5, ek, nd, len, mem⟩
        have s5 : Same H H5 := fun b o e => b5 b o (s4 _ _ (s3 _ _ e)) (ne_of_none e hF0)
        have mem2 : ∀ u, u ∈ ks ↔ u ∈ Su184.types t k := fun u => by
          obtain ⟨k', rfl⟩ : ∃ k', k = k' + 1 := ⟨k - 1, by omega⟩
          rw [mem, Rt.types_mem ht, refs_len eW]
          unfold MemB
          rw [List.take_length]
        refine ⟨_, rfl, fa, kvs, rfl, .inl f5, fun p bs np hk => ?_⟩
        obtain ⟨M, m1, m2, m3⟩ := keys_tups hk ek
        have s6 : Same H5 (upd H5 p (.lst (bs.map V.ref))) := Same.new np
        refine ⟨p, M.map fun p => (p.1, Rt.nts p.2), rfl, ?_, ?_, fun l nl => ?_⟩
        · rw [List.map_map]
          have : bs.map V.ref = M.map ((fun p : Addr × List Int => V.ref p.1) ∘ fun p : Addr × List Nat => (p.1, Rt.nts p.2)) := by
            rw [← m2, List.map_map]; rfl
          rw [this]
          exact SqL.of upd_same
        · intro z hz'
          obtain ⟨y, hy, rfl⟩ := List.mem_map.mp hz'
          refine ⟨SqT.of (s6 _ _ (m3 y hy)), fun e => ?_⟩
          have hy2 : y.2 = [] := List.map_eq_nil_iff.mp e
          have hyk : y.2 ∈ ks := m1 ▸ List.mem_map.mpr ⟨y, hy, rfl⟩
          rw [hy2, mem] at hyk
          rcases hyk with ⟨e1, _⟩ | ⟨w', hw', _, e1⟩
          · rw [← e1] at hpos; exact Nat.lt_irrefl 0 hpos
          · have := congrArg List.length e1
            rw [typeOf_len] at this
            obtain ⟨first, rr, er, _, _, _, _⟩ := (Rt.ways_mem (Rt.covers_lt ht)).mp (List.mem_of_mem_take hw')
            unfold Rt.roundOf at this
            rw [Rt.places_length, er] at this
            simp at this
        · obtain ⟨M', e1, e2, e3⟩ := sorted_kinds (M := M) (by rw [m1]; exact nd) (Rt.types_sorted t k) (fun u => by rw [m1]; exact mem2 u)
          rw [e2]
          have s7 := s6.trans (Same.new (o := .lst (refs M')) nl)
          exact q _ l (s5.trans s7) ⟨M', e1, upd_same, fun y hy => s7 _ _ (m3 y (e3 y hy))⟩
end
end Rw

set_option maxRecDepth 100000
set_option maxHeartbeats 4000000
/-! # The walk: does_bring, is_alone -/
namespace Rw
open PySem PySem.Spec PyProof.Rows L2
abbrev tD (ts : List (List Nat)) : List PyData := ts.map fun u => .tuple (dI (Rt.nts u))
theorem dpTups {K : PySem.W.Frag} {H : Hp} : ∀ {L : List (Addr × List Nat)}, TL H L → DpAll K H (refs L) (tD (kinds L))
  | [], _ => .nil
  | p :: L, h => .cons (.tup (SqT.of (h p List.mem_cons_self)) (dpInts _)) (dpTups fun q hq => h q (List.mem_cons_of_mem _ hq))
theorem layTups : ∀ ts : List (List Nat), PyData.canLayAll0 (tD ts) = true
  | [] => by simp [PyData.canLayAll0]
  | u :: ts => by
    show PyData.canLayAll0 (.tuple (dI (Rt.nts u)) :: tD ts) = true
    rw [PyData.canLayAll0, layTups ts, PyData.canLay0, layInts]; rfl
theorem depthTups : ∀ ts : List (List Nat), PyData.depthAll (tD ts) ≤ 1
  | [] => by simp [PyData.depthAll]
  | u :: ts => by
    have h := depthTups ts
    show PyData.depthAll (.tuple (dI (Rt.nts u)) :: tD ts) ≤ 1
    rw [PyData.depthAll, PyData.depth, depthInts]
    omega
theorem shapedTs (ts : List (List Nat)) : SeqAt.shaped (.list (tD ts)) = true := by
  have h := depthTups ts
  show (PyData.canLay0 (.list (tD ts)) && decide (PyData.depth (.list (tD ts)) ≤ 64)) = true
  rw [PyData.canLay0, layTups, PyData.depth, Bool.true_and]
  exact decide_eq_true (by omega)
theorem eqvAll_tups : ∀ a b : List (List Nat), PyData.eqvAll (tD a) (tD b) = decide (a = b)
  | [], [] => by simp [PyData.eqvAll]
  | [], _ :: _ => by simp [PyData.eqvAll]
  | _ :: _, [] => by simp [PyData.eqvAll]
  | x :: a, y :: b => by
    show PyData.eqvAll (.tuple (dI (Rt.nts x)) :: tD a) (.tuple (dI (Rt.nts y)) :: tD b) = _
    rw [PyData.eqvAll, eqvAll_tups a b, eqvT]
    by_cases h : x = y
    · subst h; by_cases h2 : a = b <;> simp [h2]
    · have h' : ¬ Rt.nts x = Rt.nts y := fun e => h (ints_inj e)
      rw [decide_eq_false h', Bool.false_and, decide_eq_false (fun e => h (List.cons.inj e).1)]
theorem eqvTs (a b : List (List Nat)) : PyData.eqv (.list (tD a)) (.list (tD b)) = decide (a = b) := by
  rw [PyData.eqv]; exact eqvAll_tups a b
theorem any_tups (u : List Nat) : ∀ ts : List (List Nat), ((tD ts).any fun z => PyData.eqv z (.tuple (dI (Rt.nts u)))) = ts.contains u
  | [] => rfl
  | x :: ts => by
    show (PyData.eqv (.tuple (dI (Rt.nts x))) (.tuple (dI (Rt.nts u))) || (tD ts).any fun z => PyData.eqv z (.tuple (dI (Rt.nts u)))) = (u == x || ts.contains u)
    rw [any_tups u ts, eqvT]
    congr 1
    by_cases h : x = u
    · subst h; simp
    · have h' : ¬ Rt.nts x = Rt.nts u := fun e => h (ints_inj e)
      rw [decide_eq_false h', beq_eq_false_iff_ne.mpr (Ne.symm h)]
section
variable {P : Program} {w : World} {K : PySem.W.Frag} {mg : Str → Option Value} {base : Heap}
abbrev sDoes : Stmt := top 15
theorem scDoes : FnScope ["row", "other"] ["row", "other"] (defScope sDoes) := ⟨rfl, rfl, rfl, by decide +kernel, rfl, by decide +kernel, by decide +kernel⟩
def spDoes : Sp := fun vs H Q _ => ∃ (r o : Addr) (t u : List Nat), vs = [.ref r, .ref o] ∧ H r = some (.tup (vN t)) ∧ H o = some (.tup (vN u)) ∧ t.length ≤ 7 ∧ Rt.IsT t ∧ 1 ≤ u.length ∧ u.length ≤ 6 ∧
  ∀ H', Same H H' → Q (.bl (Su184.brings t u)) H'
theorem ok_does {f : Addr} {fd : FuncData} (F : Fun K "does_bring" "does_bring" sDoes f fd) (T : Blt mg) (hB : Has P w K mg base CX0 4 "types_brought" ["row", "steps"] spTypesB) : FnOk P w K mg base CX0 5 f fd ["row", "other"] spDoes := by
  obtain ⟨fB, fdB, gB, kB, bB, GB⟩ := hB
  refine F.ok scDoes (fun vs H Q E h => ?_) (fun cdv A outer s H vs Q E hr h => ?_)
  · obtain ⟨r, o, t, u, rfl, _⟩ := h; rfl
  · have hu : (A.deeper (envOfC "does_bring" (defScope sDoes) s.heap.objs.size f cdv)).units + 65 < cLine := by have := hr.un; omega
    refine ⟨_, pss_one (ps_ret (pe_cmpR (op_inD hu) (pv 1) (pe_call GB hr rfl gB kB bB .nil pass0 (pa_cons (pv 0) (pa_cons (pe_callB call_len_seq (by rfl) T.len boot_len (pa_cons (pv 1) pa_nil)) pa_nil))) (by rfl))), ?_⟩
    obtain ⟨r, o, t, u, rfl, hrow, ho, hz, ht, u1, u6, q⟩ := h
    refine ⟨_, rfl, _, rfl, _, rfl, o, _, rfl, .inr (SqT.of ho), r, t, u.length, by rw [vN_length]; rfl, hrow, hz, ht, u1, u6, fun H' p s1 ⟨L, eL, hp, tL⟩ => ?_⟩
    refine ⟨.tuple (dI (Rt.nts u)), tD (kinds L), .tup (SqT.of (s1 _ _ ho)) (dpInts _), .lst (SqL.of hp) (dpTups tL), shapedT _, shapedTs _, ?_⟩
    rw [any_tups, eL]
    exact q H' s1
abbrev sAlone : Stmt := top 16
theorem scAlone : FnScope ["row"] ["row"] (defScope sAlone) := ⟨rfl, rfl, rfl, by decide +kernel, rfl, by decide +kernel, by decide +kernel⟩
def spAlone : Sp := fun vs H Q _ => ∃ (r : Addr) (t : List Nat), vs = [.ref r] ∧ H r = some (.tup (vN t)) ∧ t.length ≤ 6 ∧ Rt.IsT t ∧
  ∀ H', Same H H' → Q (.bl (decide (Su184.types t t.length = [t]))) H'
theorem ok_alone {f : Addr} {fd : FuncData} (F : Fun K "is_alone" "is_alone" sAlone f fd) (T : Blt mg) (hB : Has P w K mg base CX0 4 "types_brought" ["row", "steps"] spTypesB) : FnOk P w K mg base CX0 5 f fd ["row"] spAlone := by
  obtain ⟨fB, fdB, gB, kB, bB, GB⟩ := hB
  refine F.ok scAlone (fun vs H Q E h => ?_) (fun cdv A outer s H vs Q E hr h => ?_)
  · obtain ⟨r, t, rfl, _⟩ := h; rfl
  · refine ⟨_, pss_one (ps_ret (pe_cmpR (op_eqD hr.units) (pe_call GB hr rfl gB kB bB .nil pass0 (pa_cons (pv 0) (pa_cons (pe_callB call_len_seq (by rfl) T.len boot_len (pa_cons (pv 0) pa_nil)) pa_nil))) (pe_lst (pa_cons (pv 0) pa_nil)) (nomark _))), ?_⟩
    obtain ⟨r, t, rfl, hrow, hz, ht, q⟩ := h
    have hpos := ht.pos
    refine ⟨_, rfl, _, rfl, r, _, rfl, .inr (SqT.of hrow), r, t, t.length, by rw [vN_length]; rfl, hrow, by omega, ht, hpos, hz, fun H' p s1 ⟨L, eL, hp, tL⟩ => ?_⟩
    refine ⟨_, rfl, by show 1 ≤ sizeLine; decide, fun l nl => ?_⟩
    have s2 : Same H' (upd H' l (.lst [.ref r])) := Same.new nl
    refine ⟨.list (tD (kinds L)), .list (tD [t]), .lst (SqL.of (s2 _ _ hp)) (dpTups (tL.same s2)), .lst (xs := refs [(r, t)]) (SqL.of upd_same) (dpTups (L := [(r, t)]) fun p hp => ?_), shapedTs _, shapedTs _, ?_⟩
    · rw [List.mem_singleton] at hp
      subst hp
      exact (s1.trans s2) _ _ hrow
    · rw [eqvTs, eL]
      exact q _ (s1.trans s2)
end
end Rw

set_option maxRecDepth 100000
set_option maxHeartbeats 4000000
/-! # The walk: the desk -/
namespace Rw
open PySem PySem.Spec PyProof.Rows L2
def fD (a b : Addr) : List (Str × V) := [("row", .ref a), ("known", .ref b)]
theorem fD_row (a b : Addr) : List.lookup ("row" : Str) (fD a b) = some (V.ref a) := rfl
theorem fD_known (a b : Addr) : List.lookup ("known" : Str) (fD a b) = some (V.ref b) := rfl
theorem fD_make (a b : Addr) : putF "known" (.ref b) (putF "row" (.ref a) []) = fD a b := rfl
theorem fD_put_row (a b c : Addr) : putF "row" (.ref c) (fD a b) = fD c b := rfl
theorem fD_put_known (a b c : Addr) : putF "known" (.ref c) (fD a b) = fD a c := rfl
/-- the class of desks -/
structure DeskTxt (K : PySem.W.Frag) (C : Addr) : Prop where
  cl : Cls K C
  nR : NoAttr K C "row"
  nK : NoAttr K C "known"
/-- what is reckoned: by steps, the kinds brought -/
structure Memo (H : Hp) (t : List Nat) (kvs : List (Key × V)) (js : List Nat) : Prop where
  keys : kvs.map (·.1) = js.map fun j : Nat => (Sum.inl (j : Int) : Key)
  nodup : js.Nodup
  rng : ∀ j ∈ js, 1 ≤ j ∧ j ≤ 6
  val : ∀ (j : Nat) v, valV kvs (Sum.inl (j : Int)) = some v → ∃ a, v = .ref a ∧ LT H a (Su184.types t j)
structure DeskUp (C : Addr) (H : Hp) (D dx ra kd : Addr) (t : List Nat) (kvs : List (Key × V)) (js : List Nat) : Prop where
  obj : H D = some (.ins C dx (fD ra kd))
  row : H ra = some (.tup (vN t))
  known : H kd = some (.dK kvs)
  memo : Memo H t kvs js
/-- the desk at D, its kind -/
def DeskAt (C : Addr) (H : Hp) (D : Addr) (t : List Nat) : Prop := ∃ dx ra kd kvs js, DeskUp C H D dx ra kd t kvs js
/-- all but the desk and what it has reckoned is as it was -/
def Fr (D : Addr) (H H' : Hp) : Prop := ∀ b o, H b = some o → b ≠ D → (∀ kvs, o ≠ .dK kvs) → H' b = some o
theorem Fr.refl (D : Addr) (H : Hp) : Fr D H H := fun _ _ e _ _ => e
theorem Fr.trans {D : Addr} {H H1 H2 : Hp} (a : Fr D H H1) (b : Fr D H1 H2) : Fr D H H2 := fun c o e n k => b c o (a c o e n k) n k
theorem Fr.of {D : Addr} {H H' : Hp} (s : Same H H') : Fr D H H' := fun b o e _ _ => s b o e
theorem Fr.same {D : Addr} {H H1 H2 : Hp} (a : Fr D H H1) (b : Same H1 H2) : Fr D H H2 := a.trans (Fr.of b)
theorem Fr.self {D : Addr} {H H' : Hp} {o : HO} (a : Fr D H H') : Fr D H (upd H' D o) := fun b u e n k => by
  rw [upd_ne n]; exact a b u e n k
theorem Fr.dict {D kd : Addr} {H H' : Hp} {kvs : List (Key × V)} {o : HO} (a : Fr D H H') (h : H' kd = some (.dK kvs)) : Fr D H (upd H' kd o) := fun b u e n k => by
  rw [upd_ne (ne_of (a b u e n k) h (k kvs))]; exact a b u e n k
theorem Fr.lst {D a : Addr} {H H' : Hp} {xs : List V} (f : Fr D H H') (h : H a = some (.lst xs)) (hD : ∃ C dx fs, H D = some (.ins C dx fs)) : H' a = some (.lst xs) := by
  obtain ⟨C, dx, fs, e⟩ := hD
  exact f a _ h (ne_of h e fun z => by cases z) fun kvs z => by cases z
theorem Fr.tup {D a : Addr} {H H' : Hp} {xs : List V} (f : Fr D H H') (h : H a = some (.tup xs)) (hD : ∃ C dx fs, H D = some (.ins C dx fs)) : H' a = some (.tup xs) := by
  obtain ⟨C, dx, fs, e⟩ := hD
  exact f a _ h (ne_of h e fun z => by cases z) fun kvs z => by cases z
theorem LT.fr {D a C dx : Addr} {fs : List (Str × V)} {H H' : Hp} {ts : List (List Nat)} (h : LT H a ts) (f : Fr D H H') (hD : H D = some (.ins C dx fs)) : LT H' a ts := by
  obtain ⟨L, e, h1, h2⟩ := h
  exact ⟨L, e, f.lst h1 ⟨_, _, _, hD⟩, fun p hp => f.tup (h2 p hp) ⟨_, _, _, hD⟩⟩
theorem DeskAt.same {C D : Addr} {H H' : Hp} {t : List Nat} (h : DeskAt C H D t) (s : Same H H') : DeskAt C H' D t := by
  obtain ⟨dx, ra, kd, kvs, js, a, b, c, m⟩ := h
  refine ⟨dx, ra, kd, kvs, js, s _ _ a, s _ _ b, s _ _ c, m.keys, m.nodup, m.rng, fun j v e => ?_⟩
  obtain ⟨l, e1, e2⟩ := m.val j v e
  exact ⟨l, e1, e2.same s⟩
theorem DeskAt.ins {C D : Addr} {H : Hp} {t : List Nat} (h : DeskAt C H D t) : ∃ C dx fs, H D = some (.ins C dx fs) := let ⟨_, _, _, _, _, u⟩ := h; ⟨_, _, _, u.obj⟩
theorem memo_nil (H : Hp) (t : List Nat) : Memo H t [] [] := ⟨rfl, by simp, fun j h => (nomatch h), fun j v h => by cases h⟩
theorem Memo.len {H : Hp} {t : List Nat} {kvs : List (Key × V)} {js : List Nat} (m : Memo H t kvs js) : kvs.length ≤ 6 := by
  have h1 := congrArg List.length m.keys
  rw [List.length_map, List.length_map] at h1
  have h2 : js ⊆ (List.range 6).map (· + 1) := fun j hj => by
    obtain ⟨a, b⟩ := m.rng j hj
    exact List.mem_map.mpr ⟨j - 1, List.mem_range.mpr (by omega), by omega⟩
  have h3 := List.Nodup.length_le_of_subset m.nodup h2
  simp at h3
  omega
section
variable {P : Program} {w : World} {K : PySem.W.Frag} {mg : Str → Option Value} {base : Heap}
/-! ## Desk() -/
abbrev sDeskInit : Stmt := inClass (top 39) 0
theorem scDeskInit : FnScope ["self"] ["self"] (defScope sDeskInit) := ⟨rfl, rfl, rfl, by decide +kernel, rfl, by decide +kernel, by decide +kernel⟩
def spDeskInit (C : Addr) : Sp := fun vs H Q _ => ∃ (x dx : Addr), vs = [.ref x] ∧ H x = some (.ins C dx []) ∧ ∀ H', SB x H H' → DeskAt C H' x [] → Q .non H'
theorem ok_deskInit {f C : Addr} {fd : FuncData} (F : Fun K "__init__" "Desk.__init__" sDeskInit f fd) (TD : DeskTxt K C) : FnOk P w K mg base CX0 1 f fd ["self"] (spDeskInit C) := by
  refine F.ok scDeskInit (fun vs H Q E h => ?_) (fun cdv A outer s H vs Q E hr h => ?_)
  · obtain ⟨x, dx, rfl, _⟩ := h; rfl
  · refine ⟨_, pss_cons (ps_fld (pv 0) (pe_tup pa_nil) rfl) (pss_one (ps_fld (pv 0) pe_dnewK rfl)), ?_⟩
    obtain ⟨x, dx, rfl, hx, q⟩ := h
    refine ⟨by show 0 ≤ sizeLine; decide, fun ra nr => ⟨_, rfl, x, C, dx, _, rfl, (Same.new nr) _ _ hx, TD.cl, TD.nR, by show 0 < 1000; decide, ?_⟩⟩
    have xr : x ≠ ra := ne_of_none hx nr
    have b1 : SB x H (upd (upd H ra (.tup [])) x (.ins C dx (putF "row" (.ref ra) []))) := (SB.new (fun b o e _ => e) nr).self
    generalize hH1 : upd (upd H ra (.tup [])) x (.ins C dx (putF "row" (.ref ra) [])) = H1 at b1
    have x1 : H1 x = some (.ins C dx (putF "row" (.ref ra) [])) := by rw [← hH1]; exact upd_same
    have r1 : H1 ra = some (.tup []) := by rw [← hH1, upd_ne (Ne.symm xr)]; exact upd_same
    refine fun kd nk => ⟨_, rfl, x, C, dx, _, rfl, (Same.new nk) _ _ x1, TD.cl, TD.nK, by show 1 < 1000; decide, ?_⟩
    rw [fD_make]
    have xk : x ≠ kd := ne_of_none x1 nk
    have rk : ra ≠ kd := ne_of_none r1 nk
    refine q _ (b1.new nk).self ⟨dx, ra, kd, [], [], upd_same, ?_, ?_, memo_nil _ _⟩
    · rw [upd_ne (Ne.symm xr), upd_ne rk]; exact r1
    · rw [upd_ne (Ne.symm xk)]; exact upd_same
/-! ## need -/
abbrev sNeed : Stmt := top 40
theorem scNeed : FnScope ["truth", "number"] ["truth", "number"] (defScope sNeed) := ⟨rfl, rfl, rfl, by decide +kernel, rfl, by decide +kernel, by decide +kernel⟩
/-- an error's own dict -/
abbrev errD (n : Int) : HO := .xd [(("number" : Str), .int n)]
def spNeed (CR : Addr) : Sp := fun vs H Q E => ∃ (b : Bool) (n : Int), vs = [.bl b, .int n] ∧ (b = false → ∀ d, H d = none → E (.ref CR) (some d) (upd H d (errD n))) ∧ (b = true → Q .non H)
theorem ok_need {f CR fI : Addr} {fd : FuncData} (F : Fun K "need" "need" sNeed f fd) (TL : PySem.LowX.LowTxt K mg CR fI) : FnOk P w K mg base (L2.CX P w) 3 f fd ["truth", "number"] (spNeed CR) := by
  refine F.okX scNeed (fun vs H Q E h => ?_) (fun cdv A outer s H vs Q E hr h => ?_)
  · obtain ⟨b, n, rfl, _⟩ := h; rfl
  · refine ⟨_, pss_one (ps_if (pt_not (pt_val (pv 0))) (pss_one (ps_raiseLow rfl TL hr (takes_of rfl rfl rfl rfl) (by exact (pa_cons (pv 1) pa_nil)))) pss_nil), ?_⟩
    obtain ⟨b, n, rfl, q1, q2⟩ := h
    refine ⟨_, rfl, b, rfl, ?_⟩
    cases b with
    | false => exact iteT ⟨_, rfl, _, rfl, fun d hd => q1 rfl d hd⟩
    | true => exact iteF (q2 rfl)
/-! ## put -/
abbrev sPut : Stmt := top 41
theorem scPut : FnScope ["desk", "row"] ["desk", "row"] (defScope sPut) := ⟨rfl, rfl, rfl, by decide +kernel, rfl, by decide +kernel, by decide +kernel⟩
def spPut (C : Addr) : Sp := fun vs H Q _ => ∃ (D r : Addr) (t u : List Nat), vs = [.ref D, .ref r] ∧ DeskAt C H D t ∧ H r = some (.tup (vN u)) ∧ ∀ H', Fr D H H' → DeskAt C H' D u → Q .non H'
theorem ok_put {f C : Addr} {fd : FuncData} (F : Fun K "put" "put" sPut f fd) (TD : DeskTxt K C) : FnOk P w K mg base CX0 1 f fd ["desk", "row"] (spPut C) := by
  refine F.ok scPut (fun vs H Q E h => ?_) (fun cdv A outer s H vs Q E hr h => ?_)
  · obtain ⟨D, r, t, u, rfl, _⟩ := h; rfl
  · refine ⟨_, pss_mid (ps_if (pt_cmpR (op_neD hr.units) (pv 1) (pe_fld (pv 0) rfl) (nomark _)) (pss_one (ps_fld (pv 0) pe_dnewK rfl)) pss_nil) (pss_one (ps_fld (pv 0) (pv 1) rfl)), ?_⟩
    obtain ⟨D, r, t, u, rfl, ⟨dx, ra, kd, kvs, js, up⟩, hr', q⟩ := h
    have Dr : D ≠ r := ne_of up.obj hr' fun z => by cases z
    refine ⟨fun σ H1 => σ = [some (.ref D), some (.ref r)] ∧ Fr D H H1 ∧ H1 r = some (.tup (vN u)) ∧ ∃ ra kd kvs js, H1 D = some (.ins C dx (fD ra kd)) ∧ H1 kd = some (.dK kvs) ∧ Memo H1 u kvs js, ?_, ?_⟩
    · refine ⟨_, rfl, _, rfl, D, C, dx, _, _, rfl, up.obj, TD.cl, TD.nR, fD_row ra kd, .tuple (dI (Rt.nts u)), .tuple (dI (Rt.nts t)), .tup (SqT.of hr') (dpInts _), .tup (SqT.of up.row) (dpInts _), shapedT _, shapedT _, _, rfl, ?_⟩
      rw [eqvT]
      by_cases c : Rt.nts u = Rt.nts t
      · have e := ints_inj c
        rw [decide_eq_true c]
        refine iteF ⟨rfl, Fr.refl D H, hr', ra, kd, kvs, js, up.obj, up.known, ?_⟩
        rw [e]; exact up.memo
      · rw [decide_eq_false c]
        refine iteT (fun k2 n2 => ⟨_, rfl, D, C, dx, _, rfl, (Same.new n2) _ _ up.obj, TD.cl, TD.nK, by show 2 < 1000; decide, rfl, (Fr.of (Same.new n2)).self, ?_, ra, k2, [], [], ?_, ?_, memo_nil _ _⟩)
        · rw [upd_ne (Ne.symm Dr)]; exact (Same.new n2) _ _ hr'
        · rw [upd_same, fD_put_known]
        · rw [upd_ne (Ne.symm (ne_of_none up.obj n2))]; exact upd_same
    · rintro σ H1 ⟨rfl, f1, h1, ra1, kd1, kvs1, js1, o1, k1, m1⟩
      refine ⟨_, rfl, _, rfl, D, C, dx, _, rfl, o1, TD.cl, TD.nR, by show 2 < 1000; decide, ?_⟩
      rw [fD_put_row]
      refine q _ f1.self ⟨dx, r, kd1, kvs1, js1, upd_same, ?_, ?_, m1.keys, m1.nodup, m1.rng, fun j v e => ?_⟩
      · rw [upd_ne (Ne.symm Dr)]; exact h1
      · rw [upd_ne (ne_of k1 o1 fun z => by cases z)]; exact k1
      · obtain ⟨a, e1, e2⟩ := m1.val j v e
        exact ⟨a, e1, e2.fr (Fr.self (Fr.refl D H1)) o1⟩
/-! ## shown -/
abbrev sShown : Stmt := top 42
theorem scShown : FnScope ["row"] ["row"] (defScope sShown) := ⟨rfl, rfl, rfl, by decide +kernel, rfl, by decide +kernel, by decide +kernel⟩
def spShown (K : PySem.W.Frag) : Sp := fun vs H Q _ => ∃ (r : Addr) (t : List Nat), vs = [.ref r] ∧ SqT K H r (vN t) ∧ t.length ≤ 1000 ∧ ∀ H' p, Same H H' → H' p = some (.lst (vN (t.length :: t))) → Q (.ref p) H'
theorem ok_shown {f : Addr} {fd : FuncData} (F : Fun K "shown" "shown" sShown f fd) (T : Blt mg) : FnOk P w K mg base CX0 1 f fd ["row"] (spShown K) := by
  refine F.ok scShown (fun vs H Q E h => ?_) (fun cdv A outer s H vs Q E hr h => ?_)
  · obtain ⟨r, t, rfl, _⟩ := h; rfl
  · refine ⟨_, pss_one (ps_ret (pe_op op_cat (pe_lst (pa_cons (pe_callB call_len_seq (by rfl) T.len boot_len (pa_cons (pv 0) pa_nil)) pa_nil)) (pe_callTy call_list_of (by rfl) T.list boot_list (pa_cons (pv 0) pa_nil)))), ?_⟩
    obtain ⟨r, t, rfl, hs, hz, q⟩ := h
    refine ⟨_, rfl, r, _, rfl, .inr hs, by show 1 ≤ sizeLine; decide, fun l1 n1 => ⟨_, rfl, r, _, rfl, .inr (Same.seqT (Same.new n1) hs), fun l2 n2 => ⟨l1, l2, _, _, rfl, rfl, (Same.new n2) _ _ upd_same, upd_same, ?_, fun p np => ?_⟩⟩⟩
    · rw [vN_length]
      exact sz1000 (by simp; omega)
    · refine q _ p (((Same.new n1).trans (Same.new n2)).trans (Same.new np)) ?_
      rw [upd_same, vN_length]
      rfl
end
end Rw

set_option maxRecDepth 100000
set_option maxHeartbeats 4000000
/-! # The walk: brought, take, turn, double -/
namespace Rw
open PySem PySem.Spec PyProof.Rows L2
/-- refused by n: the desk as it was -/
def AnsE (C CR D : Addr) (H : Hp) (E : XK) (t : List Nat) (n : Int) : Prop := ∀ H' d, Fr D H H' → DeskAt C H' D t → H' d = some (errD n) → E (.ref CR) (some d) H'
/-- answered -/
def AnsQ (C D : Addr) (H : Hp) (Q : VK) (t : List Nat) (out : List Int) : Prop := ∀ H' p, Fr D H H' → DeskAt C H' D t → H' p = some (.lst (vI out)) → Q (.ref p) H'
theorem AnsE.need {C CR D : Addr} {H H' : Hp} {E : XK} {t : List Nat} {n : Int} (a : AnsE C CR D H E t n) (f : Fr D H H') (d : DeskAt C H' D t) : ∀ e, H' e = none → E (.ref CR) (some e) (upd H' e (errD n)) :=
  fun e he => a _ e (f.same (Same.new he)) (d.same (Same.new he)) upd_same
section
variable {P : Program} {w : World} {K : PySem.W.Frag} {mg : Str → Option Value} {base : Heap}
/-! ## brought -/
abbrev sBrought : Stmt := top 46
theorem scBrought : FnScope ["desk", "steps"] ["desk", "steps"] (defScope sBrought) := ⟨rfl, rfl, rfl, by decide +kernel, rfl, by decide +kernel, by decide +kernel⟩
def spBrought (C : Addr) : Sp := fun vs H Q _ => ∃ (D : Addr) (t : List Nat) (k : Nat), vs = [.ref D, .int (k : Int)] ∧ DeskAt C H D t ∧ t.length ≤ 7 ∧ Rt.IsT t ∧ 1 ≤ k ∧ k ≤ 6 ∧
  ∀ H' a, Fr D H H' → DeskAt C H' D t → LT H' a (Su184.types t k) → Q (.ref a) H'
theorem ok_brought {f C : Addr} {fd : FuncData} (F : Fun K "brought" "brought" sBrought f fd) (TD : DeskTxt K C) (hB : Has P w K mg base CX0 4 "types_brought" ["row", "steps"] spTypesB) : FnOk P w K mg base CX0 5 f fd ["desk", "steps"] (spBrought C) := by
  obtain ⟨fB, fdB, gB, kB, bB, GB⟩ := hB
  refine F.ok scBrought (fun vs H Q E h => ?_) (fun cdv A outer s H vs Q E hr h => ?_)
  · obtain ⟨D, t, k, rfl, _⟩ := h; rfl
  · refine ⟨_, pss_mid (ps_if (pt_cmp (pc_dnotin (hu_of hr) (pv 1) (pe_fld (pv 0) rfl))) (pss_one (ps_dput (hu_of hr) (pe_fld (pv 0) rfl) (pv 1) (pe_call GB hr rfl gB kB bB .nil pass0 (pa_cons (pe_fld (pv 0) rfl) (pa_cons (pv 1) pa_nil))) rfl)) pss_nil)
      (pss_one (ps_ret (pe_dget (hu_of hr) (pe_fld (pv 0) rfl) (pv 1) (fun _ _ => rfl)))), ?_⟩
    obtain ⟨D, t, k, rfl, ⟨dx, ra, kd, kvs, js, up⟩, hz, ht, k1, k6, q⟩ := h
    refine ⟨fun σ H1 => σ = [some (.ref D), some (.int (k : Int))] ∧ Fr D H H1 ∧ ∃ kvs js a, DeskUp C H1 D dx ra kd t kvs js ∧ valV kvs (Sum.inl (k : Int)) = some (.ref a) ∧ LT H1 a (Su184.types t k), ?_, ?_⟩
    · refine ⟨_, rfl, _, rfl, D, C, dx, _, _, rfl, up.obj, TD.cl, TD.nK, fD_known ra kd, kd, _, rfl, DGet.k (k := Sum.inl (k : Int)) up.known, _, rfl, ?_⟩
      cases e : valV kvs (Sum.inl (k : Int)) with
      | some v =>
        obtain ⟨a, rfl, hl⟩ := up.memo.val k v e
        exact iteF ⟨rfl, Fr.refl D H, kvs, js, a, up, e, hl⟩
      | none =>
        refine iteT ⟨_, rfl, D, C, dx, _, _, rfl, up.obj, TD.cl, TD.nR, fD_row ra kd, _, rfl, ra, t, k, rfl, up.row, hz, ht, k1, k6, fun H1 p s1 hl => ?_⟩
        have k1' := s1 _ _ up.known
        have o1 := s1 _ _ up.obj
        have len := up.memo.len
        refine ⟨_, rfl, D, C, dx, _, _, rfl, o1, TD.cl, TD.nK, fD_known ra kd, _, rfl, kd, _, rfl, DPut.k (k := Sum.inl (k : Int)) k1' (szlt (by omega)), rfl, (Fr.of s1).dict k1', putK kvs (Sum.inl (k : Int)) (.ref p), js ++ [k], p, ⟨?_, ?_, upd_same, ?_, ?_, ?_, ?_⟩, ?_, ?_⟩
        · rw [upd_ne (ne_of o1 k1' fun z => by cases z)]; exact o1
        · have r1 := s1 _ _ up.row
          rw [upd_ne (ne_of r1 k1' fun z => by cases z)]; exact r1
        · have hk : (Sum.inl (k : Int) : Key) ∉ kvs.map (·.1) := fun hm => by
            obtain ⟨kv, h1, h2⟩ := List.mem_map.mp hm
            have this : (kvs.any fun kv => decide (kv.1 = (Sum.inl (k : Int) : Key))) = false := (valV_any _ kvs).trans (by rw [e]; rfl)
            rw [List.any_eq_false] at this
            exact this kv h1 (decide_eq_true h2)
          rw [putK_keys, if_neg hk, up.memo.keys, List.map_append]; rfl
        · rw [List.nodup_append]
          refine ⟨up.memo.nodup, by simp, fun a ha b hb e2 => ?_⟩
          rw [List.mem_singleton] at hb
          subst hb
          subst e2
          have hk : (Sum.inl (a : Int) : Key) ∈ kvs.map (·.1) := by rw [up.memo.keys]; exact List.mem_map.mpr ⟨a, ha, rfl⟩
          obtain ⟨kv, h1, h2⟩ := List.mem_map.mp hk
          have this : (kvs.any fun kv => decide (kv.1 = (Sum.inl (a : Int) : Key))) = false := (valV_any _ kvs).trans (by rw [e]; rfl)
          rw [List.any_eq_false] at this
          exact this kv h1 (decide_eq_true h2)
        · intro j hj
          rcases List.mem_append.mp hj with hj | hj
          · exact up.memo.rng j hj
          · rw [List.mem_singleton] at hj; rw [hj]; exact ⟨k1, k6⟩
        · intro j v hv
          rw [valV_put] at hv
          split at hv
          · rename_i c
            have : j = k := by have := Sum.inl.inj c; omega
            subst this
            cases hv
            exact ⟨p, rfl, hl.fr (Fr.dict (Fr.refl D H1) k1') o1⟩
          · obtain ⟨a, e1, e2⟩ := up.memo.val j v hv
            exact ⟨a, e1, (e2.same s1).fr (Fr.dict (Fr.refl D H1) k1') o1⟩
        · rw [valV_put, if_pos rfl]
        · exact hl.fr (Fr.dict (Fr.refl D H1) k1') o1
    · rintro σ H1 ⟨rfl, f1, kvs1, js1, a, up1, e, hl⟩
      exact ⟨_, rfl, D, C, dx, _, _, rfl, up1.obj, TD.cl, TD.nK, fD_known ra kd, _, rfl, kd, _, rfl, e ▸ DGet.k (k := Sum.inl (k : Int)) up1.known, q H1 a f1 ⟨dx, ra, kd, kvs1, js1, up1⟩ hl⟩
end
end Rw

set_option maxRecDepth 100000
set_option maxHeartbeats 4000000
/-! # The walk: take, turn, double, brings -/
namespace Rw
open PySem PySem.Spec PyProof.Rows L2
/-- a whole number's name -/
def Num (mg : Str → Option Value) (x : Str) (n : Int) : Prop := ∃ t, mg x = some (.int n t)
theorem pe_num {X : Cx} {x : Str} {n : Int} {pos : Pos} (h : Num X.mg x n) (hg : Gl X x := by rfl) (hd : (x == ("__debug__" : Str)) = false := by decide) : PE X (.Name x pos) (tC (.int n)) := by
  obtain ⟨t, e⟩ := h
  exact pe_glob hg e ⟨t, rfl⟩ hd
structure Nums (mg : Str → Option Value) : Prop where
  mostSteps : Num mg "MOST_STEPS" 6
  wrong : Num mg "WRONG" (-22)
  tooMany : Num mg "TOO_MANY" (-28)
  noMore : Num mg "NO_MORE" (-33)
  nothing : Num mg "NOTHING_TAKEN" (-11)
  mostTaken : Num mg "MOST_TAKEN" 7
  mostDoubled : Num mg "MOST_DOUBLED" 3
  mostBy : Num mg "MOST_BY" 5
theorem ints_toNat {ns : List Int} (h : ∀ z ∈ ns, 0 ≤ z) : Rt.nts (ns.map Int.toNat) = ns := by
  unfold Rt.nts
  rw [List.map_map]
  conv => rhs; rw [← List.map_id ns]
  exact List.map_congr_left fun z hz => by have := h z hz; simp; omega
theorem vN_toNat {ns : List Int} (h : ∀ z ∈ ns, 0 ≤ z) : vN (ns.map Int.toNat) = vI ns := by
  unfold vN; rw [ints_toNat h]
theorem turned_isT {t : List Nat} (h : Rt.IsT t) : Rt.IsT (turnedP t) := by
  have hl : (turnedP t).length = t.length := by unfold turnedP Rt.begunAt; rw [Rt.rot_length, List.length_map]
  have hpos := h.pos
  have nd : (t.map fun n => t.length - 1 - n).Nodup := by
    have := h.nodup
    unfold List.Nodup at *
    rw [List.pairwise_map]
    exact List.Pairwise.imp_of_mem (fun {a b} ha hb hne e => hne (by have := h.lt a ha; have := h.lt b hb; omega)) this
  have h0 : 0 ∈ t.map fun n => t.length - 1 - n := List.mem_map.mpr ⟨t.length - 1, h.mem (by omega), by omega⟩
  refine ⟨by omega, ?_, Rt.nodup_rot.mpr nd, fun r hr => ?_⟩
  · obtain ⟨a, b, e⟩ := List.append_of_mem h0
    have ha : 0 ∉ a := fun z => by
      rw [e, List.nodup_append] at nd
      exact nd.2.2 0 z 0 List.mem_cons_self rfl
    unfold turnedP
    rw [e, Rt.begunAt_mid ha]; rfl
  · have := Rt.mem_rot.mp hr
    obtain ⟨n, hn, rfl⟩ := List.mem_map.mp this
    omega
theorem doubled_isT {t : List Nat} (h : Rt.IsT t) : Rt.IsT (Su184.doubled t) := by
  have hl : (Su184.doubled t).length = 2 * t.length := by unfold Su184.doubled; simp; omega
  have hpos := h.pos
  refine ⟨by omega, ?_, ?_, fun r hr => ?_⟩
  · obtain ⟨r, rfl⟩ := h.cons
    rfl
  · unfold Su184.doubled
    rw [List.nodup_append]
    have := h.nodup
    refine ⟨?_, ?_, fun a ha b hb e => ?_⟩
    · unfold List.Nodup at *
      rw [List.pairwise_map]
      exact this.imp fun {a b} hne e => hne (by omega)
    · unfold List.Nodup at *
      rw [List.pairwise_map]
      exact this.imp fun {a b} hne e => hne (by omega)
    · obtain ⟨x, _, rfl⟩ := List.mem_map.mp ha
      obtain ⟨y, _, rfl⟩ := List.mem_map.mp hb
      omega
  · unfold Su184.doubled at hr
    rcases List.mem_append.mp hr with hr | hr
    · obtain ⟨x, hx, rfl⟩ := List.mem_map.mp hr
      have := h.lt x hx
      omega
    · obtain ⟨x, hx, rfl⟩ := List.mem_map.mp hr
      have := h.lt x hx
      omega
/-- a kind, shown -/
abbrev outK (t : List Nat) : List Int := Rt.nts (t.length :: t)
section
variable {P : Program} {w : World} {K : PySem.W.Frag} {mg : Str → Option Value} {base : Heap}
/-- need, as its callers have it -/
abbrev HasNeed (P : Program) (w : World) (K : PySem.W.Frag) (mg : Str → Option Value) (base : Heap) (CR : Addr) : Prop := Has P w K mg base (L2.CX P w) 3 "need" ["truth", "number"] (spNeed CR)
/-! ## take -/
abbrev sTake : Stmt := top 43
theorem scTake : FnScope ["desk", "row"] ["desk", "row"] (defScope sTake) := ⟨rfl, rfl, rfl, by decide +kernel, rfl, by decide +kernel, by decide +kernel⟩
def spTake (C CR : Addr) : Sp := fun vs H Q E => ∃ (D l : Addr) (t : List Nat) (ns : List Int), vs = [.ref D, .ref l] ∧ H l = some (.lst (vI ns)) ∧ ns.length ≤ 20 ∧ (∀ z ∈ ns, 0 ≤ z) ∧ DeskAt C H D t ∧
  ((Su184.isType (ns.map Int.toNat) && decide ((ns.length : Int) ≤ 7)) = false → AnsE C CR D H E t (-22)) ∧ ((Su184.isType (ns.map Int.toNat) && decide ((ns.length : Int) ≤ 7)) = true → AnsQ C D H Q (ns.map Int.toNat) [(ns.length : Int)])
theorem ok_take {f C CR : Addr} {fd : FuncData} (F : Fun K "take" "take" sTake f fd) (T : Blt mg) (N : Nums mg) (hN : HasNeed P w K mg base CR) (hI : Has P w K mg base CX0 1 "is_type" ["row", "most"] (spIsType K)) (hP : Has P w K mg base CX0 1 "put" ["desk", "row"] (spPut C)) :
    FnOk P w K mg base (L2.CX P w) 4 f fd ["desk", "row"] (spTake C CR) := by
  obtain ⟨fN, fdN, gN, kN, bN, GN⟩ := hN
  obtain ⟨fI, fdI, gI, kI, bI, GI⟩ := hI
  obtain ⟨fP, fdP, gP, kP, bP, GP⟩ := hP
  refine F.okX scTake (fun vs H Q E h => ?_) (fun cdv A outer s H vs Q E hr h => ?_)
  · obtain ⟨D, l, t, ns, rfl, _⟩ := h; rfl
  · refine ⟨_, pss_cons (ps_expr (pe_call GN hr rfl gN kN bN .nil (passes_call (takes_of rfl rfl rfl rfl) (fun _ _ _ _ h => h)) (pa_cons (pe_call GI (hr.mono (by decide)) rfl gI kI bI .nil pass0 (pa_cons (pv 1) (pa_cons (pe_num N.mostTaken) pa_nil))) (pa_cons (pe_num N.wrong) pa_nil))))
      (pss_cons (ps_expr (pe_call GP (hr.mono (by decide)) rfl gP kP bP .nil pass0 (pa_cons (pv 0) (pa_cons (pe_callTy call_tuple_of (by rfl) T.tuple boot_tuple (pa_cons (pv 1) pa_nil)) pa_nil))))
      (pss_one (ps_ret (pe_lst (pa_cons (pe_callB call_len_seq (by rfl) T.len boot_len (pa_cons (pv 1) pa_nil)) pa_nil))))), ?_⟩
    obtain ⟨D, l, t, ns, rfl, hl, hz, h0, hd, q1, q2⟩ := h
    refine ⟨_, rfl, l, ns, 7, rfl, SqL.of hl, hz, h0, fun H1 s1 => ⟨_, _, rfl, fun e d hd' => ?_, fun e => ?_⟩⟩
    · exact (q1 e).need (Fr.of s1) (hd.same s1) d hd'
    · have l1 := s1 _ _ hl
      refine ⟨_, rfl, _, rfl, l, _, rfl, .inl ⟨SqL.of l1, fun r nr => ?_⟩⟩
      have s2 : Same H1 (upd H1 r (.tup (vI ns))) := Same.new nr
      refine ⟨D, r, t, ns.map Int.toNat, rfl, (hd.same s1).same s2, by rw [vN_toNat h0]; exact upd_same, fun H3 f3 d3 => ?_⟩
      have l3 := f3.lst (s2 _ _ l1) ((hd.same s1).same s2).ins
      refine ⟨_, rfl, l, _, rfl, .inl (SqL.of l3), by show 1 ≤ sizeLine; decide, fun p np => ?_⟩
      refine q2 e _ p ((((Fr.of s1).same s2).trans f3).same (Same.new np)) (d3.same (Same.new np)) ?_
      rw [upd_same, List.length_map]; rfl
/-! ## turn -/
abbrev sTurn : Stmt := top 44
theorem scTurn : FnScope ["desk"] ["desk"] (defScope sTurn) := ⟨rfl, rfl, rfl, by decide +kernel, rfl, by decide +kernel, by decide +kernel⟩
def spTurn (C : Addr) : Sp := fun vs H Q _ => ∃ (D : Addr) (t : List Nat), vs = [.ref D] ∧ DeskAt C H D t ∧ t.length ≤ 7 ∧ Rt.IsT t ∧ AnsQ C D H Q (turnedP t) (outK (turnedP t))
theorem ok_turn {f C : Addr} {fd : FuncData} (F : Fun K "turn" "turn" sTurn f fd) (TD : DeskTxt K C) (hU : Has P w K mg base CX0 2 "turned" ["row"] (spTurned K)) (hP : Has P w K mg base CX0 1 "put" ["desk", "row"] (spPut C)) (hS : Has P w K mg base CX0 1 "shown" ["row"] (spShown K)) :
    FnOk P w K mg base CX0 3 f fd ["desk"] (spTurn C) := by
  obtain ⟨fU, fdU, gU, kU, bU, GU⟩ := hU
  obtain ⟨fP, fdP, gP, kP, bP, GP⟩ := hP
  obtain ⟨fS, fdS, gS, kS, bS, GS⟩ := hS
  refine F.ok scTurn (fun vs H Q E h => ?_) (fun cdv A outer s H vs Q E hr h => ?_)
  · obtain ⟨D, t, rfl, _⟩ := h; rfl
  · refine ⟨_, pss_cons (ps_expr (pe_call GP (hr.mono (by decide)) rfl gP kP bP .nil pass0 (pa_cons (pv 0) (pa_cons (pe_call GU hr rfl gU kU bU .nil pass0 (pa_cons (pe_fld (pv 0) rfl) pa_nil)) pa_nil))))
      (pss_one (ps_ret (pe_call GS (hr.mono (by decide)) rfl gS kS bS .nil pass0 (pa_cons (pe_fld (pv 0) rfl) pa_nil)))), ?_⟩
    obtain ⟨D, t, rfl, hd, hz, ht, q⟩ := h
    have hpos := ht.pos
    have hl : (turnedP t).length = t.length := by unfold turnedP Rt.begunAt; rw [Rt.rot_length, List.length_map]
    obtain ⟨dx, ra, kd, kvs, js, up⟩ := id hd
    refine ⟨_, rfl, _, rfl, D, C, dx, _, _, rfl, up.obj, TD.cl, TD.nR, fD_row ra kd, ra, t, rfl, SqT.of up.row, by omega, ht.lt, ht.mem (by omega), fun H1 p1 s1 h1 => ?_⟩
    refine ⟨D, p1, t, turnedP t, rfl, hd.same s1, h1, fun H2 f2 d2 => ?_⟩
    obtain ⟨dx2, ra2, kd2, kvs2, js2, up2⟩ := id d2
    refine ⟨_, rfl, D, C, dx2, _, _, rfl, up2.obj, TD.cl, TD.nR, fD_row ra2 kd2, ra2, turnedP t, rfl, SqT.of up2.row, by omega, fun H3 p3 s3 h3 => ?_⟩
    exact q H3 p3 (((Fr.of s1).trans f2).same s3) (d2.same s3) h3
/-! ## double -/
abbrev sDouble : Stmt := top 45
theorem scDouble : FnScope ["desk"] ["desk"] (defScope sDouble) := ⟨rfl, rfl, rfl, by decide +kernel, rfl, by decide +kernel, by decide +kernel⟩
def spDouble (C CR : Addr) : Sp := fun vs H Q E => ∃ (D : Addr) (t : List Nat), vs = [.ref D] ∧ DeskAt C H D t ∧ t.length ≤ 7 ∧ Rt.IsT t ∧ (¬ t.length ≤ 3 → AnsE C CR D H E t (-28)) ∧ (t.length ≤ 3 → AnsQ C D H Q (Su184.doubled t) (outK (Su184.doubled t)))
theorem ok_double {f C CR : Addr} {fd : FuncData} (F : Fun K "double" "double" sDouble f fd) (T : Blt mg) (N : Nums mg) (TD : DeskTxt K C) (hN : HasNeed P w K mg base CR) (hU : Has P w K mg base CX0 1 "doubled" ["row"] (spDoubled K)) (hP : Has P w K mg base CX0 1 "put" ["desk", "row"] (spPut C)) (hS : Has P w K mg base CX0 1 "shown" ["row"] (spShown K)) :
    FnOk P w K mg base (L2.CX P w) 4 f fd ["desk"] (spDouble C CR) := by
  obtain ⟨fN, fdN, gN, kN, bN, GN⟩ := hN
  obtain ⟨fU, fdU, gU, kU, bU, GU⟩ := hU
  obtain ⟨fP, fdP, gP, kP, bP, GP⟩ := hP
  obtain ⟨fS, fdS, gS, kS, bS, GS⟩ := hS
  refine F.okX scDouble (fun vs H Q E h => ?_) (fun cdv A outer s H vs Q E hr h => ?_)
  · obtain ⟨D, t, rfl, _⟩ := h; rfl
  · refine ⟨_, pss_cons (ps_expr (pe_call GN hr rfl gN kN bN .nil (passes_call (takes_of rfl rfl rfl rfl) (fun _ _ _ _ h => h)) (pa_cons (pe_cmpR op_le (pe_callB call_len_seq (by rfl) T.len boot_len (pa_cons (pe_fld (pv 0) rfl) pa_nil)) (pe_num N.mostDoubled) (nomark _)) (pa_cons (pe_num N.tooMany) pa_nil))))
      (pss_cons (ps_expr (pe_call GP (hr.mono (by decide)) rfl gP kP bP .nil pass0 (pa_cons (pv 0) (pa_cons (pe_call GU (hr.mono (by decide)) rfl gU kU bU .nil pass0 (pa_cons (pe_fld (pv 0) rfl) pa_nil)) pa_nil))))
      (pss_one (ps_ret (pe_call GS (hr.mono (by decide)) rfl gS kS bS .nil pass0 (pa_cons (pe_fld (pv 0) rfl) pa_nil))))), ?_⟩
    obtain ⟨D, t, rfl, hd, hz, ht, q1, q2⟩ := h
    have hpos := ht.pos
    have hl : (Su184.doubled t).length = 2 * t.length := by unfold Su184.doubled; simp; omega
    obtain ⟨dx, ra, kd, kvs, js, up⟩ := id hd
    refine ⟨_, rfl, D, C, dx, _, _, rfl, up.obj, TD.cl, TD.nR, fD_row ra kd, ra, _, rfl, .inr (SqT.of up.row), _, _, rfl, rfl, _, _, rfl, fun e d hd' => ?_, fun e => ?_⟩
    · have := of_decide_eq_false e
      rw [vN_length] at this
      exact (q1 (by omega)).need (Fr.refl D H) hd d hd'
    · have := of_decide_eq_true e
      rw [vN_length] at this
      refine ⟨_, rfl, _, rfl, D, C, dx, _, _, rfl, up.obj, TD.cl, TD.nR, fD_row ra kd, ra, t, rfl, SqT.of up.row, by omega, (by intro z; rw [z] at hpos; exact Nat.lt_irrefl 0 hpos), fun H1 p1 s1 h1 => ?_⟩
      refine ⟨D, p1, t, Su184.doubled t, rfl, hd.same s1, h1, fun H2 f2 d2 => ?_⟩
      obtain ⟨dx2, ra2, kd2, kvs2, js2, up2⟩ := id d2
      refine ⟨_, rfl, D, C, dx2, _, _, rfl, up2.obj, TD.cl, TD.nR, fD_row ra2 kd2, ra2, Su184.doubled t, rfl, SqT.of up2.row, by omega, fun H3 p3 s3 h3 => ?_⟩
      exact q2 (by omega) H3 p3 (((Fr.of s1).trans f2).same s3) (d2.same s3) h3
/-! ## brings -/
abbrev sBrings : Stmt := top 47
theorem scBrings : FnScope ["desk", "row"] ["desk", "row"] (defScope sBrings) := ⟨rfl, rfl, rfl, by decide +kernel, rfl, by decide +kernel, by decide +kernel⟩
def spBrings (C CR : Addr) : Sp := fun vs H Q E => ∃ (D l : Addr) (t : List Nat) (ns : List Int), vs = [.ref D, .ref l] ∧ H l = some (.lst (vI ns)) ∧ ns.length ≤ 20 ∧ (∀ z ∈ ns, 0 ≤ z) ∧ DeskAt C H D t ∧ t.length ≤ 7 ∧ Rt.IsT t ∧
  ((Su184.isType (ns.map Int.toNat) && decide ((ns.length : Int) ≤ 6)) = false → AnsE C CR D H E t (-22)) ∧
  ((Su184.isType (ns.map Int.toNat) && decide ((ns.length : Int) ≤ 6)) = true → AnsQ C D H Q t [if Su184.brings t (ns.map Int.toNat) then 1 else 0])
theorem ok_brings {f C CR : Addr} {fd : FuncData} (F : Fun K "brings" "brings" sBrings f fd) (T : Blt mg) (N : Nums mg) (hN : HasNeed P w K mg base CR) (hI : Has P w K mg base CX0 1 "is_type" ["row", "most"] (spIsType K)) (hB : Has P w K mg base CX0 5 "brought" ["desk", "steps"] (spBrought C)) :
    FnOk P w K mg base (L2.CX P w) 6 f fd ["desk", "row"] (spBrings C CR) := by
  obtain ⟨fN, fdN, gN, kN, bN, GN⟩ := hN
  obtain ⟨fI, fdI, gI, kI, bI, GI⟩ := hI
  obtain ⟨fB, fdB, gB, kB, bB, GB⟩ := hB
  refine F.okX scBrings (fun vs H Q E h => ?_) (fun cdv A outer s H vs Q E hr h => ?_)
  · obtain ⟨D, l, t, ns, rfl, _⟩ := h; rfl
  · have hu : (A.deeper (envOfC "brings" (defScope sBrings) s.heap.objs.size f cdv)).units + 65 < cLine := by have := hr.un; omega
    refine ⟨_, pss_cons (ps_expr (pe_call GN (hr.mono (by decide)) rfl gN kN bN .nil (passes_call (takes_of rfl rfl rfl rfl) (fun _ _ _ _ h => h)) (pa_cons (pe_call GI (hr.mono (by decide)) rfl gI kI bI .nil pass0 (pa_cons (pv 1) (pa_cons (pe_num N.mostSteps) pa_nil))) (pa_cons (pe_num N.wrong) pa_nil))))
      (pss_one (ps_ret (pe_lst (pa_cons (pe_callTy call_int1 (by rfl) T.int boot_int (pa_cons (pe_cmpR (op_inD hu) (pe_callTy call_tuple_of (by rfl) T.tuple boot_tuple (pa_cons (pv 1) pa_nil)) (pe_call GB hr rfl gB kB bB .nil pass0 (pa_cons (pv 0) (pa_cons (pe_callB call_len_seq (by rfl) T.len boot_len (pa_cons (pv 1) pa_nil)) pa_nil))) (by rfl)) pa_nil)) pa_nil)))), ?_⟩
    obtain ⟨D, l, t, ns, rfl, hl, hz, h0, hd, htz, ht, q1, q2⟩ := h
    refine ⟨_, rfl, l, ns, 6, rfl, SqL.of hl, hz, h0, fun H1 s1 => ⟨_, _, rfl, fun e d hd' => ?_, fun e => ?_⟩⟩
    · exact (q1 e).need (Fr.of s1) (hd.same s1) d hd'
    · have l1 := s1 _ _ hl
      have e' := e
      rw [Bool.and_eq_true, decide_eq_true_iff] at e'
      have hpos := (Rt.isT_iff.mp e'.1).pos
      rw [List.length_map] at hpos
      refine ⟨_, rfl, l, _, rfl, .inl ⟨SqL.of l1, fun r nr => ?_⟩⟩
      have s2 : Same H1 (upd H1 r (.tup (vI ns))) := Same.new nr
      have d2 := (hd.same s1).same s2
      refine ⟨_, rfl, _, rfl, l, _, rfl, .inl (SqL.of (s2 _ _ l1)), D, t, ns.length, by rw [List.length_map]; rfl, d2, htz, ht, hpos, by omega, fun H3 a f3 d3 ⟨L, eL, hL, tL⟩ => ?_⟩
      have r3 := f3.tup (show (upd H1 r (.tup (vI ns))) r = some (.tup (vI ns)) from upd_same) d2.ins
      refine ⟨.tuple (dI (Rt.nts (ns.map Int.toNat))), tD (kinds L), .tup (SqT.of r3) (by rw [ints_toNat h0]; exact dpInts _), .lst (SqL.of hL) (dpTups tL), shapedT _, shapedTs _, .inr ⟨_, rfl, ?_⟩⟩
      rw [any_tups, eL]
      refine ⟨by show 1 ≤ sizeLine; decide, fun p np => q2 e _ p ((((Fr.of s1).same s2).trans f3).same (Same.new np)) (d3.same (Same.new np)) ?_⟩
      rw [upd_same]
      have : Su184.brings t (ns.map Int.toNat) = (Su184.types t ns.length).contains (ns.map Int.toNat) := by
        unfold Su184.brings; rw [List.length_map]
      rw [this]; rfl
end
end Rw

set_option maxRecDepth 100000
set_option maxHeartbeats 4000000
/-! # The walk: types, nth, steps, alone -/
namespace Rw
open PySem PySem.Spec PyProof.Rows L2
/-- of how many steps some, the first i -/
def sumUp (t : List Nat) (i : Nat) : Nat := ((List.range i).map fun i => if (Su184.types t (i + 1)).isEmpty = true then 0 else 2 ^ i).sum
theorem sumUp_succ (t : List Nat) (i : Nat) : sumUp t (i + 1) = sumUp t i + (if (Su184.types t (i + 1)).isEmpty = true then 0 else 2 ^ i) := by
  unfold sumUp
  rw [List.range_succ, List.map_append, List.sum_append]
  simp
section
variable {P : Program} {w : World} {K : PySem.W.Frag} {mg : Str → Option Value} {base : Heap}
/-! ## need_steps -/
abbrev sNeedS : Stmt := top 48
theorem scNeedS : FnScope ["j"] ["j"] (defScope sNeedS) := ⟨rfl, rfl, rfl, by decide +kernel, rfl, by decide +kernel, by decide +kernel⟩
def spNeedS (CR : Addr) : Sp := fun vs H Q E => ∃ (j : Int), vs = [.int j] ∧ (¬ (1 ≤ j ∧ j ≤ 6) → ∀ d, H d = none → E (.ref CR) (some d) (upd H d (errD (-22)))) ∧ (1 ≤ j ∧ j ≤ 6 → Q .non H)
theorem ok_needS {f CR : Addr} {fd : FuncData} (F : Fun K "need_steps" "need_steps" sNeedS f fd) (N : Nums mg) (hN : HasNeed P w K mg base CR) : FnOk P w K mg base (L2.CX P w) 4 f fd ["j"] (spNeedS CR) := by
  obtain ⟨fN, fdN, gN, kN, bN, GN⟩ := hN
  refine F.okX scNeedS (fun vs H Q E h => ?_) (fun cdv A outer s H vs Q E hr h => ?_)
  · obtain ⟨j, rfl, _⟩ := h; rfl
  · refine ⟨_, pss_one (ps_expr (pe_call GN hr rfl gN kN bN .nil (passes_call (takes_of rfl rfl rfl rfl) (fun _ _ _ _ h => h)) (pa_cons (pe_chain op_le op_le pe_int (pv 0) (pe_num N.mostSteps)) (pa_cons (pe_num N.wrong) pa_nil)))), ?_⟩
    obtain ⟨j, rfl, q1, q2⟩ := h
    refine ⟨_, rfl, _, _, rfl, rfl, _, rfl, ?_⟩
    by_cases c1 : (1 : Int) ≤ j
    · rw [decide_eq_true c1]
      refine iteT ⟨_, _, rfl, rfl, _, _, rfl, fun e => q1 fun z => ?_, fun e => q2 ⟨c1, of_decide_eq_true e⟩⟩
      exact absurd z.2 (of_decide_eq_false e)
    · rw [decide_eq_false c1]
      exact iteF ⟨_, _, rfl, fun e => q1 fun z => c1 z.1, fun e => nomatch e⟩
abbrev HasNeedS (P : Program) (w : World) (K : PySem.W.Frag) (mg : Str → Option Value) (base : Heap) (CR : Addr) : Prop := Has P w K mg base (L2.CX P w) 4 "need_steps" ["j"] (spNeedS CR)
/-! ## types -/
abbrev sTypes : Stmt := top 49
theorem scTypes : FnScope ["desk", "j"] ["desk", "j"] (defScope sTypes) := ⟨rfl, rfl, rfl, by decide +kernel, rfl, by decide +kernel, by decide +kernel⟩
def spTypes (C CR : Addr) : Sp := fun vs H Q E => ∃ (D : Addr) (t : List Nat) (j : Int), vs = [.ref D, .int j] ∧ DeskAt C H D t ∧ t.length ≤ 7 ∧ Rt.IsT t ∧
  (¬ (1 ≤ j ∧ j ≤ 6) → AnsE C CR D H E t (-22)) ∧ (1 ≤ j ∧ j ≤ 6 → AnsQ C D H Q t [((Su184.types t j.toNat).length : Int)])
theorem ok_types {f C CR : Addr} {fd : FuncData} (F : Fun K "types" "types" sTypes f fd) (T : Blt mg) (hN : HasNeedS P w K mg base CR) (hB : Has P w K mg base CX0 5 "brought" ["desk", "steps"] (spBrought C)) : FnOk P w K mg base (L2.CX P w) 6 f fd ["desk", "j"] (spTypes C CR) := by
  obtain ⟨fN, fdN, gN, kN, bN, GN⟩ := hN
  obtain ⟨fB, fdB, gB, kB, bB, GB⟩ := hB
  refine F.okX scTypes (fun vs H Q E h => ?_) (fun cdv A outer s H vs Q E hr h => ?_)
  · obtain ⟨D, t, j, rfl, _⟩ := h; rfl
  · refine ⟨_, pss_cons (ps_expr (pe_call GN (hr.mono (by decide)) rfl gN kN bN .nil (passes_call (takes_of rfl rfl rfl rfl) (fun _ _ _ _ h => h)) (pa_cons (pv 1) pa_nil)))
      (pss_one (ps_ret (pe_lst (pa_cons (pe_callB call_len_seq (by rfl) T.len boot_len (pa_cons (pe_call GB hr rfl gB kB bB .nil pass0 (pa_cons (pv 0) (pa_cons (pv 1) pa_nil))) pa_nil)) pa_nil)))), ?_⟩
    obtain ⟨D, t, j, rfl, hd, hz, ht, q1, q2⟩ := h
    refine ⟨_, rfl, j, rfl, fun n d hd' => (q1 n).need (Fr.refl D H) hd d hd', fun ok => ?_⟩
    refine ⟨_, rfl, _, rfl, D, t, j.toNat, by rw [show ((j.toNat : Nat) : Int) = j by omega]; rfl, hd, hz, ht, by omega, by omega, fun H1 a f1 d1 ⟨L, eL, hL, tL⟩ => ?_⟩
    refine ⟨a, _, rfl, .inl (SqL.of hL), by show 1 ≤ sizeLine; decide, fun p np => q2 ok _ p (f1.same (Same.new np)) (d1.same (Same.new np)) ?_⟩
    rw [upd_same, refs_len eL]; rfl
/-! ## nth -/
abbrev sNth : Stmt := top 50
theorem scNth : FnScope ["desk", "j", "i"] ["desk", "j", "i"] (defScope sNth) := ⟨rfl, rfl, rfl, by decide +kernel, rfl, by decide +kernel, by decide +kernel⟩
def spNth (C CR : Addr) : Sp := fun vs H Q E => ∃ (D : Addr) (t : List Nat) (j : Int) (i : Nat), vs = [.ref D, .int j, .int (i : Int)] ∧ DeskAt C H D t ∧ t.length ≤ 7 ∧ Rt.IsT t ∧
  (¬ (1 ≤ j ∧ j ≤ 6) → AnsE C CR D H E t (-22)) ∧ (1 ≤ j ∧ j ≤ 6 → (Su184.types t j.toNat)[i]? = none → AnsE C CR D H E t (-33)) ∧
  (1 ≤ j ∧ j ≤ 6 → ∀ u, (Su184.types t j.toNat)[i]? = some u → AnsQ C D H Q t (outK u))
theorem types_len {t u : List Nat} (ht : Rt.IsT t) {k : Nat} (k1 : 1 ≤ k) (h : u ∈ Su184.types t k) : u.length = k := by
  obtain ⟨k', rfl⟩ : ∃ k', k = k' + 1 := ⟨k - 1, by omega⟩
  rcases (Rt.types_mem ht).mp h with ⟨rfl, e⟩ | ⟨w, hw, _, rfl⟩
  · exact e
  · obtain ⟨first, rr, rfl, _, hl, _, _⟩ := (Rt.ways_mem (Rt.covers_lt ht)).mp hw
    rw [typeOf_len]
    unfold Rt.roundOf
    rw [Rt.places_length]
    simp; omega
theorem ok_nth {f C CR : Addr} {fd : FuncData} (F : Fun K "nth" "nth" sNth f fd) (T : Blt mg) (N : Nums mg) (hN : HasNeed P w K mg base CR) (hNS : HasNeedS P w K mg base CR) (hB : Has P w K mg base CX0 5 "brought" ["desk", "steps"] (spBrought C)) (hS : Has P w K mg base CX0 1 "shown" ["row"] (spShown K)) :
    FnOk P w K mg base (L2.CX P w) 6 f fd ["desk", "j", "i"] (spNth C CR) := by
  obtain ⟨fN, fdN, gN, kN, bN, GN⟩ := hN
  obtain ⟨fM, fdM, gM, kM, bM, GM⟩ := hNS
  obtain ⟨fB, fdB, gB, kB, bB, GB⟩ := hB
  obtain ⟨fS, fdS, gS, kS, bS, GS⟩ := hS
  refine F.okX scNth (fun vs H Q E h => ?_) (fun cdv A outer s H vs Q E hr h => ?_)
  · obtain ⟨D, t, j, i, rfl, _⟩ := h; rfl
  · refine ⟨_, pss_cons (ps_expr (pe_call GM (hr.mono (by decide)) rfl gM kM bM .nil (passes_call (takes_of rfl rfl rfl rfl) (fun _ _ _ _ h => h)) (pa_cons (pv 1) pa_nil)))
      (pss_cons (ps_expr (pe_call GN (hr.mono (by decide)) rfl gN kN bN .nil (passes_call (takes_of rfl rfl rfl rfl) (fun _ _ _ _ h => h)) (pa_cons (pe_cmpR op_lt (pv 2) (pe_callB call_len_seq (by rfl) T.len boot_len (pa_cons (pe_call GB hr rfl gB kB bB .nil pass0 (pa_cons (pv 0) (pa_cons (pv 1) pa_nil))) pa_nil)) (nomark _)) (pa_cons (pe_num N.noMore) pa_nil))))
      (pss_one (ps_ret (pe_call GS (hr.mono (by decide)) rfl gS kS bS .nil pass0 (pa_cons (pe_ix ix_list (pe_call GB hr rfl gB kB bB .nil pass0 (pa_cons (pv 0) (pa_cons (pv 1) pa_nil))) (pv 2) (fun _ _ => rfl)) pa_nil))))), ?_⟩
    obtain ⟨D, t, j, i, rfl, hd, hz, ht, q1, q2, q3⟩ := h
    refine ⟨_, rfl, j, rfl, fun n d hd' => (q1 n).need (Fr.refl D H) hd d hd', fun ok => ?_⟩
    have ej : ((j.toNat : Nat) : Int) = j := by omega
    refine ⟨_, rfl, _, rfl, _, rfl, D, t, j.toNat, by rw [ej]; rfl, hd, hz, ht, by omega, by omega, fun H1 a f1 d1 ⟨L, eL, hL, tL⟩ => ?_⟩
    refine ⟨a, _, rfl, .inl (SqL.of hL), _, _, rfl, rfl, _, _, rfl, fun e d hd' => ?_, fun e => ?_⟩
    · have := of_decide_eq_false e
      rw [refs_len eL] at this
      exact (q2 ok (List.getElem?_eq_none (by omega))).need f1 d1 d hd'
    · have := of_decide_eq_true e
      rw [refs_len eL] at this
      refine ⟨_, rfl, _, rfl, D, t, j.toNat, by rw [ej]; rfl, d1, hz, ht, by omega, by omega, fun H2 b f2 d2 ⟨L2', eL2, hL2, tL2⟩ => ?_⟩
      have hi : i < L2'.length := by
        have := congrArg List.length eL2
        rw [List.length_map] at this
        omega
      have hu : (Su184.types t j.toNat)[i]? = some L2'[i].2 := by rw [← eL2, List.getElem?_map, List.getElem?_eq_getElem hi]; rfl
      refine ⟨_, rfl, b, _, _, .ref L2'[i].1, rfl, rfl, SqL.of hL2, atI_nat (by rw [List.getElem?_map, List.getElem?_eq_getElem hi]; rfl), L2'[i].1, L2'[i].2, rfl, SqT.of (tL2 _ (List.getElem_mem hi)), ?_, fun H3 p s3 h3 => ?_⟩
      · have := types_len ht (by omega) (List.mem_of_getElem? hu)
        omega
      · exact q3 ok _ hu H3 p ((f1.trans f2).same s3) (d2.same s3) h3
/-! ## steps -/
abbrev sSteps : Stmt := top 51
theorem scSteps : FnScope ["desk", "found", "worth", "j"] ["desk"] (defScope sSteps) := ⟨rfl, rfl, rfl, by decide +kernel, rfl, by decide +kernel, by decide +kernel⟩
def spSteps (C : Addr) : Sp := fun vs H Q _ => ∃ (D : Addr) (t : List Nat), vs = [.ref D] ∧ DeskAt C H D t ∧ t.length ≤ 7 ∧ Rt.IsT t ∧ AnsQ C D H Q t [((sumUp t 6 : Nat) : Int)]
theorem ok_steps {f C : Addr} {fd : FuncData} (F : Fun K "steps" "steps" sSteps f fd) (T : Blt mg) (N : Nums mg) (hB : Has P w K mg base CX0 5 "brought" ["desk", "steps"] (spBrought C)) : FnOk P w K mg base CX0 6 f fd ["desk"] (spSteps C) := by
  obtain ⟨fB, fdB, gB, kB, bB, GB⟩ := hB
  refine F.ok scSteps (fun vs H Q E h => ?_) (fun cdv A outer s H vs Q E hr h => ?_)
  · obtain ⟨D, t, rfl, _⟩ := h; rfl
  · refine ⟨_, pss_cons (ps_set (i := 1) scSteps.nd rfl (Or.inl rfl) pe_int)
      (pss_cons (ps_set (i := 2) scSteps.nd rfl (Or.inl rfl) pe_int)
      (pss_cons (ps_for PassesOwn.never rfl (pi_range2 (by rfl) T.range (pa_cons pe_int (pa_cons (pe_op op_add (pe_num N.mostSteps) pe_int) pa_nil))) (pg_name (i := 3) scSteps.nd rfl (Or.inl rfl))
        (pss_mid (ps_if (pt_cmpR (op_neD hr.units) (pe_call GB hr rfl gB kB bB .nil pass0 (pa_cons (pv 0) (pa_cons (pv 3) pa_nil))) (pe_lst pa_nil) (nomark _)) (pss_one (ps_aug (i := 1) scSteps.nd rfl (Or.inl rfl) (pv 2) ip_add)) pss_nil)
        (pss_one (ps_set (i := 2) scSteps.nd rfl (Or.inl rfl) (pe_op op_mul pe_int (pv 2))))))
      (pss_one (ps_ret (pe_lst (pa_cons (pv 1) pa_nil)))))), ?_⟩
    obtain ⟨D, t, rfl, hd, hz, ht, q⟩ := h
    refine ⟨_, _, rfl, rfl, 1, 6 + 1, rfl, ⟨by decide, by decide, by decide, by decide⟩, for_range (lo := 1) (n := ((6 : Int) + 1 - 1).toNat) (fun i σ H' => (∃ v3, σ = [some (.ref D), some (.int ((sumUp t i : Nat) : Int)), some (.int ((2 ^ i : Nat) : Int)), v3]) ∧ Fr D H H' ∧ DeskAt C H' D t) ?_ ?_ ?_⟩
    · exact ⟨⟨none, rfl⟩, Fr.refl D H, hd⟩
    · rintro i σ H1 hi ⟨⟨v3, rfl⟩, f1, d1⟩
      have hi6 : i < 6 := hi
      have e1 : (1 : Int) + (i : Int) = ((i + 1 : Nat) : Int) := by omega
      have hp : 2 ^ i ≤ 2 ^ 6 := Nat.pow_le_pow_right (by decide) (by omega)
      have hp6 : 2 ^ 6 = 64 := by decide
      refine ⟨fun σ H2 => σ = [some (.ref D), some (.int ((sumUp t (i + 1) : Nat) : Int)), some (.int ((2 ^ i : Nat) : Int)), some (.int (1 + (i : Int)))] ∧ Fr D H H2 ∧ DeskAt C H2 D t, ?_, ?_⟩
      · refine ⟨_, rfl, _, rfl, D, t, i + 1, by rw [e1]; rfl, d1, hz, ht, by omega, by omega, fun H2 a f2 d2 ⟨L, eL, hL, tL⟩ => ?_⟩
        refine ⟨by show 0 ≤ sizeLine; decide, fun e0 n0 => ⟨.list (tD (kinds L)), .list (tD []), .lst (SqL.of ((Same.new n0) _ _ hL)) (dpTups (tL.same (Same.new n0))), .lst (xs := []) (SqL.of upd_same) .nil, shapedTs _, shapedTs _, _, rfl, ?_⟩⟩
        rw [eqvTs, eL]
        by_cases c : Su184.types t (i + 1) = []
        · rw [decide_eq_true c]
          refine iteF ⟨?_, (f1.trans f2).same (Same.new n0), d2.same (Same.new n0)⟩
          rw [sumUp_succ, c]; rfl
        · rw [decide_eq_false c]
          refine iteT ⟨_, rfl, _, rfl, _, _, rfl, rfl, ?_, (f1.trans f2).same (Same.new n0), d2.same (Same.new n0)⟩
          have hne : ¬ (Su184.types t (i + 1)).isEmpty = true := by rw [List.isEmpty_iff]; exact c
          rw [sumUp_succ, if_neg hne]
          push_cast
          rfl
      · rintro σ H2 ⟨rfl, f2, d2⟩
        refine ⟨_, rfl, _, _, rfl, rfl, .inl ⟨by decide, by decide⟩, ⟨some (.int (1 + (i : Int))), ?_⟩, f2, d2⟩
        have : (2 : Int) * ((2 ^ i : Nat) : Int) = ((2 ^ (i + 1) : Nat) : Int) := by rw [Nat.pow_succ]; omega
        show [_, _, some (V.int ((2 : Int) * ((2 ^ i : Nat) : Int))), _] = _
        rw [this]
    · rintro σ H1 ⟨⟨v3, rfl⟩, f1, d1⟩
      refine ⟨_, rfl, by show 1 ≤ sizeLine; decide, fun p np => q _ p (f1.same (Same.new np)) (d1.same (Same.new np)) ?_⟩
      rw [upd_same]; rfl
/-! ## alone -/
abbrev sAloneC : Stmt := top 52
theorem scAloneC : FnScope ["desk", "some"] ["desk"] (defScope sAloneC) := ⟨rfl, rfl, rfl, by decide +kernel, rfl, by decide +kernel, by decide +kernel⟩
def spAloneC (C CR : Addr) : Sp := fun vs H Q E => ∃ (D : Addr) (t : List Nat), vs = [.ref D] ∧ DeskAt C H D t ∧ t.length ≤ 7 ∧ Rt.IsT t ∧ (¬ t.length ≤ 6 → AnsE C CR D H E t (-28)) ∧
  (t.length ≤ 6 → AnsQ C D H Q t [if Su184.types t t.length = [t] then 1 else 0, ((Su184.types t t.length).length : Int)])
theorem ok_aloneC {f C CR : Addr} {fd : FuncData} (F : Fun K "alone" "alone" sAloneC f fd) (T : Blt mg) (N : Nums mg) (TD : DeskTxt K C) (hN : HasNeed P w K mg base CR) (hB : Has P w K mg base CX0 5 "brought" ["desk", "steps"] (spBrought C)) : FnOk P w K mg base (L2.CX P w) 6 f fd ["desk"] (spAloneC C CR) := by
  obtain ⟨fN, fdN, gN, kN, bN, GN⟩ := hN
  obtain ⟨fB, fdB, gB, kB, bB, GB⟩ := hB
  refine F.okX scAloneC (fun vs H Q E h => ?_) (fun cdv A outer s H vs Q E hr h => ?_)
  · obtain ⟨D, t, rfl, _⟩ := h; rfl
  · refine ⟨_, pss_cons (ps_expr (pe_call GN (hr.mono (by decide)) rfl gN kN bN .nil (passes_call (takes_of rfl rfl rfl rfl) (fun _ _ _ _ h => h)) (pa_cons (pe_cmpR op_le (pe_callB call_len_seq (by rfl) T.len boot_len (pa_cons (pe_fld (pv 0) rfl) pa_nil)) (pe_num N.mostSteps) (nomark _)) (pa_cons (pe_num N.tooMany) pa_nil))))
      (pss_cons (ps_set (i := 1) scAloneC.nd rfl (Or.inl rfl) (pe_call GB hr rfl gB kB bB .nil pass0 (pa_cons (pv 0) (pa_cons (pe_callB call_len_seq (by rfl) T.len boot_len (pa_cons (pe_fld (pv 0) rfl) pa_nil)) pa_nil))))
      (pss_one (ps_ret (pe_lst (pa_cons (pe_callTy call_int1 (by rfl) T.int boot_int (pa_cons (pe_cmpR (op_eqD hr.units) (pv 1) (pe_lst (pa_cons (pe_fld (pv 0) rfl) pa_nil)) (nomark _)) pa_nil)) (pa_cons (pe_callB call_len_seq (by rfl) T.len boot_len (pa_cons (pv 1) pa_nil)) pa_nil)))))), ?_⟩
    obtain ⟨D, t, rfl, hd, hz, ht, q1, q2⟩ := h
    have hpos := ht.pos
    obtain ⟨dx, ra, kd, kvs, js, up⟩ := id hd
    refine ⟨_, rfl, D, C, dx, _, _, rfl, up.obj, TD.cl, TD.nR, fD_row ra kd, ra, _, rfl, .inr (SqT.of up.row), _, _, rfl, rfl, _, _, rfl, fun e d hd' => ?_, fun e => ?_⟩
    · have := of_decide_eq_false e
      rw [vN_length] at this
      exact (q1 (by omega)).need (Fr.refl D H) hd d hd'
    · have := of_decide_eq_true e
      rw [vN_length] at this
      refine ⟨_, rfl, _, rfl, D, C, dx, _, _, rfl, up.obj, TD.cl, TD.nR, fD_row ra kd, ra, _, rfl, .inr (SqT.of up.row), D, t, t.length, by rw [vN_length]; rfl, hd, hz, ht, by omega, by omega, fun H1 a f1 d1 ⟨L, eL, hL, tL⟩ => ?_⟩
      obtain ⟨dx2, ra2, kd2, kvs2, js2, up2⟩ := id d1
      refine ⟨_, rfl, _, rfl, D, C, dx2, _, _, rfl, up2.obj, TD.cl, TD.nR, fD_row ra2 kd2, by show 1 ≤ sizeLine; decide, fun l nl => ?_⟩
      have s2 : Same H1 (upd H1 l (.lst [.ref ra2])) := Same.new nl
      refine ⟨.list (tD (kinds L)), .list (tD [t]), .lst (SqL.of (s2 _ _ hL)) (dpTups (tL.same s2)), .lst (xs := refs [(ra2, t)]) (SqL.of upd_same) (dpTups (L := [(ra2, t)]) fun p hp => ?_), shapedTs _, shapedTs _, .inr ⟨_, rfl, ?_⟩⟩
      · rw [List.mem_singleton] at hp
        subst hp
        exact s2 _ _ up2.row
      · rw [eqvTs, eL]
        refine ⟨_, rfl, a, _, rfl, .inl (SqL.of (s2 _ _ hL)), by show 2 ≤ sizeLine; decide, fun p np => q2 (by omega) _ p (((f1.same s2).same (Same.new np))) ((d1.same s2).same (Same.new np)) ?_⟩
        rw [upd_same, refs_len eL]
        by_cases c : Su184.types t t.length = [t]
        · rw [decide_eq_true c, if_pos c]; rfl
        · rw [decide_eq_false c, if_neg c]; rfl
end
end Rw

set_option maxRecDepth 100000
set_option maxHeartbeats 4000000
/-! # The walk: by, first -/
namespace Rw
open PySem PySem.Spec PyProof.Rows L2
theorem all_isT {k : Nat} (k1 : 1 ≤ k) (k5 : k ≤ 5) : ∀ u ∈ Su184.all k, Rt.IsT u ∧ u.length = k := by
  have : ∀ k, k < 6 → 1 ≤ k → ∀ u ∈ Su184.all k, Su184.isType u = true ∧ u.length = k := by decide +kernel
  exact fun u hu => let ⟨a, b⟩ := this k (by omega) k1 u hu; ⟨Rt.isT_iff.mp a, b⟩
theorem all_len {k : Nat} (k1 : 1 ≤ k) (k5 : k ≤ 5) : (Su184.all k).length ≤ 24 := by
  have : ∀ k, k < 6 → 1 ≤ k → (Su184.all k).length ≤ 24 := by decide +kernel
  exact this k (by omega) k1
/-- those that bring it -/
abbrev byP (k : Nat) (t : List Nat) : List (List Nat) := (Su184.all k).filter fun u => Su184.brings u t
section
variable {P : Program} {w : World} {K : PySem.W.Frag} {mg : Str → Option Value} {base : Heap}
abbrev sBy : Stmt := top 53
abbrev nBy : List Str := ["desk", "k", "row", "some", "found"]
theorem scBy : FnScope nBy ["desk", "k"] (defScope sBy) := ⟨rfl, rfl, rfl, by decide +kernel, rfl, by decide +kernel, by decide +kernel⟩
def spBy (C CR : Addr) : Sp := fun vs H Q E => ∃ (D : Addr) (t : List Nat) (k : Int), vs = [.ref D, .int k] ∧ DeskAt C H D t ∧ t.length ≤ 7 ∧ Rt.IsT t ∧
  (¬ (1 ≤ k ∧ k ≤ 5) → AnsE C CR D H E t (-22)) ∧ (1 ≤ k ∧ k ≤ 5 → ¬ t.length ≤ 5 → AnsE C CR D H E t (-28)) ∧
  (1 ≤ k ∧ k ≤ 5 → t.length ≤ 5 → AnsQ C D H Q t (Rt.nts ((byP k.toNat t).length :: (byP k.toNat t).headD [])))
theorem ok_by {f C CR : Addr} {fd : FuncData} (F : Fun K "by" "by" sBy f fd) (T : Blt mg) (N : Nums mg) (TD : DeskTxt K C) (hN : HasNeed P w K mg base CR) (hA : Has P w K mg base CX0 1 "all_types" ["steps"] spAll) (hD : Has P w K mg base CX0 5 "does_bring" ["row", "other"] spDoes) :
    FnOk P w K mg base (L2.CX P w) 6 f fd ["desk", "k"] (spBy C CR) := by
  obtain ⟨fN, fdN, gN, kN, bN, GN⟩ := hN
  obtain ⟨fA, fdA, gA, kA, bA, GA⟩ := hA
  obtain ⟨fD', fdD, gD, kD, bD, GD⟩ := hD
  refine F.okX scBy (fun vs H Q E h => ?_) (fun cdv A outer s H vs Q E hr h => ?_)
  · obtain ⟨D, t, k, rfl, _⟩ := h; rfl
  · refine ⟨_, pss_cons (ps_expr (pe_call GN (hr.mono (by decide)) rfl gN kN bN .nil (passes_call (takes_of rfl rfl rfl rfl) (fun _ _ _ _ h => h)) (pa_cons (pe_chain op_le op_le pe_int (pv 1) (pe_num N.mostBy)) (pa_cons (pe_num N.wrong) pa_nil))))
      (pss_cons (ps_expr (pe_call GN (hr.mono (by decide)) rfl gN kN bN .nil (passes_call (takes_of rfl rfl rfl rfl) (fun _ _ _ _ h => h)) (pa_cons (pe_cmpR op_le (pe_callB call_len_seq (by rfl) T.len boot_len (pa_cons (pe_fld (pv 0) rfl) pa_nil)) (pe_num N.mostBy) (nomark _)) (pa_cons (pe_num N.tooMany) pa_nil))))
      (pss_cons (ps_setLc (i := 3) (own := [("row", 2)]) (g := gName 2) (tt := tTest (tCall spDoes [] E0 (tCons (tVar 2) (tCons (tFld K (tVar 0) "row") tNil)))) (te := tVar 2) rfl scBy.nd rfl rfl (sw_true rfl rfl rfl (by decide +kernel))
          (pi_list (pe_call GA (hr.mono (by decide)) rfl gA kA bA .nil pass0 (pa_cons (pv 1) pa_nil))) (blkOk_by (N := nBy) (sc := defScope sBy) (by decide +kernel)) (fun _ _ _ _ _ => pg_name (i := 2) scBy.nd rfl (Or.inl rfl))
          (fun _ _ _ _ _ => pts_one (pt_val (pe_call GD hr rfl gD kD bD .nil pass0 (pa_cons (pv 2) (pa_cons (pe_fld (pv 0) rfl) pa_nil)))))
          (fun _ _ _ _ _ => pv 2))
      (pss_cons (ps_set (i := 4) scBy.nd rfl (Or.inl rfl) (pe_lst (pa_cons (pe_callB call_len_seq (by rfl) T.len boot_len (pa_cons (pv 3) pa_nil)) pa_nil)))
      (pss_cons (ps_for (passes_of rfl) rfl (pi_list (pe_slice sl_list (pv 3) po_none (po_some pe_int))) (pg_name (i := 2) scBy.nd rfl (Or.inl rfl))
        (pss_one (ps_expr (pe_bm PySem.F.plainAttrs_list PySem.F.slot_list_extend PySem.F.type_list_extend mt_extend (pv 4) (pa_cons (pe_callTy call_list_of (by rfl) T.list boot_list (pa_cons (pv 2) pa_nil)) pa_nil)))))
      (pss_one (ps_ret (pv 4))))))), ?_⟩
    obtain ⟨D, t, k, rfl, hd, hz, ht, q1, q2, q3⟩ := h
    have hpos := ht.pos
    obtain ⟨dx, ra, kd, kvs, js, up⟩ := id hd
    -- need(1 <= k <= MOST_BY, WRONG)
    refine ⟨_, rfl, _, _, rfl, rfl, _, rfl, ?_⟩
    by_cases c1 : (1 : Int) ≤ k
    case neg =>
      rw [decide_eq_false c1]
      exact iteF ⟨_, _, rfl, fun e => (q1 fun z => c1 z.1).need (Fr.refl D H) hd, fun e => nomatch e⟩
    rw [decide_eq_true c1]
    refine iteT ⟨_, _, rfl, rfl, _, _, rfl, fun e => (q1 fun z => absurd z.2 (of_decide_eq_false e)).need (Fr.refl D H) hd, fun e => ?_⟩
    have ok : 1 ≤ k ∧ k ≤ 5 := ⟨c1, of_decide_eq_true e⟩
    -- need(len(desk.row) <= MOST_BY, TOO_MANY)
    refine ⟨_, rfl, D, C, dx, _, _, rfl, up.obj, TD.cl, TD.nR, fD_row ra kd, ra, _, rfl, .inr (SqT.of up.row), _, _, rfl, rfl, _, _, rfl, fun e d hd' => ?_, fun e => ?_⟩
    · have := of_decide_eq_false e
      rw [vN_length] at this
      exact (q2 ok (by omega)).need (Fr.refl D H) hd d hd'
    have t5 : t.length ≤ 5 := by
      have := of_decide_eq_true e
      rw [vN_length] at this
      omega
    have ek : ((k.toNat : Nat) : Int) = k := by omega
    have q := q3 ok t5
    have all1 := all_isT (k := k.toNat) (by omega) (by omega)
    have all2 := all_len (k := k.toNat) (by omega) (by omega)
    -- some = [..]
    refine ⟨_, rfl, k.toNat, by rw [ek]; rfl, by omega, by omega, fun H1 a s1 ⟨L, eL, hL, tL⟩ => ⟨a, rfl, ⟨_, SqL.of hL⟩, fun Dl nDl => lc_list (K := K) (a := a) (xs := refs L) (fun n H2 => Same H1 H2 ∧ H2 Dl = some (.lst (refs ((L.take n).filter fun p => Su184.brings p.2 t)))) ⟨Same.new nDl, upd_same⟩ (fun n H2 _ p => SqL.of (p.1 _ _ hL)) ?_ ?_⟩⟩
    · rintro n y H2 hy ⟨s2, hD2⟩
      obtain ⟨pb, hpb, rfl⟩ := ref_at hy
      obtain ⟨it, il⟩ := all1 pb.2 (List.mem_of_getElem? (kind_at eL hpb))
      have s12 := s1.trans s2
      have h1 := s2 _ _ (tL pb (List.mem_of_getElem? hpb))
      refine ⟨rfl, _, rfl, _, rfl, D, C, dx, _, _, rfl, s12 _ _ up.obj, TD.cl, TD.nR, fD_row ra kd, pb.1, ra, pb.2, t, rfl, h1, s12 _ _ up.row, by omega, it, hpos, by omega, fun H3 s3 => ⟨_, rfl, ?_⟩⟩
      have hD3 := s3 _ _ hD2
      cases c : Su184.brings pb.2 t with
      | true =>
        refine iteT ⟨_, rfl, _, hD3, ?_, Same.mut (s2.trans s3) nDl, ?_⟩
        · rw [List.length_map]
          have l1 := List.length_filter_le (fun p : Addr × List Nat => Su184.brings p.2 t) (L.take n)
          have l2 : (L.take n).length ≤ L.length := by rw [List.length_take]; omega
          have l3 := refs_len eL
          rw [List.length_map] at l3
          exact szlt (by omega)
        · rw [upd_same, take_more hpb, List.filter_append, List.filter_cons, if_pos c, refs_app]; rfl
      | false =>
        refine iteF ⟨s2.trans s3, ?_⟩
        rw [take_more hpb, List.filter_append, List.filter_cons, if_neg (by rw [c]; decide)]
        simpa using hD3
    rintro H2 ⟨s2, hD2⟩
    have e1 : (refs L).length = L.length := List.length_map ..
    rw [e1, List.take_length] at hD2
    have eB : kinds (L.filter fun p => Su184.brings p.2 t) = byP k.toNat t := by
      unfold byP
      rw [← eL, List.filter_map]; rfl
    have tB : TL H2 (L.filter fun p => Su184.brings p.2 t) := fun p hp => s2 _ _ (tL p (List.mem_filter.mp hp).1)
    generalize L.filter (fun p => Su184.brings p.2 t) = B at hD2 eB tB
    have s12 := s1.trans s2
    -- found = [len(some)]
    refine ⟨_, rfl, Dl, _, rfl, .inl (SqL.of hD2), by show 1 ≤ sizeLine; decide, fun fo nfo => ?_⟩
    have s3 : Same H2 (upd H2 fo (.lst [.int ((refs B).length : Nat)])) := Same.new nfo
    refine ⟨_, rfl, _, rfl, Dl, _, rfl, SqL.of (s3 _ _ hD2), fun p np => ?_⟩
    have s4 : Same (upd H2 fo (.lst [.int ((refs B).length : Nat)])) (upd (upd H2 fo (.lst [.int ((refs B).length : Nat)])) p (.lst (cutV (refs B) none (some 1)))) := Same.new np
    have ecut : cutV (refs B) none (some 1) = refs (B.take 1) := by
      unfold cutV
      rw [HT.sIx_none, show (1 : Int) = ((1 : Nat) : Int) from rfl, HT.sIx_nat]
      simp only [List.drop_zero, Nat.sub_zero]
      have em : refs (B.take 1) = (refs B).take 1 := List.map_take
      rw [em]
      by_cases c : 1 ≤ (refs B).length
      · rw [Nat.min_eq_left c]
      · rw [List.take_of_length_le (i := 1) (by omega), List.take_of_length_le (by omega)]
    rw [ecut] at s4 ⊢
    have hfo : (upd (upd H2 fo (.lst [.int ((refs B).length : Nat)])) p (.lst (refs (B.take 1)))) fo = some (.lst [.int ((refs B).length : Nat)]) := s4 _ _ upd_same
    generalize hH4 : upd (upd H2 fo (.lst [.int ((refs B).length : Nat)])) p (.lst (refs (B.take 1))) = H4 at s4 hfo
    have h4p : H4 p = some (.lst (refs (B.take 1))) := by rw [← hH4]; exact upd_same
    have pf : p ≠ fo := fun z => by rw [z, upd_same] at np; cases np
    have tB4 := (tB.same s3).same s4
    refine ⟨p, rfl, ⟨_, SqL.of h4p⟩, for_list (K := K) (a := p) (xs := refs (B.take 1)) (fun i σ H5 => (∃ v2, σ = [some (.ref D), some (.int k), v2, some (.ref Dl), some (.ref fo)]) ∧ SB fo H4 H5 ∧ H5 fo = some (.lst (.int ((refs B).length : Nat) :: ((kinds (B.take 1)).take i).flatMap vN))) ?_ (fun i σ H5 _ pp => SqL.of (pp.2.1 _ _ h4p pf)) ?_ ?_⟩
    · exact ⟨⟨none, rfl⟩, fun b o e _ => e, by simpa using hfo⟩
    · rintro i y σ H5 hy ⟨⟨v2, rfl⟩, b5, h5⟩
      obtain ⟨pb, hpb, rfl⟩ := ref_at hy
      have hmB : pb ∈ B := List.mem_of_mem_take (List.mem_of_getElem? hpb)
      have hpu : pb.2 ∈ byP k.toNat t := eB ▸ List.mem_map.mpr ⟨pb, hmB, rfl⟩
      obtain ⟨_, il⟩ := all1 pb.2 (List.mem_filter.mp hpu).1
      have htp := tB4 pb hmB
      have h5p : H5 pb.1 = some (.tup (vN pb.2)) := b5 _ _ htp (ne_of htp hfo fun z => by cases z)
      have hi0 : i = 0 := by
        have := (List.getElem?_eq_some_iff.mp hpb).1
        rw [List.length_take] at this
        omega
      subst hi0
      have hk0 : (kinds (B.take 1))[0]? = some pb.2 := by rw [List.getElem?_map, hpb]; rfl
      refine ⟨_, rfl, .inl ⟨rfl, _, SqL.of h5⟩, _, rfl, pb.1, _, rfl, .inr (SqT.of h5p), fun l nl => ⟨fo, l, _, _, rfl, rfl, (Same.new nl) _ _ h5, upd_same, ?_, ⟨_, rfl⟩, (b5.new nl).self, ?_⟩⟩
      · rw [vN_length]
        simp
        exact sz1000 (by omega)
      · rw [upd_same, take_more hk0]
        simp
    · rintro σ H5 ⟨⟨v2, rfl⟩, b5, h5⟩
      have nfo' : H fo = none := Same.free s12 nfo
      have s5 : Same H H5 := fun b o e => b5 b o (s4 _ _ (s3 _ _ (s12 b o e))) (ne_of_none e nfo')
      refine ⟨_, rfl, q _ fo (Fr.of s5) (hd.same s5) ?_⟩
      rw [h5]
      have l1 : (refs (B.take 1)).length = (kinds (B.take 1)).length := by rw [List.length_map, List.length_map]
      rw [l1, List.take_length, refs_len eB, ← eB]
      cases B with
      | nil => rfl
      | cons b B => simp
end
end Rw

set_option maxRecDepth 100000
set_option maxHeartbeats 4000000
/-! # The walk: first -/
namespace Rw
open PySem PySem.Spec PyProof.Rows L2
/-- those that bring no other one -/
abbrev firstP (k : Nat) : List (List Nat) := (Su184.all k).filter fun u => decide (Su184.types u u.length = [u])
section
variable {P : Program} {w : World} {K : PySem.W.Frag} {mg : Str → Option Value} {base : Heap}
abbrev sFirst : Stmt := top 54
abbrev nFirst : List Str := ["k", "some", "row"]
theorem scFirst : FnScope nFirst ["k"] (defScope sFirst) := ⟨rfl, rfl, rfl, by decide +kernel, rfl, by decide +kernel, by decide +kernel⟩
def spFirst (CR : Addr) : Sp := fun vs H Q E => ∃ (k : Int), vs = [.int k] ∧ (¬ (1 ≤ k ∧ k ≤ 5) → ∀ d, H d = none → E (.ref CR) (some d) (upd H d (errD (-22)))) ∧
  (1 ≤ k ∧ k ≤ 5 → ∀ H' p, Same H H' → H' p = some (.lst (vI [((firstP k.toNat).length : Int), ((Su184.all k.toNat).length : Int)])) → Q (.ref p) H')
theorem ok_first {f CR : Addr} {fd : FuncData} (F : Fun K "first" "first" sFirst f fd) (T : Blt mg) (N : Nums mg) (hN : HasNeed P w K mg base CR) (hA : Has P w K mg base CX0 1 "all_types" ["steps"] spAll) (hD : Has P w K mg base CX0 5 "is_alone" ["row"] spAlone) :
    FnOk P w K mg base (L2.CX P w) 6 f fd ["k"] (spFirst CR) := by
  obtain ⟨fN, fdN, gN, kN, bN, GN⟩ := hN
  obtain ⟨fA, fdA, gA, kA, bA, GA⟩ := hA
  obtain ⟨fD', fdD, gD, kD, bD, GD⟩ := hD
  refine F.okX scFirst (fun vs H Q E h => ?_) (fun cdv A outer s H vs Q E hr h => ?_)
  · obtain ⟨k, rfl, _⟩ := h; rfl
  · refine ⟨_, pss_cons (ps_expr (pe_call GN (hr.mono (by decide)) rfl gN kN bN .nil (passes_call (takes_of rfl rfl rfl rfl) (fun _ _ _ _ h => h)) (pa_cons (pe_chain op_le op_le pe_int (pv 0) (pe_num N.mostBy)) (pa_cons (pe_num N.wrong) pa_nil))))
      (pss_cons (ps_set (i := 1) scFirst.nd rfl (Or.inl rfl) (pe_call GA (hr.mono (by decide)) rfl gA kA bA .nil pass0 (pa_cons (pv 0) pa_nil)))
      (pss_one (ps_ret (pe_lst (pa_cons (pe_callB call_len_seq (by rfl) T.len boot_len (pa_cons
        (pe_lc (own := [("row", 2)]) (g := gName 2) (tt := tTest (tCall spAlone [] E0 (tCons (tVar 2) tNil))) (te := tVar 2) rfl scFirst.nd
          (pi_list (pv 1)) (blkOk_by (N := nFirst) (sc := defScope sFirst) (by decide +kernel)) (fun _ _ _ _ _ => pg_name (i := 2) scFirst.nd rfl (Or.inl rfl))
          (fun _ _ _ _ _ => pts_one (pt_val (pe_call GD hr rfl gD kD bD .nil pass0 (pa_cons (pv 2) pa_nil))))
          (fun _ _ _ _ _ => pv 2)) pa_nil)) (pa_cons (pe_callB call_len_seq (by rfl) T.len boot_len (pa_cons (pv 1) pa_nil)) pa_nil)))))), ?_⟩
    obtain ⟨k, rfl, q1, q2⟩ := h
    refine ⟨_, rfl, _, _, rfl, rfl, _, rfl, ?_⟩
    by_cases c1 : (1 : Int) ≤ k
    case neg =>
      rw [decide_eq_false c1]
      exact iteF ⟨_, _, rfl, fun e => q1 fun z => c1 z.1, fun e => nomatch e⟩
    rw [decide_eq_true c1]
    refine iteT ⟨_, _, rfl, rfl, _, _, rfl, fun e => q1 fun z => absurd z.2 (of_decide_eq_false e), fun e => ?_⟩
    have ok : 1 ≤ k ∧ k ≤ 5 := ⟨c1, of_decide_eq_true e⟩
    have ek : ((k.toNat : Nat) : Int) = k := by omega
    have all1 := all_isT (k := k.toNat) (by omega) (by omega)
    have all2 := all_len (k := k.toNat) (by omega) (by omega)
    refine ⟨_, rfl, k.toNat, by rw [ek]; rfl, by omega, by omega, fun H1 a s1 ⟨L, eL, hL, tL⟩ => ⟨_, rfl, a, rfl, ⟨_, SqL.of hL⟩, fun Dl nDl => lc_list (K := K) (a := a) (xs := refs L) (fun n H2 => Same H1 H2 ∧ H2 Dl = some (.lst (refs ((L.take n).filter fun p => decide (Su184.types p.2 p.2.length = [p.2]))))) ⟨Same.new nDl, upd_same⟩ (fun n H2 _ p => SqL.of (p.1 _ _ hL)) ?_ ?_⟩⟩
    · rintro n y H2 hy ⟨s2, hD2⟩
      obtain ⟨pb, hpb, rfl⟩ := ref_at hy
      obtain ⟨it, il⟩ := all1 pb.2 (List.mem_of_getElem? (kind_at eL hpb))
      have h1 := s2 _ _ (tL pb (List.mem_of_getElem? hpb))
      refine ⟨rfl, _, rfl, pb.1, pb.2, rfl, h1, by omega, it, fun H3 s3 => ⟨_, rfl, ?_⟩⟩
      have hD3 := s3 _ _ hD2
      by_cases c : Su184.types pb.2 pb.2.length = [pb.2]
      · rw [decide_eq_true c]
        refine iteT ⟨_, rfl, _, hD3, ?_, Same.mut (s2.trans s3) nDl, ?_⟩
        · rw [List.length_map]
          have l1 := List.length_filter_le (fun p : Addr × List Nat => decide (Su184.types p.2 p.2.length = [p.2])) (L.take n)
          have l2 : (L.take n).length ≤ L.length := by rw [List.length_take]; omega
          have l3 := refs_len eL
          rw [List.length_map] at l3
          exact szlt (by omega)
        · rw [upd_same, take_more hpb, List.filter_append, List.filter_cons, if_pos (decide_eq_true c), refs_app]; rfl
      · rw [decide_eq_false c]
        refine iteF ⟨s2.trans s3, ?_⟩
        rw [take_more hpb, List.filter_append, List.filter_cons, if_neg (by simpa using c)]
        simpa using hD3
    · rintro H2 ⟨s2, hD2⟩
      have e1 : (refs L).length = L.length := List.length_map ..
      rw [e1, List.take_length] at hD2
      have eB : kinds (L.filter fun p => decide (Su184.types p.2 p.2.length = [p.2])) = firstP k.toNat := by
        unfold firstP
        rw [← eL, List.filter_map]; rfl
      refine ⟨Dl, _, rfl, .inl (SqL.of hD2), _, rfl, a, _, rfl, .inl (SqL.of (s2 _ _ hL)), by show 2 ≤ sizeLine; decide, fun p np => q2 ok _ p ((s1.trans s2).trans (Same.new np)) ?_⟩
      rw [upd_same, refs_len eB, refs_len eL]; rfl
end
end Rw

set_option maxRecDepth 100000
set_option maxHeartbeats 8000000
/-! # The walk: answer -/
namespace Rw
open PySem PySem.Spec PyProof.Rows L2
theorem ifEq {a b : Int} {A B : Prop} (e : a = b) (h : A) : if decide (V.int a = V.int b) = true then A else B := by
  rw [if_pos (decide_eq_true (by rw [e]))]
  exact h
theorem ifNe {a b : Int} {A B : Prop} (e : a ≠ b) (h : B) : if decide (V.int a = V.int b) = true then A else B := by
  rw [if_neg]
  · exact h
  · intro z
    have := of_decide_eq_true z
    injection this with z
    exact e z
/-- the calls' numbers -/
structure Tags (mg : Str → Option Value) : Prop where
  take : Num mg "TAKE" 0
  line : Num mg "LINE" 1
  turn : Num mg "TURN" 2
  double : Num mg "DOUBLE" 3
  brings : Num mg "BRINGS" 4
  types : Num mg "TYPES" 5
  nth : Num mg "NTH" 6
  steps : Num mg "STEPS" 7
  alone : Num mg "ALONE" 8
  by_ : Num mg "BY" 9
  first : Num mg "FIRST" 10
section
variable {P : Program} {w : World} {K : PySem.W.Frag} {mg : Str → Option Value} {base : Heap}
abbrev sAnswer : Stmt := top 55
abbrev nAnswer : List Str := ["desk", "call", "numbers", "row"]
theorem scAnswer : FnScope nAnswer nAnswer (defScope sAnswer) := ⟨rfl, rfl, rfl, by decide +kernel, rfl, by decide +kernel, by decide +kernel⟩
/-- what a call is asked with -/
structure Asked (C : Addr) (H : Hp) (D nl rl : Addr) (t : List Nat) (c : Su184.Call) (call : Int) (nums row : List Int) : Prop where
  hn : H nl = some (.lst (vI nums))
  hr : H rl = some (.lst (vI row))
  desk : DeskAt C H D t
  ok : Rt.Valid t
  args : Rt.ArgsOk c call nums row
def spAnswer (C CR : Addr) : Sp := fun vs H Q E => ∃ (D nl rl : Addr) (t : List Nat) (c : Su184.Call) (call : Int) (nums row : List Int), vs = [.ref D, .int call, .ref nl, .ref rl] ∧ Asked C H D nl rl t c call nums row ∧
  ((Su184.step (Rt.St2 t) c).2.value < 0 → AnsE C CR D H E t (Su184.step (Rt.St2 t) c).2.value) ∧
  (¬ (Su184.step (Rt.St2 t) c).2.value < 0 → AnsQ C D H Q ((Su184.step (Rt.St2 t) c).1.getD []) ((Su184.step (Rt.St2 t) c).2.value :: Rt.nts (Su184.step (Rt.St2 t) c).2.out))
/-- how a promise of one def is met: by what the step gives -/
theorem ansE_of {C CR D : Addr} {H : Hp} {E : XK} {t : List Nat} {r : Option (List Nat) × Su184.Ans} {x : Option (List Nat)} {n : Int} (h : r.2.value < 0 → AnsE C CR D H E t r.2.value) (e : r = (x, Su184.no n)) (hn : n < 0) : AnsE C CR D H E t n := by
  subst e
  exact h hn
theorem ansQ_of {C D : Addr} {H : Hp} {Q : VK} {u : List Nat} {r : Option (List Nat) × Su184.Ans} {n : Nat} {l : List Nat} (h : ¬ r.2.value < 0 → AnsQ C D H Q (r.1.getD []) (r.2.value :: Rt.nts r.2.out)) (e : r = (some u, Su184.num n l)) : AnsQ C D H Q u ((n : Int) :: Rt.nts l) := by
  subst e
  exact h (by show ¬ ((n : Int) < 0); omega)
theorem AnsE.fr {C CR D : Addr} {H H1 : Hp} {E : XK} {t : List Nat} {n : Int} (h : AnsE C CR D H E t n) (f : Fr D H H1) : AnsE C CR D H1 E t n := fun H' d f' => h H' d (f.trans f')
theorem AnsQ.fr {C D : Addr} {H H1 : Hp} {Q : VK} {t : List Nat} {out : List Int} (h : AnsQ C D H Q t out) (f : Fr D H H1) : AnsQ C D H1 Q t out := fun H' p f' => h H' p (f.trans f')
def okS2 (k : Nat) : Prop := 1 ≤ (k : Int) ∧ (k : Int) ≤ 6
theorem okS {k : Nat} : Su184.okSteps k = false ↔ ¬ okS2 k := by
  unfold Su184.okSteps okS2
  rw [Bool.and_eq_false_iff, decide_eq_false_iff_not, decide_eq_false_iff_not]
  show (¬ 0 < k ∨ ¬ k ≤ 6) ↔ _
  omega
theorem ok_answer {f C CR : Addr} {fd : FuncData} (F : Fun K "answer" "answer" sAnswer f fd) (T : Blt mg) (N : Nums mg) (G : Tags mg) (TD : DeskTxt K C) (hN : HasNeed P w K mg base CR)
    (h0 : Has P w K mg base (L2.CX P w) 4 "take" ["desk", "row"] (spTake C CR)) (h1 : Has P w K mg base CX0 1 "line_of" ["row"] (spLineOf K)) (h2 : Has P w K mg base CX0 3 "turn" ["desk"] (spTurn C)) (h3 : Has P w K mg base (L2.CX P w) 4 "double" ["desk"] (spDouble C CR))
    (h4 : Has P w K mg base (L2.CX P w) 6 "brings" ["desk", "row"] (spBrings C CR)) (h5 : Has P w K mg base (L2.CX P w) 6 "types" ["desk", "j"] (spTypes C CR)) (h6 : Has P w K mg base (L2.CX P w) 6 "nth" ["desk", "j", "i"] (spNth C CR)) (h7 : Has P w K mg base CX0 6 "steps" ["desk"] (spSteps C))
    (h8 : Has P w K mg base (L2.CX P w) 6 "alone" ["desk"] (spAloneC C CR)) (h9 : Has P w K mg base (L2.CX P w) 6 "by" ["desk", "k"] (spBy C CR)) (hA : Has P w K mg base (L2.CX P w) 6 "first" ["k"] (spFirst CR)) (hS : Has P w K mg base CX0 1 "shown" ["row"] (spShown K)) :
    FnOk P w K mg base (L2.CX P w) 7 f fd nAnswer (spAnswer C CR) := by
  obtain ⟨fN, fdN, gN, kN, bN, GN⟩ := hN
  obtain ⟨f0, fd0, g0, k0, b0, G0⟩ := h0
  obtain ⟨f1, fd1, g1, k1, b1, G1⟩ := h1
  obtain ⟨f2, fd2, g2, k2, b2, G2⟩ := h2
  obtain ⟨f3, fd3, g3, k3, b3, G3⟩ := h3
  obtain ⟨f4, fd4, g4, k4, b4, G4⟩ := h4
  obtain ⟨f5, fd5, g5, k5, b5, G5⟩ := h5
  obtain ⟨f6, fd6, g6, k6, b6, G6⟩ := h6
  obtain ⟨f7, fd7, g7, k7, b7, G7⟩ := h7
  obtain ⟨f8, fd8, g8, k8, b8, G8⟩ := h8
  obtain ⟨f9, fd9, g9, k9, b9, G9⟩ := h9
  obtain ⟨fA, fdA, gA, kA, bA, GA⟩ := hA
  obtain ⟨fS, fdS, gS, kS, bS, GS⟩ := hS
  refine F.okX scAnswer (fun vs H Q E h => ?_) (fun cdv A outer s H vs Q E hr h => ?_)
  · obtain ⟨D, nl, rl, t, c, call, nums, row, rfl, _⟩ := h; rfl
  · have hr1 : Room 6 _ := hr
    refine ⟨_, pss_cons (ps_if (pt_cmpR op_eq (pv 1) (pe_num G.take) (nomark _)) (pss_one (ps_ret (pe_call G0 (hr1.mono (by decide)) rfl g0 k0 b0 .nil (passes_call (takes_of rfl rfl rfl rfl) (fun _ _ _ _ h => h)) (pa_cons (pv 0) (pa_cons (pv 3) pa_nil))))) pss_nil)
      (pss_cons (ps_expr (pe_call GN (hr1.mono (by decide)) rfl gN kN bN .nil (passes_call (takes_of rfl rfl rfl rfl) (fun _ _ _ _ h => h)) (pa_cons (pe_cmpR (op_neD hr.units) (pe_fld (pv 0) rfl) (pe_tup pa_nil) (nomark _)) (pa_cons (pe_num N.nothing) pa_nil))))
      (pss_cons (ps_if (pt_cmpR op_eq (pv 1) (pe_num G.line) (nomark _)) (pss_one (ps_ret (pe_op op_cat (pe_lst (pa_cons (pe_callB call_len_seq (by rfl) T.len boot_len (pa_cons (pe_fld (pv 0) rfl) pa_nil)) pa_nil)) (pe_call G1 (hr1.mono (by decide)) rfl g1 k1 b1 .nil pass0 (pa_cons (pe_fld (pv 0) rfl) pa_nil))))) pss_nil)
      (pss_cons (ps_if (pt_cmpR op_eq (pv 1) (pe_num G.turn) (nomark _)) (pss_one (ps_ret (pe_call G2 (hr1.mono (by decide)) rfl g2 k2 b2 .nil pass0 (pa_cons (pv 0) pa_nil)))) pss_nil)
      (pss_cons (ps_if (pt_cmpR op_eq (pv 1) (pe_num G.double) (nomark _)) (pss_one (ps_ret (pe_call G3 (hr1.mono (by decide)) rfl g3 k3 b3 .nil (passes_call (takes_of rfl rfl rfl rfl) (fun _ _ _ _ h => h)) (pa_cons (pv 0) pa_nil)))) pss_nil)
      (pss_cons (ps_if (pt_cmpR op_eq (pv 1) (pe_num G.brings) (nomark _)) (pss_one (ps_ret (pe_call G4 hr1 rfl g4 k4 b4 .nil (passes_call (takes_of rfl rfl rfl rfl) (fun _ _ _ _ h => h)) (pa_cons (pv 0) (pa_cons (pv 3) pa_nil))))) pss_nil)
      (pss_cons (ps_if (pt_cmpR op_eq (pv 1) (pe_num G.types) (nomark _)) (pss_one (ps_ret (pe_call G5 hr1 rfl g5 k5 b5 .nil (passes_call (takes_of rfl rfl rfl rfl) (fun _ _ _ _ h => h)) (pa_cons (pv 0) (pa_cons (pe_ix ix_list (pv 2) pe_int (fun _ _ => rfl)) pa_nil))))) pss_nil)
      (pss_cons (ps_if (pt_cmpR op_eq (pv 1) (pe_num G.nth) (nomark _)) (pss_one (ps_ret (pe_call G6 hr1 rfl g6 k6 b6 .nil (passes_call (takes_of rfl rfl rfl rfl) (fun _ _ _ _ h => h)) (pa_cons (pv 0) (pa_cons (pe_ix ix_list (pv 2) pe_int (fun _ _ => rfl)) (pa_cons (pe_ix ix_list (pv 2) pe_int (fun _ _ => rfl)) pa_nil)))))) pss_nil)
      (pss_cons (ps_if (pt_cmpR op_eq (pv 1) (pe_num G.steps) (nomark _)) (pss_one (ps_ret (pe_call G7 hr1 rfl g7 k7 b7 .nil pass0 (pa_cons (pv 0) pa_nil)))) pss_nil)
      (pss_cons (ps_if (pt_cmpR op_eq (pv 1) (pe_num G.alone) (nomark _)) (pss_one (ps_ret (pe_call G8 hr1 rfl g8 k8 b8 .nil (passes_call (takes_of rfl rfl rfl rfl) (fun _ _ _ _ h => h)) (pa_cons (pv 0) pa_nil)))) pss_nil)
      (pss_cons (ps_if (pt_cmpR op_eq (pv 1) (pe_num G.by_) (nomark _)) (pss_one (ps_ret (pe_call G9 hr1 rfl g9 k9 b9 .nil (passes_call (takes_of rfl rfl rfl rfl) (fun _ _ _ _ h => h)) (pa_cons (pv 0) (pa_cons (pe_ix ix_list (pv 2) pe_int (fun _ _ => rfl)) pa_nil))))) pss_nil)
      (pss_cons (ps_if (pt_cmpR op_eq (pv 1) (pe_num G.first) (nomark _)) (pss_one (ps_ret (pe_call GA hr1 rfl gA kA bA .nil (passes_call (takes_of rfl rfl rfl rfl) (fun _ _ _ _ h => h)) (pa_cons (pe_ix ix_list (pv 2) pe_int (fun _ _ => rfl)) pa_nil)))) pss_nil)
      (pss_one (ps_ret (pe_call GS (hr1.mono (by decide)) rfl gS kS bS .nil pass0 (pa_cons (pe_fld (pv 0) rfl) pa_nil))))))))))))))), ?_⟩
    obtain ⟨D, nl, rl, t, c, call, nums, row, rfl, hA, qE, qQ⟩ := h
    obtain ⟨an, ar, hd, hv, ha⟩ := hA
    refine ⟨_, rfl, rfl, _, rfl, ?_⟩
    by_cases ct : ∃ u, c = .take u
    · obtain ⟨u, rfl⟩ := ct
      obtain ⟨rfl, rfl, rfl, nn, hz⟩ := ha
      have st := Rt.step_take t (row.map Int.toNat)
      rw [List.length_map] at st
      have tb := Rt.take_bool (row.map Int.toNat)
      rw [List.length_map] at tb
      refine ifEq rfl ⟨_, rfl, _, rfl, D, rl, t, row, rfl, ar, by omega, nn, hd, fun e => ?_, fun e => ?_⟩
      · refine ansE_of qE (st.trans (if_pos (tb.mpr e))) (by decide)
      · have := ansQ_of qQ (st.trans (if_neg fun z => by rw [tb.mp z] at e; cases e))
        exact this
    · have c0 : call ≠ 0 := by
        cases c with
        | take u => exact absurd ⟨u, rfl⟩ ct
        | line => rw [ha.1]; decide
        | turn => rw [ha.1]; decide
        | double => rw [ha.1]; decide
        | brings u => rw [ha.1]; decide
        | types k => rw [ha.1]; decide
        | nth k j => rw [ha.1]; decide
        | steps => rw [ha.1]; decide
        | alone => rw [ha.1]; decide
        | by_ k => rw [ha.1]; decide
        | rise k => rw [ha.1]; decide
        | state => rw [ha.1]; decide
      obtain ⟨dx, ra, kd, kvs, js, up⟩ := id hd
      refine ifNe c0 ⟨_, rfl, D, C, dx, _, _, rfl, up.obj, TD.cl, TD.nR, fD_row ra kd, by show 0 ≤ sizeLine; decide, fun e0 n0 => ?_⟩
      have s1 : Same H (upd H e0 (.tup [])) := Same.new n0
      refine ⟨.tuple (dI (Rt.nts t)), .tuple (dI (Rt.nts [])), .tup (SqT.of (s1 _ _ up.row)) (dpInts _), .tup (xs := vI (Rt.nts [])) (SqT.of upd_same) (dpInts _), shapedT _, shapedT _, _, _, rfl, ?_, ?_⟩
      · rw [eqvT]
        intro e d hd'
        rcases hv with rfl | ⟨ht, _⟩
        · refine (ansE_of qE (Rt.step_none (fun u z => ct ⟨u, z⟩)) (by decide)).need (Fr.of s1) (hd.same s1) d hd'
        · exfalso
          rw [decide_eq_false (fun z => ht.ne (ints_inj z))] at e
          cases e
      · rw [eqvT]
        intro e
        rcases hv with rfl | ⟨ht, hz⟩
        · rw [decide_eq_true rfl] at e; cases e
        clear e
        have hpos := ht.pos
        have ar1 := s1 _ _ ar
        have an1 := s1 _ _ an
        have hd1 := hd.same s1
        have o1 := s1 _ _ up.obj
        have r1 := s1 _ _ up.row
        have f1 : Fr D H (upd H e0 (.tup [])) := Fr.of s1
        generalize upd H e0 (.tup []) = H1 at *
        have st := Rt.step_some ht c
        have qe : ∀ {n : Int} {x : List Nat}, Su184.does t c = (x, Su184.no n) → n < 0 → AnsE C CR D H1 E t n := fun e hn => (ansE_of qE (st.trans (by rw [e])) hn).fr f1
        have qq : ∀ {u : List Nat} {n : Nat} {l : List Nat}, Su184.does t c = (u, Su184.num n l) → AnsQ C D H1 Q u ((n : Int) :: Rt.nts l) := fun e => (ansQ_of qQ (st.trans (by rw [e]))).fr f1
        clear qE qQ st
        cases c with
        | take u => exact absurd ⟨u, rfl⟩ ct
        | line =>
          obtain ⟨rfl, rfl⟩ := ha
          have lp : (Su184.putOf t).length = t.length := by unfold Su184.putOf; rw [List.length_map, List.length_range]
          have q := qq (show Su184.does t .line = (t, Su184.num (Su184.putOf t).length (Su184.putOf t)) from rfl)
          rw [lp] at q
          refine ⟨_, rfl, rfl, _, rfl, ifEq rfl ⟨_, rfl, D, C, dx, _, _, rfl, o1, TD.cl, TD.nR, fD_row ra kd, ra, _, rfl, .inr (SqT.of r1), by show 1 ≤ sizeLine; decide, fun l1 n1 => ⟨_, rfl, D, C, dx, _, _, rfl, (Same.new n1) _ _ o1, TD.cl, TD.nR, fD_row ra kd, ra, t, rfl, SqT.of ((Same.new n1) _ _ r1), by omega, ht, fun H2 l2 s2 h2 => ⟨l1, l2, _, _, rfl, rfl, s2 _ _ upd_same, h2, ?_, fun p np => ?_⟩⟩⟩⟩
          · rw [show (vN (Su184.putOf t)).length = t.length from (vN_length _).trans lp]
            exact sz1000 (by simp; omega)
          · refine q _ p (Fr.of (((Same.new n1).trans s2).trans (Same.new np))) (hd1.same (((Same.new n1).trans s2).trans (Same.new np))) ?_
            rw [upd_same, vN_length]
            rfl
        | turn =>
          obtain ⟨rfl, rfl⟩ := ha
          refine ⟨_, rfl, rfl, _, rfl, ifNe (by decide) ?_⟩
          have q := qq (show Su184.does t .turn = (Su184.turned t, Su184.num (Su184.turned t).length (Su184.turned t)) from rfl)
          rw [Rt.turned_eq ht] at q
          exact ⟨_, rfl, rfl, _, rfl, ifEq rfl ⟨_, rfl, D, t, rfl, hd1, hz, ht, q⟩⟩
        | double =>
          obtain ⟨rfl, rfl⟩ := ha
          iterate 2 refine ⟨_, rfl, rfl, _, rfl, ifNe (by decide) ?_⟩
          refine ⟨_, rfl, rfl, _, rfl, ifEq rfl ⟨_, rfl, D, t, rfl, hd1, hz, ht, fun n => ?_, fun n => ?_⟩⟩
          · exact qe (show Su184.does t .double = (t, Su184.no (-28)) from if_pos (by omega)) (by decide)
          · exact qq (show Su184.does t .double = (Su184.doubled t, Su184.num (Su184.doubled t).length (Su184.doubled t)) from if_neg (by omega))
        | brings u =>
          obtain ⟨rfl, rfl, rfl, nn, hz2⟩ := ha
          have tb := Rt.brings_bool (row.map Int.toNat)
          rw [List.length_map] at tb
          iterate 3 refine ⟨_, rfl, rfl, _, rfl, ifNe (by decide) ?_⟩
          refine ⟨_, rfl, rfl, _, rfl, ifEq rfl ⟨_, rfl, _, rfl, D, rl, t, row, rfl, ar1, by omega, nn, hd1, hz, ht, fun e => ?_, fun e => ?_⟩⟩
          · refine qe (x := t) (if_pos ?_) (by decide)
            have := tb.mpr e
            rw [← List.length_map (f := Int.toNat)] at this
            exact this
          · have := qq (u := t) (n := Su184.bit (Su184.brings t (row.map Int.toNat))) (l := []) (if_neg fun z => by
              have z' : Su184.isType (row.map Int.toNat) = false ∨ 6 < (row.map Int.toNat).length := z
              rw [List.length_map] at z'
              rw [tb.mp z'] at e; cases e)
            have e2 : ((Su184.bit (Su184.brings t (row.map Int.toNat)) : Nat) : Int) = if Su184.brings t (row.map Int.toNat) then 1 else 0 := by
              unfold Su184.bit; split <;> rfl
            rw [e2] at this
            exact this
        | types k =>
          obtain ⟨rfl, rfl⟩ := ha
          iterate 4 refine ⟨_, rfl, rfl, _, rfl, ifNe (by decide) ?_⟩
          refine ⟨_, rfl, rfl, _, rfl, ifEq rfl ⟨_, rfl, _, rfl, nl, _, 0, .int (k : Int), rfl, rfl, SqL.of an1, atI_nat (j := 0) rfl, D, t, k, rfl, hd1, hz, ht, fun n => ?_, fun n => ?_⟩⟩
          · exact qe (x := t) (if_pos (okS.mpr n)) (by decide)
          · exact qq (u := t) (n := (Su184.types t k).length) (l := []) (if_neg fun z => okS.mp z n)
        | nth k i =>
          obtain ⟨rfl, rfl⟩ := ha
          iterate 5 refine ⟨_, rfl, rfl, _, rfl, ifNe (by decide) ?_⟩
          have dn : okS2 k → Su184.does t (.nth k i) = match (Su184.types t k)[i]? with | some u => (t, Su184.list u) | none => (t, Su184.no (-33)) := fun n => if_neg fun z => okS.mp z n
          refine ⟨_, rfl, rfl, _, rfl, ifEq rfl ⟨_, rfl, _, rfl, nl, _, 0, .int (k : Int), rfl, rfl, SqL.of an1, atI_nat (j := 0) rfl, _, rfl, nl, _, 1, .int (i : Int), rfl, rfl, SqL.of an1, atI_nat (j := 1) rfl, D, t, k, i, rfl, hd1, hz, ht, fun n => ?_, fun n e => ?_, fun n u e => ?_⟩⟩
          · exact qe (x := t) (if_pos (okS.mpr n)) (by decide)
          · refine qe (x := t) ((dn n).trans ?_) (by decide)
            have e' : (Su184.types t k)[i]? = none := e
            rw [e']
          · refine qq (u := t) (n := u.length) (l := u) ((dn n).trans ?_)
            have e' : (Su184.types t k)[i]? = some u := e
            rw [e']; rfl
        | steps =>
          obtain ⟨rfl, rfl⟩ := ha
          iterate 6 refine ⟨_, rfl, rfl, _, rfl, ifNe (by decide) ?_⟩
          exact ⟨_, rfl, rfl, _, rfl, ifEq rfl ⟨_, rfl, D, t, rfl, hd1, hz, ht, qq (u := t) (n := sumUp t 6) (l := []) rfl⟩⟩
        | alone =>
          obtain ⟨rfl, rfl⟩ := ha
          iterate 7 refine ⟨_, rfl, rfl, _, rfl, ifNe (by decide) ?_⟩
          refine ⟨_, rfl, rfl, _, rfl, ifEq rfl ⟨_, rfl, D, t, rfl, hd1, hz, ht, fun n => ?_, fun n => ?_⟩⟩
          · exact qe (x := t) (if_pos (show 6 < t.length by omega)) (by decide)
          · have := qq (u := t) (n := Su184.bit (Su184.types t t.length == [t])) (l := [(Su184.types t t.length).length]) (if_neg (show ¬ 6 < t.length by omega))
            have e2 : ((Su184.bit (Su184.types t t.length == [t]) : Nat) : Int) = if Su184.types t t.length = [t] then 1 else 0 := by
              unfold Su184.bit
              by_cases z : Su184.types t t.length = [t]
              · rw [if_pos z, if_pos (beq_iff_eq.mpr z)]; rfl
              · rw [if_neg z, if_neg (fun y => z (beq_iff_eq.mp y))]; rfl
            rw [e2] at this
            exact this
        | by_ k =>
          obtain ⟨rfl, rfl⟩ := ha
          iterate 8 refine ⟨_, rfl, rfl, _, rfl, ifNe (by decide) ?_⟩
          refine ⟨_, rfl, rfl, _, rfl, ifEq rfl ⟨_, rfl, _, rfl, nl, _, 0, .int (k : Int), rfl, rfl, SqL.of an1, atI_nat (j := 0) rfl, D, t, k, rfl, hd1, hz, ht, fun n => ?_, fun n e => ?_, fun n e => ?_⟩⟩
          · exact qe (x := t) (if_pos (show k = 0 ∨ 5 < k by omega)) (by decide)
          · exact qe (x := t) ((if_neg (show ¬ (k = 0 ∨ 5 < k) by omega)).trans (if_pos (show 5 < t.length by omega))) (by decide)
          · exact qq (u := t) (n := (byP k t).length) (l := (byP k t).headD []) ((if_neg (show ¬ (k = 0 ∨ 5 < k) by omega)).trans (if_neg (show ¬ 5 < t.length by omega)))
        | rise k =>
          obtain ⟨rfl, rfl⟩ := ha
          iterate 9 refine ⟨_, rfl, rfl, _, rfl, ifNe (by decide) ?_⟩
          refine ⟨_, rfl, rfl, _, rfl, ifEq rfl ⟨_, rfl, nl, _, 0, .int (k : Int), rfl, rfl, SqL.of an1, atI_nat (j := 0) rfl, k, rfl, fun n d hd' => ?_, fun n H2 p s2 h2 => ?_⟩⟩
          · exact (qe (x := t) (if_pos (show k = 0 ∨ 5 < k by omega)) (by decide)).need (Fr.refl D H1) hd1 d hd'
          · have all1 := all_isT (k := k) (by omega) (by omega)
            have ef : ((Su184.all k).filter fun u => (Su184.types u k).length == 1) = firstP k := List.filter_congr fun u hu => by
              obtain ⟨it, il⟩ := all1 u hu
              exact Rt.one_self it il
            have := qq (u := t) (n := (firstP k).length) (l := [(Su184.all k).length]) ((if_neg (show ¬ (k = 0 ∨ 5 < k) by omega)).trans (by show (t, Su184.num ((Su184.all k).filter fun u => (Su184.types u k).length == 1).length [(Su184.all k).length]) = _; rw [ef]))
            exact this H2 p (Fr.of s2) (hd1.same s2) h2
        | state =>
          obtain ⟨rfl, rfl⟩ := ha
          iterate 10 refine ⟨_, rfl, rfl, _, rfl, ifNe (by decide) ?_⟩
          refine ⟨_, rfl, D, C, dx, _, _, rfl, o1, TD.cl, TD.nR, fD_row ra kd, ra, t, rfl, SqT.of r1, by omega, fun H2 p s2 h2 => ?_⟩
          exact qq (u := t) (n := t.length) (l := t) rfl H2 p (Fr.of s2) (hd1.same s2) h2
end
end Rw

set_option maxRecDepth 100000
set_option maxHeartbeats 8000000
/-! # The walk: answer_of -/
namespace Rw
open PySem PySem.Spec PyProof.Rows L2
section
variable {P : Program} {w : World} {K : PySem.W.Frag} {mg : Str → Option Value} {base : Heap}
abbrev sAnsOf : Stmt := top 56
abbrev nAnsOf : List Str := ["desk", "call", "numbers", "row", "refusal"]
theorem scAnsOf : FnScope nAnsOf nAnswer (defScope sAnsOf) := ⟨rfl, rfl, rfl, by decide +kernel, rfl, by decide +kernel, by decide +kernel⟩
def spAnsOf (C : Addr) : Sp := fun vs H Q _ => ∃ (D nl rl : Addr) (t : List Nat) (c : Su184.Call) (call : Int) (nums row : List Int), vs = [.ref D, .int call, .ref nl, .ref rl] ∧ Asked C H D nl rl t c call nums row ∧
  AnsQ C D H Q ((Su184.step (Rt.St2 t) c).1.getD []) ((Su184.step (Rt.St2 t) c).2.value :: Rt.nts (Su184.step (Rt.St2 t) c).2.out)
theorem ok_ansOf {f C CR fI : Addr} {fd : FuncData} (F : Fun K "answer_of" "answer_of" sAnsOf f fd) (TL : PySem.LowX.LowTxt K mg CR fI) (hA : Has P w K mg base (L2.CX P w) 7 "answer" nAnswer (spAnswer C CR)) : FnOk P w K mg base CX0 8 f fd nAnswer (spAnsOf C) := by
  obtain ⟨fA, fdA, gA, kA, bA, GA⟩ := hA
  refine F.ok scAnsOf (fun vs H Q E h => ?_) (fun cdv A outer s H vs Q E hr h => ?_)
  · obtain ⟨D, nl, rl, t, c, call, nums, row, rfl, _⟩ := h; rfl
  · have hr1 : Room 7 _ := hr
    refine ⟨_, pss_one (ps_try_as (i := 4) (tb := fun W => tRet (tCallS (spAnswer C CR) (WE W) (tCons (tVar 0) (tCons (tVar 1) (tCons (tVar 2) (tCons (tVar 3) tNil))))))
      (ts := fun a cls d => tRet (tLst (tCons (tByLow CR a cls d (tVar 4)) tNil))) (Wout := fun _ _ _ _ => False) rfl rfl scAnsOf.nd rfl rfl ⟨rfl, by decide, Or.inl TL.gC⟩ takes0
      (fun W pn xe tk _ => pss_one (ps_ret (by exact (pe_callS GA hr1 rfl gA kA bA (fun σ => passAt tk σ) (by exact (pa_cons (pv 0) (pa_cons (pv 1) (pa_cons (pv 2) (pa_cons (pv 3) pa_nil)))))))))
      (fun a oe cls d pn hz hf => pss_one (ps_ret (by exact (pe_lst (pa_cons (pe_byLow TL hz hf (pv 4)) pa_nil)))))), ?_⟩
    obtain ⟨D, nl, rl, t, c, call, nums, row, rfl, hA, q⟩ := h
    refine ⟨_, rfl, _, rfl, _, rfl, _, rfl, D, nl, rl, t, c, call, nums, row, rfl, hA, fun neg => ?_, fun pos => ?_⟩
    · obtain ⟨e1, e2⟩ := Rt.step_neg hA.ok c neg
      rw [e1, e2] at q
      intro H1 d f1 d1 h1
      refine ⟨true, TL.te, fun _ a0 _ => ?_, fun z => nomatch z⟩
      refine ⟨_, rfl, rfl, rfl, d, _, rfl, h1, by show 1 ≤ sizeLine; decide, fun p np => ?_⟩
      refine q _ p (f1.same (Same.new np)) (d1.same (Same.new np)) ?_
      rw [upd_same]; rfl
    · intro H1 p f1 d1 h1
      exact q H1 p f1 d1 h1
end
end Rw

set_option maxRecDepth 100000
set_option maxHeartbeats 8000000
/-! # A list of this def's own is held while others work, then let go -/
namespace L2
open PySem PySem.Spec PyProof.Rows
section
variable {X : Cx}
theorem Inv.thawL {pins : List (Addr × Obj)} {σ : St} {H : Hp} {s : Shared} {a : Addr} {o : Obj} {xs : List V} (I : Inv X pins σ H s) (h : H a = some (.frz o (.lst xs))) (hn : ∀ o u, X.H_0 a ≠ some (.frz o u)) : Inv X pins σ (upd H a (.lst xs)) s := by
  have ne : ∀ {b : Addr}, H b = none → b ≠ a := fun e z => by rw [z, h] at e; cases e
  have nt : ∀ {b : Addr} {ys : List V}, H b = some (.tup ys) → b ≠ a := fun e z => by rw [z, h] at e; cases e
  have no : ∀ {b y : Addr}, H b = some (.own y) → b ≠ a := fun e z => by rw [z, h] at e; cases e
  have nb : ∀ {b : Addr} {ps : Array Value}, H b = some (.tbl ps) → b ≠ a := fun e z => by rw [z, h] at e; cases e
  refine ⟨I.ok, I.os, I.bare, ⟨I.base.keep, I.base.slot, fun b u e n hx => ?_, I.base.there, fun b ys e => ?_, fun b u v e => ?_, fun b ps e => ?_⟩, I.loc, I.cell, ?_, fun x c e => ?_, fun p hp => ?_, fun b u e => ?_, I.len⟩
  · have q := I.base.free b u e n hx
    rw [upd_ne (ne q)]; exact q
  · have q := I.base.tups b ys e
    rw [upd_ne (nt q)]; exact q
  · have q := I.base.frzs b u v e
    have hb : b ≠ a := fun z => by rw [z] at e; exact hn _ _ e
    rw [upd_ne hb]; exact q
  · obtain ⟨more, q⟩ := I.base.tbls b ps e
    exact ⟨more, by rw [upd_ne (nb q)]; exact q⟩
  · rw [upd_ne (ne I.free)]; exact I.free
  · rw [upd_ne (ne (I.freeC x c e))]; exact I.freeC x c e
  · obtain ⟨e, n, r⟩ := I.pin p hp
    exact ⟨e, by rw [upd_ne (ne n)]; exact n, r⟩
  · by_cases hb : b = a
    · subst hb
      rw [upd_same] at e
      cases e
      obtain ⟨_, q⟩ := I.hok b _ h
      exact q
    · rw [upd_ne hb] at e
      exact (I.hok b u e).stay (fun _ _ _ q => q) (fun c q => by rw [upd_ne (no q)]; exact q) fun c ys q => by rw [upd_ne (nt q)]; exact q
theorem Inv.freezeL {pins : List (Addr × Obj)} {σ : St} {H : Hp} {s : Shared} {a : Addr} {xs : List V} (I : Inv X pins σ H s) (h : H a = some (.lst xs)) : ∃ o : Obj, Inv X pins σ (upd H a (.frz o (.lst xs))) s := by
  obtain ⟨hz, its, n, rv, hg⟩ := I.hok a _ h
  refine ⟨{ cls := .type "list", data := .seq its.toArray n }, ?_⟩
  have ne : ∀ {b : Addr}, H b = none → b ≠ a := fun e z => by rw [z, h] at e; cases e
  have nt : ∀ {b : Addr} {ys : List V}, H b = some (.tup ys) → b ≠ a := fun e z => by rw [z, h] at e; cases e
  have no : ∀ {b y : Addr}, H b = some (.own y) → b ≠ a := fun e z => by rw [z, h] at e; cases e
  have nb : ∀ {b : Addr} {ps : Array Value}, H b = some (.tbl ps) → b ≠ a := fun e z => by rw [z, h] at e; cases e
  have nf : ∀ {b : Addr} {o : Obj} {u : HO}, H b = some (.frz o u) → b ≠ a := fun e z => by rw [z, h] at e; cases e
  refine ⟨I.ok, I.os, I.bare, ⟨I.base.keep, I.base.slot, fun b u e n hx => ?_, I.base.there, fun b ys e => ?_, fun b u v e => ?_, fun b ps e => ?_⟩, I.loc, I.cell, ?_, fun x c e => ?_, fun p hp => ?_, fun b u e => ?_, I.len⟩
  · have q := I.base.free b u e n hx
    rw [upd_ne (ne q)]; exact q
  · have q := I.base.tups b ys e
    rw [upd_ne (nt q)]; exact q
  · have q := I.base.frzs b u v e
    rw [upd_ne (nf q)]; exact q
  · obtain ⟨more, q⟩ := I.base.tbls b ps e
    exact ⟨more, by rw [upd_ne (nb q)]; exact q⟩
  · rw [upd_ne (ne I.free)]; exact I.free
  · rw [upd_ne (ne (I.freeC x c e))]; exact I.freeC x c e
  · obtain ⟨e, n, r⟩ := I.pin p hp
    exact ⟨e, by rw [upd_ne (ne n)]; exact n, r⟩
  · by_cases hb : b = a
    · subst hb
      rw [upd_same] at e
      cases e
      exact ⟨hg, hz, its, n, rv, hg⟩
    · rw [upd_ne hb] at e
      exact (I.hok b u e).stay (fun _ _ _ q => q) (fun c q => by rw [upd_ne (no q)]; exact q) fun c ys q => by rw [upd_ne (nt q)]; exact q
/-- a statement; then a list is held -/
def tHeld (t : TS) : TS := fun D σ H => t { D with nx := fun σ' H' => ∃ a xs, H' a = some (.lst xs) ∧ ∀ o, D.nx σ' (upd H' a (.frz o (.lst xs))) } σ H
theorem ps_held {st : Stmt} {t : TS} (h : PS X st t) : PS X st (tHeld t) := by
  refine ⟨fun pins s σ H D I hw => thn (h.run pins s σ H _ I hw) fun f s1 q => ?_⟩
  cases f with
  | next =>
    obtain ⟨σ', H', I', a, xs, e, q⟩ := q
    obtain ⟨o, I2⟩ := I'.freezeL e
    exact ⟨σ', _, I2, q o⟩
  | ret v => exact q
  | brk => exact q
  | cont => exact q
/-- a held list is let go; then a statement -/
def tLoose (H0 : Hp) (t : TS) : TS := fun D σ H => ∃ a o xs, H a = some (.frz o (.lst xs)) ∧ (∀ o u, H0 a ≠ some (.frz o u)) ∧ t D σ (upd H a (.lst xs))
theorem ps_loose {st : Stmt} {t : TS} (h : PS X st t) : PS X st (tLoose X.H_0 t) := by
  refine ⟨fun pins s σ H D I hw => ?_⟩
  obtain ⟨a, o, xs, e, hn, q⟩ := hw
  exact h.run pins s σ _ D (I.thawL e hn) q
end
end L2
/-! # The walk: answers -/
namespace Rw
open PySem PySem.Spec PyProof.Rows L2
theorem step_valid {t : List Nat} (hv : Rt.Valid t) {c : Su184.Call} {call : Int} {nums row : List Int} (ha : Rt.ArgsOk c call nums row) : Rt.St2 ((Su184.step (Rt.St2 t) c).1.getD []) = (Su184.step (Rt.St2 t) c).1 ∧ Rt.Valid ((Su184.step (Rt.St2 t) c).1.getD []) := by
  have key : ∀ t', Rt.Valid t' → (Su184.step (Rt.St2 t) c).1 = Rt.St2 t' → Rt.St2 ((Su184.step (Rt.St2 t) c).1.getD []) = (Su184.step (Rt.St2 t) c).1 ∧ Rt.Valid ((Su184.step (Rt.St2 t) c).1.getD []) := fun t' h e => by
    rw [e, Rt.St2_getD]; exact ⟨rfl, h⟩
  by_cases ct : ∃ u, c = .take u
  · obtain ⟨u, rfl⟩ := ct
    have st := Rt.step_take t u
    by_cases cc : Su184.isType u = false ∨ 7 < u.length
    · rw [if_pos cc] at st
      exact key t hv (by rw [st])
    · rw [if_neg cc] at st
      have hu : Rt.IsT u := Rt.isT_iff.mp (by
        cases e : Su184.isType u with
        | true => rfl
        | false => exact absurd (.inl e) cc)
      exact key u (.inr ⟨hu, by omega⟩) (by rw [st, Rt.St2_isT hu])
  · rcases hv with rfl | ⟨ht, hz⟩
    · exact key [] (.inl rfl) (by rw [Rt.St2_nil, Rt.step_none (fun u e => ct ⟨u, e⟩)])
    · have st := Rt.step_some ht c
      have same : (Su184.does t c).1 = t → _ := fun e => key t (.inr ⟨ht, hz⟩) (by rw [st, Rt.St2_isT ht, e])
      have tl : (turnedP t).length = t.length := by unfold turnedP Rt.begunAt; rw [Rt.rot_length, List.length_map]
      cases c with
      | take u => exact absurd ⟨u, rfl⟩ ct
      | line => exact same rfl
      | turn =>
        have e : Su184.turned t = turnedP t := Rt.turned_eq ht
        have hi := turned_isT ht
        exact key (turnedP t) (.inr ⟨hi, by omega⟩) (by rw [st, Rt.St2_isT hi, ← e]; rfl)
      | double =>
        by_cases c : 3 < t.length
        · exact same (by rw [show Su184.does t .double = (t, Su184.no (-28)) from if_pos c])
        · have hi := doubled_isT ht
          have hl : (Su184.doubled t).length = 2 * t.length := by unfold Su184.doubled; simp; omega
          refine key (Su184.doubled t) (.inr ⟨hi, by omega⟩) ?_
          rw [st, Rt.St2_isT hi, show Su184.does t .double = (Su184.doubled t, Su184.list (Su184.doubled t)) from if_neg c]
      | brings u =>
        refine same ?_
        unfold Su184.does
        dsimp only
        split <;> rfl
      | types k =>
        refine same ?_
        unfold Su184.does
        dsimp only
        split <;> rfl
      | nth k j =>
        refine same ?_
        unfold Su184.does
        dsimp only
        split
        · rfl
        · split <;> rfl
      | steps => exact same rfl
      | alone =>
        refine same ?_
        unfold Su184.does
        dsimp only
        split <;> rfl
      | by_ k =>
        refine same ?_
        unfold Su184.does
        dsimp only
        split
        · rfl
        · split <;> rfl
      | rise k =>
        refine same ?_
        unfold Su184.does
        dsimp only
        split <;> rfl
      | state => exact same rfl
/-! ## what stands while the found list changes -/
theorem LT.off {H : Hp} {a fo : Addr} {ts : List (List Nat)} {o : Obj} {u x : HO} (h : LT H a ts) (hf : H fo = some (.frz o u)) : LT (upd H fo x) a ts := by
  obtain ⟨L, e, h1, h2⟩ := h
  refine ⟨L, e, ?_, fun p hp => ?_⟩
  · rw [upd_ne (ne_of h1 hf fun z => by cases z)]; exact h1
  · have := h2 p hp
    rw [upd_ne (ne_of this hf fun z => by cases z)]; exact this
theorem DeskAt.off {C D fo : Addr} {H : Hp} {t : List Nat} {o : Obj} {u x : HO} (h : DeskAt C H D t) (hf : H fo = some (.frz o u)) : DeskAt C (upd H fo x) D t := by
  obtain ⟨dx, ra, kd, kvs, js, a, b, c, m⟩ := h
  refine ⟨dx, ra, kd, kvs, js, ?_, ?_, ?_, m.keys, m.nodup, m.rng, fun j v e => ?_⟩
  · rw [upd_ne (ne_of a hf fun z => by cases z)]; exact a
  · rw [upd_ne (ne_of b hf fun z => by cases z)]; exact b
  · rw [upd_ne (ne_of c hf fun z => by cases z)]; exact c
  · obtain ⟨l, e1, e2⟩ := m.val j v e
    exact ⟨l, e1, e2.off hf⟩
/-- the request's list at a: it stands, and is not the list at fo -/
def Kp (K : PySem.W.Frag) (H : Hp) (a fo : Addr) (xs : List V) : Prop := (a ≠ fo ∧ Rd H a (.lst xs)) ∨ ∀ H', SqL K H' a xs
theorem Kp.seq {K : PySem.W.Frag} {H : Hp} {a fo : Addr} {xs : List V} (h : Kp K H a fo xs) : SqL K H a xs := h.elim (fun h => .inl h.2) fun h => h H
theorem Kp.of {K : PySem.W.Frag} {H : Hp} {a fo : Addr} {xs : List V} (h : SqL K H a xs) (hf : H fo = none) : Kp K H a fo xs := by
  rcases h with h | h
  · refine .inl ⟨fun e => ?_, h⟩
    rcases h with h | ⟨o, h⟩ <;> (rw [e, hf] at h; cases h)
  · exact .inr fun H' => .inr h
theorem Kp.same {K : PySem.W.Frag} {H H' : Hp} {a fo : Addr} {xs : List V} (h : Kp K H a fo xs) (s : Same H H') : Kp K H' a fo xs :=
  h.elim (fun ⟨n, h⟩ => .inl ⟨n, h.elim (fun h => .inl (s _ _ h)) fun ⟨o, h⟩ => .inr ⟨o, s _ _ h⟩⟩) .inr
theorem Kp.fr {K : PySem.W.Frag} {H H' : Hp} {a fo D : Addr} {xs : List V} (h : Kp K H a fo xs) (f : Fr D H H') (hD : ∃ C dx fs, H D = some (.ins C dx fs)) : Kp K H' a fo xs := by
  obtain ⟨C, dx, fs, e⟩ := hD
  rcases h with ⟨n, h⟩ | h
  · refine .inl ⟨n, ?_⟩
    rcases h with h | ⟨o, h⟩
    · exact .inl (f _ _ h (ne_of h e fun z => by cases z) fun kvs z => by cases z)
    · exact .inr ⟨o, f _ _ h (ne_of h e fun z => by cases z) fun kvs z => by cases z⟩
  · exact .inr h
theorem Kp.mut {K : PySem.W.Frag} {H : Hp} {a fo : Addr} {xs : List V} {o : HO} (h : Kp K H a fo xs) : Kp K (upd H fo o) a fo xs := by
  rcases h with ⟨n, h⟩ | h
  · refine .inl ⟨n, ?_⟩
    unfold Rd
    rw [upd_ne n]; exact h
  · exact .inr h
theorem cut_mid {ns A B C : List Int} {lo hi : Int} (e : ns = A ++ B ++ C) (hlo : lo = (A.length : Int)) (hhi : hi = (A.length : Int) + (B.length : Int)) : cutV (vI ns) (some lo) (some hi) = vI B := by
  have e2 : hi = ((A.length + B.length : Nat) : Int) := by omega
  subst e hlo e2
  unfold cutV
  rw [HT.sIx_nat, HT.sIx_nat]
  have l : (vI (A ++ B ++ C)).length = A.length + B.length + C.length := by unfold vI; simp; omega
  rw [l, Nat.min_eq_left (by omega), Nat.min_eq_left (by omega)]
  unfold vI
  rw [← List.map_drop, ← List.map_take, List.append_assoc, List.drop_left, Nat.add_sub_cancel_left, List.take_left]
theorem at_mid {ns A C : List Int} {z : Int} {k : Nat} (e : ns = A ++ z :: C) (hk : k = A.length) : (vI ns)[k]? = some (.int z) := by
  subst e hk
  unfold vI
  rw [List.getElem?_map, List.getElem?_append_right (Nat.le_refl _), Nat.sub_self]
  rfl
theorem in_rowed : ∀ p, p < 12 → inV (.int ((p : Nat) : Int)) (vI [0, 4]) = decide (p = 0 ∨ p = 4) := by decide
/-- a tuple of the module -/
def Tup (K : PySem.W.Frag) (mg : Str → Option Value) (x : Str) (ns : List Int) : Prop := ∃ a, mg x = some (.ref a) ∧ ∀ H, SqT K H a (vI ns)
/-- the class Desk, as its callers have it -/
def HasDesk (P : Program) (w : World) (K : PySem.W.Frag) (mg : Str → Option Value) (base : Heap) (C : Addr) : Prop :=
  mg "Desk" = some (.ref C) ∧ ∃ (fI : Addr) (fd : FuncData), Mk K C fI ∧ Binds K fd ["self"] [] ∧ FnOk P w K mg base CX0 1 fI fd ["self"] (spDeskInit C)
section
variable {P : Program} {w : World} {K : PySem.W.Frag} {mg : Str → Option Value} {base : Heap}
abbrev sAnswers : Stmt := top 57
abbrev nAnswers : List Str := ["calls", "desk", "found", "at", "call", "begins", "numbers", "row", "own"]
theorem scAnswers : FnScope nAnswers ["calls"] (defScope sAnswers) := ⟨rfl, rfl, rfl, by decide +kernel, rfl, by decide +kernel, by decide +kernel⟩
def spAnswers (K : PySem.W.Frag) : Sp := fun vs H Q _ => ∃ (a : Addr) (ns : List Int), vs = [.ref a] ∧ SqL K H a (vI ns) ∧ PySu184.answers_asked ns = true ∧
  ∀ H' p, Rd H' p (.lst (vI (PySu184.answers ns))) → Q (.ref p) H'
theorem ok_answers {f C : Addr} {fd : FuncData} (F : Fun K "answers" "answers" sAnswers f fd) (T : Blt mg) (hN : Tup K mg "NUMBERS" [0, 0, 0, 0, 0, 1, 2, 0, 0, 1, 1, 0]) (hR : Tup K mg "ROWED" [0, 4]) (hD : HasDesk P w K mg base C)
    (hA : Has P w K mg base CX0 8 "answer_of" nAnswer (spAnsOf C)) : FnOk P w K mg base CX0 9 f fd ["calls"] (spAnswers K) := by
  obtain ⟨gD, fI, fdI, mk, bI, GI⟩ := hD
  obtain ⟨fA, fdA, gA, kA, bA, GA⟩ := hA
  obtain ⟨aN, gN, tN⟩ := hN
  obtain ⟨aR, gR, tR⟩ := hR
  refine F.ok scAnswers (fun vs H Q E h => ?_) (fun cdv A outer s H vs Q E hr h => ?_)
  · obtain ⟨a, ns, rfl, _⟩ := h; rfl
  · have hr1 : Room 8 _ := hr
    refine ⟨_, pss_cons (ps_set (i := 1) scAnswers.nd rfl (Or.inl rfl) (pe_make0 mk GI (hr1.mono (by decide)) (by rfl) gD bI .nil pass0))
      (pss_cons (ps_held (ps_set (i := 2) scAnswers.nd rfl (Or.inl rfl) (pe_lst pa_nil)))
      (pss_cons (ps_set (i := 3) scAnswers.nd rfl (Or.inl rfl) pe_int)
      (pss_cons (ps_while PassesOwn.never (pt_cmpR op_lt (pv 3) (pe_callB call_len_seq (by rfl) T.len boot_len (pa_cons (pv 0) pa_nil)) (by rfl))
        (pss_cons (ps_set (i := 4) scAnswers.nd rfl (Or.inl rfl) (pe_ix ix_list (pv 0) (pv 3) (fun _ _ => rfl)))
        (pss_cons (ps_set (i := 5) scAnswers.nd rfl (Or.inl rfl) (pe_op op_add (pv 3) pe_int))
        (pss_cons (ps_set (i := 3) scAnswers.nd rfl (Or.inl rfl) (pe_op op_add (pv 5) (pe_ix ix_tup (pe_glob (v := .ref aN) (by rfl) gN rfl) (pv 4) (fun _ _ => rfl))))
        (pss_cons (ps_set (i := 6) scAnswers.nd rfl (Or.inl rfl) (pe_slice sl_list (pv 0) (po_some (pv 5)) (po_some (pv 3))))
        (pss_cons (ps_set (i := 7) scAnswers.nd rfl (Or.inl rfl) (pe_lst pa_nil))
        (pss_mid (ps_if (pt_cmpR op_in_seq (pv 4) (pe_glob (v := .ref aR) (by rfl) gR rfl) (by rfl))
          (pss_cons (ps_set (i := 7) scAnswers.nd rfl (Or.inl rfl) (pe_slice sl_list (pv 0) (po_some (pe_op op_add (pv 3) pe_int)) (po_some (pe_op op_add (pe_op op_add (pv 3) pe_int) (pe_ix ix_list (pv 0) (pv 3) (fun _ _ => rfl))))))
          (pss_one (ps_aug (i := 3) scAnswers.nd rfl (Or.inl rfl) (pe_op op_add pe_int (pe_callB call_len_seq (by rfl) T.len boot_len (pa_cons (pv 7) pa_nil))) ip_add))) pss_nil)
        (pss_cons (ps_set (i := 8) scAnswers.nd rfl (Or.inl rfl) (pe_call GA hr1 rfl gA kA bA .nil pass0 (pa_cons (pv 1) (pa_cons (pv 4) (pa_cons (pv 6) (pa_cons (pv 7) pa_nil))))))
        (pss_cons (ps_loose (ps_expr (pe_bm PySem.F.plainAttrs_list PySem.F.slot_list_append PySem.F.type_list_append mt_append (pv 2) (pa_cons (pe_callB call_len_seq (by rfl) T.len boot_len (pa_cons (pv 8) pa_nil)) pa_nil))))
        (pss_one (ps_held (ps_expr (pe_bm PySem.F.plainAttrs_list PySem.F.slot_list_extend PySem.F.type_list_extend mt_extend (pv 2) (pa_cons (pv 8) pa_nil))))))))))))))
      (pss_one (ps_ret (pv 2)))))), ?_⟩
    obtain ⟨a, ns, rfl, hs, hask, q⟩ := h
    obtain ⟨raw, el, pcs, ea, ez⟩ := Rt.asked_calls hask
    refine fun x dx nx ndx hne => ⟨x, dx, rfl, upd_same, fun H1 b1 d1 => ⟨rfl, ?_⟩⟩
    have s01 : Same H H1 := fun b o e => b1 b o (by rw [upd_ne (ne_of_none e nx), upd_ne (ne_of_none e ndx)]; exact e) (ne_of_none e nx)
    refine ⟨by show 0 ≤ sizeLine; decide, fun fo nfo => ⟨fo, [], upd_same, fun o => ?_⟩⟩
    have s12 : Same H1 (upd (upd H1 fo (.lst [])) fo (.frz o (.lst []))) := Same.mut (Same.new nfo) nfo
    have nf0 : H fo = none := Same.free s01 nfo
    have hf2 : upd (upd H1 fo (.lst [])) fo (.frz o (.lst [])) fo = some (.frz o (.lst [])) := upd_same
    have d2 := d1.same s12
    have k2 : Kp K (upd (upd H1 fo (.lst [])) fo (.frz o (.lst []))) a fo (vI ns) := (Kp.of hs nf0).same (s01.trans s12)
    generalize upd (upd H1 fo (.lst [])) fo (.frz o (.lst [])) = H2 at hf2 d2 k2 ⊢
    refine ⟨fun m σ H' => ∃ (pre rest : List (List (List Int))) (t : List Nat) (F : List Int) (o : Obj) (v4 v5 v6 v7 v8 : Option V), rest.length = m ∧ raw = pre ++ rest ∧ Rt.Valid t ∧ F ++ Rt.playedFrom t rest = PySu184.answers ns ∧
      σ = [some (.ref a), some (.ref x), some (.ref fo), some (.int (((pre.flatMap Rt.enc1).length : Nat) : Int)), v4, v5, v6, v7, v8] ∧ DeskAt C H' x t ∧ H' fo = some (.frz o (.lst (vI F))) ∧ Kp K H' a fo (vI ns),
      ⟨raw.length, [], raw, [], [], o, none, none, none, none, none, rfl, rfl, .inl rfl, ea.symm, rfl, d2, hf2, k2⟩, ?_⟩
    rintro m σ H' ⟨pre, rest, t, F, o, v4, v5, v6, v7, v8, rfl, er, hv, eF, rfl, hd, hf, hk⟩
    have en : ns = pre.flatMap Rt.enc1 ++ rest.flatMap Rt.enc1 := by rw [el, er, List.flatMap_append]
    refine ⟨_, rfl, _, rfl, a, _, rfl, .inl hk.seq, _, _, rfl, rfl, _, rfl, ?_⟩
    have lv : (vI ns).length = ns.length := List.length_map ..
    rw [lv]
    cases rest with
    | nil =>
      rw [decide_eq_false (by rw [en]; simp)]
      refine iteF ⟨_, rfl, q H' fo (.inr ⟨o, ?_⟩)⟩
      rw [hf, ← eF]
      rw [show Rt.playedFrom t [] = [] from rfl, List.append_nil]
    | cons c rest =>
      obtain ⟨sc, p, nums, row, hp⟩ := pcs c (by rw [er]; simp)
      have hne : 0 < (Rt.enc1 c).length := by
        rcases hp.enc with ⟨_, e⟩ | ⟨_, _, e⟩ <;> (rw [e]; simp)
      rw [decide_eq_true (by
        have l2 := congrArg List.length en
        rw [List.length_append, List.flatMap_cons, List.length_append] at l2
        omega)]
      refine iteT ⟨fun σ' H'' => ∃ (pre rest' : List (List (List Int))) (t : List Nat) (F : List Int) (o : Obj) (v4 v5 v6 v7 v8 : Option V), rest'.length = rest.length ∧ raw = pre ++ rest' ∧ Rt.Valid t ∧ F ++ Rt.playedFrom t rest' = PySu184.answers ns ∧
        σ' = [some (.ref a), some (.ref x), some (.ref fo), some (.int (((pre.flatMap Rt.enc1).length : Nat) : Int)), v4, v5, v6, v7, v8] ∧ DeskAt C H'' x t ∧ H'' fo = some (.frz o (.lst (vI F))) ∧ Kp K H'' a fo (vI ns), fun σ' H'' h => ⟨rest.length, by simp, h⟩, ?_⟩
      rw [List.flatMap_cons, ← List.append_assoc] at en
      generalize eA : pre.flatMap Rt.enc1 = A at en ⊢
      generalize rest.flatMap Rt.enc1 = B at en
      obtain ⟨tl, etl⟩ : ∃ tl, Rt.enc1 c = (p : Int) :: (nums ++ tl) := by
        rcases hp.enc with ⟨_, e⟩ | ⟨_, _, e⟩
        · exact ⟨(row.length : Int) :: row, by rw [e]; simp⟩
        · exact ⟨[], by rw [e]; simp⟩
      have h0 : (vI ns)[A.length]? = some (.int (p : Int)) := at_mid (A := A) (C := nums ++ tl ++ B) (by rw [en, etl]; simp) rfl
      have hn : (vI [0, 0, 0, 0, 0, 1, 2, 0, 0, 1, 1, 0])[p]? = some (.int (nums.length : Int)) := vN_get (l := Rt.numbersOf) hp.nl
      have c1 : cutV (vI ns) (some ((A.length : Int) + 1)) (some ((A.length : Int) + 1 + (nums.length : Int))) = vI nums := cut_mid (A := A ++ [(p : Int)]) (B := nums) (C := tl ++ B) (by rw [en, etl]; simp) (by simp) (by simp)
      refine ⟨_, rfl, _, rfl, a, _, _, .int (p : Int), rfl, rfl, hk.seq, atI_nat h0, ?_⟩
      refine ⟨_, rfl, _, _, rfl, rfl, ?_⟩
      refine ⟨_, rfl, _, rfl, aN, _, _, .int (nums.length : Int), rfl, rfl, tN _, atI_nat hn, _, _, rfl, rfl, ?_⟩
      refine ⟨_, rfl, _, rfl, _, rfl, _, rfl, _, rfl, a, _, rfl, hk.seq, fun p6 n6 => ?_⟩
      rw [c1]
      have s6 : Same H' (upd H' p6 (.lst (vI nums))) := Same.new n6
      have h6 : upd H' p6 (.lst (vI nums)) p6 = some (.lst (vI nums)) := upd_same
      have hd6 := hd.same s6
      have hf6 := s6 _ _ hf
      have hk6 := hk.same s6
      generalize upd H' p6 (.lst (vI nums)) = H6 at h6 hd6 hf6 hk6 ⊢
      refine ⟨by show 0 ≤ sizeLine; decide, fun p7 n7 => ?_⟩
      have s7 : Same H6 (upd H6 p7 (.lst [])) := Same.new n7
      have h7 : upd H6 p7 (.lst []) p7 = some (.lst []) := upd_same
      have h67 := s7 _ _ h6
      have hd7 := hd6.same s7
      have hf7 := s7 _ _ hf6
      have hk7 := hk6.same s7
      generalize upd H6 p7 (.lst []) = H7 at h7 h67 hd7 hf7 hk7 ⊢
      refine ⟨fun σ' H8 => ∃ rl, σ' = [some (.ref a), some (.ref x), some (.ref fo), some (.int ((A.length + (Rt.enc1 c).length : Nat) : Int)), some (.int (p : Int)), some (.int ((A.length : Int) + 1)), some (.ref p6), some (.ref rl), v8] ∧
        H8 rl = some (.lst (vI row)) ∧ H8 p6 = some (.lst (vI nums)) ∧ DeskAt C H8 x t ∧ H8 fo = some (.frz o (.lst (vI F))) ∧ Kp K H8 a fo (vI ns), ?_, ?_⟩
      · refine ⟨_, rfl, aR, _, rfl, .inr (tR _), rfl, rfl, _, rfl, ?_⟩
        show if inV (.int (p : Int)) (vI [0, 4]) = true then _ else _
        rw [in_rowed p hp.lt]
        rcases hp.enc with ⟨cp, e⟩ | ⟨cp, erow, e⟩
        · rw [decide_eq_true cp]
          have en2 : ns = A ++ (p : Int) :: nums ++ (row.length : Int) :: (row ++ B) := by rw [en, e]; simp
          have h1 : (vI ns)[A.length + 1 + nums.length]? = some (.int (row.length : Int)) := at_mid (A := A ++ (p : Int) :: nums) en2 (by simp; omega)
          have c2 : cutV (vI ns) (some ((A.length : Int) + 1 + (nums.length : Int) + 1)) (some ((A.length : Int) + 1 + (nums.length : Int) + 1 + (row.length : Int))) = vI row := cut_mid (A := A ++ (p : Int) :: nums ++ [(row.length : Int)]) (B := row) (C := B) (by rw [en2]; simp) (by simp; omega) (by simp; omega)
          have ei : (A.length : Int) + 1 + (nums.length : Int) = ((A.length + 1 + nums.length : Nat) : Int) := by omega
          refine iteT ⟨_, rfl, _, rfl, _, _, rfl, rfl, _, rfl, _, rfl, _, _, rfl, rfl, _, rfl, _, rfl, a, _, _, .int (row.length : Int), rfl, rfl, hk7.seq, (by rw [ei]; exact atI_nat h1), _, _, rfl, rfl, _, rfl, a, _, rfl, hk7.seq, fun p8 n8 => ?_⟩
          rw [c2]
          refine ⟨_, rfl, _, rfl, p8, _, rfl, .inl (SqL.of upd_same), _, _, rfl, rfl, _, _, rfl, rfl, p8, ?_, upd_same, (Same.new n8) _ _ h67, hd7.same (Same.new n8), (Same.new n8) _ _ hf7, hk7.same (Same.new n8)⟩
          have : (A.length : Int) + 1 + (nums.length : Int) + (1 + (((vI row).length : Nat) : Int)) = ((A.length + (Rt.enc1 c).length : Nat) : Int) := by
            rw [e, List.length_map]; simp; omega
          rw [← this]; rfl
        · rw [decide_eq_false (by omega)]
          refine iteF ⟨p7, ?_, by rw [erow]; exact h7, h67, hd7, hf7, hk7⟩
          have : (A.length : Int) + 1 + (nums.length : Int) = ((A.length + (Rt.enc1 c).length : Nat) : Int) := by
            rw [e]; simp; omega
          rw [← this]; rfl
      · rintro σ' H8 ⟨rl, rfl, h8, h68, hd8, hf8, hk8⟩
        obtain ⟨ev, hv'⟩ := step_valid hv hp.args
        have eP := Rt.played_cons (cs := rest) hp ev
        rw [eP] at eF
        refine ⟨_, rfl, _, rfl, _, rfl, _, rfl, x, p6, rl, t, sc, (p : Int), nums, row, rfl, ⟨h68, h8, hd8, hv, hp.args⟩, fun H9 p9 f9 d9 h9 => ?_⟩
        generalize (Su184.step (Rt.St2 t) sc).1.getD [] = t' at ev hv' eF d9
        generalize (Su184.step (Rt.St2 t) sc).2.value :: Rt.nts (Su184.step (Rt.St2 t) sc).2.out = out at eF h9
        have hf9 : H9 fo = some (.frz o (.lst (vI F))) := f9 _ _ hf8 (by
          obtain ⟨C', dx', fs', ei⟩ := hd8.ins
          exact ne_of hf8 ei fun z => by cases z) fun kvs z => by cases z
        have n9 : p9 ≠ fo := ne_of h9 hf9 fun z => by cases z
        have lz := congrArg List.length eF
        simp only [List.length_append, List.length_cons] at lz
        have l9 : (vI out).length = out.length := List.length_map ..
        have lF : (vI F).length = F.length := List.length_map ..
        refine ⟨fo, o, _, hf9, fun o u e => ?_, ?_⟩
        · have e' : H fo = some (.frz o u) := e
          rw [nf0] at e'; cases e'
        refine ⟨_, rfl, .inl ⟨rfl, _, SqL.of upd_same⟩, _, rfl, p9, _, rfl, .inl (SqL.of (by rw [upd_ne n9]; exact h9)), fo, _, _, rfl, rfl, upd_same, ?_, ?_⟩
        · exact Nat.lt_of_lt_of_le (show (vI F).length < 10000001 by omega) (by decide)
        refine ⟨_, rfl, .inl ⟨rfl, _, SqL.of upd_same⟩, _, rfl, fo, p9, _, _, rfl, rfl, upd_same, (by rw [upd_ne n9, upd_ne n9]; exact h9), ?_, fo, _, upd_same, fun o' => ?_⟩
        · exact Nat.le_trans (show (vI F ++ [V.int (((vI out).length : Nat) : Int)]).length + (vI out).length ≤ 10000000 by rw [List.length_append]; simp only [List.length_cons, List.length_nil]; omega) (by decide)
        rw [upd_upd, upd_upd, upd_upd]
        refine ⟨pre ++ [c], rest, t', F ++ (out.length : Int) :: out, o', some (.int (p : Int)), some (.int ((A.length : Int) + 1)), some (.ref p6), some (.ref rl), some (.ref p9), rfl, by rw [er]; simp, hv', by rw [← eF]; simp, ?_, d9.off hf9, ?_, (hk8.fr f9 hd8.ins).mut⟩
        · have ep : (List.flatMap Rt.enc1 (pre ++ [c])).length = A.length + (Rt.enc1 c).length := by rw [List.flatMap_append, eA, List.length_append]; simp
          rw [ep]; rfl
        · rw [upd_same, l9]
          unfold vI
          simp
end
end Rw

set_option maxRecDepth 100000
set_option maxHeartbeats 8000000
/-! # The end: all defs together -/
namespace Rw
open PySem PySem.Spec PyProof.Rows L2
/-- a def of the program, as the top has written it -/
def HasFun (K : PySem.W.Frag) (mg : Str → Option Value) (x : Str) (st : Stmt) : Prop := ∃ (f : Addr) (fd : FuncData), mg x = some (.ref f) ∧ PySem.W.keepIn K (.ref f) = true ∧ Fun K x x st f fd
/-- a class with its own __init__ -/
def HasCls (K : PySem.W.Frag) (mg : Str → Option Value) (x qual : Str) (C : Addr) (st : Stmt) : Prop := mg x = some (.ref C) ∧ ∃ (f : Addr) (fd : FuncData), Mk K C f ∧ Fun K "__init__" qual st f fd
section
variable {K : PySem.W.Frag} {h : Heap} {mg : Str → Option Value}
theorem fun_of {x : Str} {st : Stmt} {f : Addr} {od an : Option Addr} {sl : Array (Option Value)} {oc kV dc pm cd ct : Value} (X : K.In h) (G : h.Ns mainGlobals mg)
    (a : PySem.W.nsIn K mainGlobals x = some (some (.ref f))) (l : K.lookup f = some ⟨oc, od, .func (PySem.W.fnOf x x (defArgs st) (defBody st) (defScope st) .none kV dc pm an cd ct), sl⟩) (c : PySem.W.codeIn K cd x = true) (k : PySem.W.keepIn K (.ref f) = true) : HasFun K mg x st :=
  ⟨f, _, PySem.W.mg_of X G a, k, fun_mk l c k⟩
theorem line_of' {C f : Addr} {od an : Option Addr} {sl : Array (Option Value)} {oc kV dc pm cd ct : Value} (X : K.In h) (G : h.Ns mainGlobals mg)
    (aC : PySem.W.nsIn K mainGlobals "Line" = some (some (.ref C)))
    (a1 : PySem.W.findIn K (.ref C) "__init__" = some (some (.ref f))) (i1 : PySem.W.isFn K (.ref f) = true) (l1 : K.lookup f = some ⟨oc, od, .func (PySem.W.fnOf "__init__" "Line.__init__" (defArgs sLineInit) (defBody sLineInit) (defScope sLineInit) .none kV dc pm an cd ct), sl⟩) (c1 : PySem.W.codeIn K cd "Line.__init__" = true) (k1 : PySem.W.keepIn K (.ref f) = true)
    (pg : PySem.W.plainGet K C Str.empty = true) (hd : PySem.W.hasDictIn K C = true) (po : PySem.W.plainOver K C = true) (sa : PySem.W.findIn K (.ref C) "__setattr__" = some (some (.builtin "object.__setattr__"))) (mk : PySem.W.makesIn K C = true) (kc : PySem.W.keepIn K (.ref C) = true)
    (n1 : PySem.W.findIn K (.ref C) "steep" = some none) (n2 : PySem.W.findIn K (.ref C) "lift" = some none) (n3 : PySem.W.findIn K (.ref C) "onto" = some none) :
    ∃ C, LineTxt K C ∧ HasCls K mg "Line" "Line.__init__" C sLineInit :=
  ⟨C, ⟨⟨pg, hd, po, sa⟩, n1, n2, n3⟩, PySem.W.mg_of X G aC, f, _, ⟨mk, a1, i1, kc⟩, fun_mk l1 c1 k1⟩
theorem desk_of' {C f : Addr} {od an : Option Addr} {sl : Array (Option Value)} {oc kV dc pm cd ct : Value} (X : K.In h) (G : h.Ns mainGlobals mg)
    (aC : PySem.W.nsIn K mainGlobals "Desk" = some (some (.ref C)))
    (a1 : PySem.W.findIn K (.ref C) "__init__" = some (some (.ref f))) (i1 : PySem.W.isFn K (.ref f) = true) (l1 : K.lookup f = some ⟨oc, od, .func (PySem.W.fnOf "__init__" "Desk.__init__" (defArgs sDeskInit) (defBody sDeskInit) (defScope sDeskInit) .none kV dc pm an cd ct), sl⟩) (c1 : PySem.W.codeIn K cd "Desk.__init__" = true) (k1 : PySem.W.keepIn K (.ref f) = true)
    (pg : PySem.W.plainGet K C Str.empty = true) (hd : PySem.W.hasDictIn K C = true) (po : PySem.W.plainOver K C = true) (sa : PySem.W.findIn K (.ref C) "__setattr__" = some (some (.builtin "object.__setattr__"))) (mk : PySem.W.makesIn K C = true) (kc : PySem.W.keepIn K (.ref C) = true)
    (n1 : PySem.W.findIn K (.ref C) "row" = some none) (n2 : PySem.W.findIn K (.ref C) "known" = some none) :
    ∃ C, DeskTxt K C ∧ HasCls K mg "Desk" "Desk.__init__" C sDeskInit :=
  ⟨C, ⟨⟨pg, hd, po, sa⟩, n1, n2⟩, PySem.W.mg_of X G aC, f, _, ⟨mk, a1, i1, kc⟩, fun_mk l1 c1 k1⟩
theorem low_of {C f1 : Addr} {nm q : Str} {N : Addr} {bs : List Value} {sn : List Str} {sub : List Value} {ab : Bool} {col : Option Bool} {dd : Option Addr} {m0 m1 m2 m3 m5 : Option Value}
    {od1 an1 : Option Addr} {sl1 : Array (Option Value)} {oc1 dc1 pm1 cd1 ct1 : Value} (X : K.In h) (G : h.Ns mainGlobals mg)
    (aC : PySem.W.nsIn K mainGlobals "Refused" = some (some (.ref C)))
    (xL : K.lookup C = some (excClassObj nm q C N bs [.type "ValueError", .type "Exception", .type "BaseException", .type "object"] true sn sub ab col dd m0 m1 m2 m3 m5 "ValueError.__new__"))
    (sa : PySem.W.findIn K (.ref C) "__setattr__" = some (some (.builtin "object.__setattr__"))) (ga : PySem.W.findIn K (.ref C) "__getattribute__" = some (some (.builtin "BaseException.__getattribute__"))) (gg : PySem.W.findIn K (.ref C) "__getattr__" = some none) (nb : PySem.W.findIn K (.ref C) "number" = some none)
    (a1 : PySem.W.findIn K (.ref C) "__init__" = some (some (.ref f1))) (t1 : PySem.W.typeIn K (.ref f1) = some (.type "function"))
    (l1 : K.lookup f1 = some ⟨oc1, od1, .func (PySem.W.fnOf "__init__" "Refused.__init__" (PySem.LowX.iA ⟨110, 17, 110, 21⟩ ⟨110, 23, 110, 29⟩) (PySem.LowX.iB ⟨111, 8, 111, 12⟩ ⟨111, 8, 111, 19⟩ ⟨111, 22, 111, 28⟩ ⟨111, 8, 111, 28⟩) PySem.LowX.iS .none .none dc1 pm1 an1 cd1 ct1), sl1⟩) (c1 : PySem.W.codeIn K cd1 "Refused.__init__" = true)
    (kC : PySem.W.keepIn K (.ref C) = true) (eC : PySem.W.subIn K (.ref C) (.type "BaseException") = some true) (tC : PySem.W.typeIn K (.ref C) = some (.type "type")) (hC : PySem.W.hasDictIn K C = true) (iC : PySem.W.isClsIn K C = true) (sC : PySem.W.subIn K (.ref C) (.ref C) = some true) :
    ∃ CR fI, PySem.LowX.LowTxt K mg CR fI :=
  ⟨C, f1, { gC := PySem.W.mg_of X G aC, cls := ⟨nm, q, N, bs, _, sn, sub, ab, col, dd, m0, m1, m2, m3, m5, xL, by decide +kernel⟩, sa := sa, ga := ga, gg := gg, noN := nb, iC := a1, tC := t1, kC := kC, exC := eC, tyC := tC, hdC := hC, te := exm_self eC iC tC sC,
            fn := ⟨_, _, _, _, _, _, _, _, _, _, _, _, _, _, l1, c1⟩ }⟩
theorem num_of {x : Str} {n : Int} {t : Nat} (X : K.In h) (G : h.Ns mainGlobals mg) (a : PySem.W.nsIn K mainGlobals x = some (some (.int n t))) : Num mg x n := ⟨t, PySem.W.mg_of X G a⟩
theorem tup_of {x : Str} {ns : List Int} {a : Addr} {od : Option Addr} {its : Array Value} {n : Nat} {sl : Array (Option Value)} (X : K.In h) (G : h.Ns mainGlobals mg) (e : PySem.W.nsIn K mainGlobals x = some (some (.ref a)))
    (l : K.lookup a = some ⟨.type "tuple", od, .seq its n, sl⟩) (hz : its.size ≤ 1000) (hv : Vals (vI ns) its.toList) : Tup K mg x ns :=
  ⟨a, PySem.W.mg_of X G e, fun H => .inr ⟨_, its, n, l, rfl, rfl, Nat.le_trans hz (by decide), hv⟩⟩
theorem blt_of (X : K.In h) (G : h.Ns mainGlobals mg) (z1 : PySem.W.nsIn K mainGlobals "len" = some none) (z2 : PySem.W.nsIn K mainGlobals "sorted" = some none) (z3 : PySem.W.nsIn K mainGlobals "list" = some none) (z4 : PySem.W.nsIn K mainGlobals "range" = some none) (z5 : PySem.W.nsIn K mainGlobals "tuple" = some none)
    (z6 : PySem.W.nsIn K mainGlobals "enumerate" = some none) (z7 : PySem.W.nsIn K mainGlobals "min" = some none) (z8 : PySem.W.nsIn K mainGlobals "max" = some none) (z9 : PySem.W.nsIn K mainGlobals "set" = some none) (z0 : PySem.W.nsIn K mainGlobals "int" = some none) : Blt mg :=
  ⟨PySem.W.mg_none_of X G z1, PySem.W.mg_none_of X G z2, PySem.W.mg_none_of X G z3, PySem.W.mg_none_of X G z4, PySem.W.mg_none_of X G z5, PySem.W.mg_none_of X G z6, PySem.W.mg_none_of X G z7, PySem.W.mg_none_of X G z8, PySem.W.mg_none_of X G z9, PySem.W.mg_none_of X G z0⟩
end
section
variable {P : Program} {w : World} {K : PySem.W.Frag} {mg : Str → Option Value}
theorem Has.of {base : Heap} {CX : CXT} {k : Nat} {x : Str} {st : Stmt} {ps : List Str} {sp : Sp} (F : HasFun K mg x st) (ok : ∀ f fd, Fun K x x st f fd → FnOk P w K mg base CX k f fd ps sp)
    (b : ∀ (kV doc pm : Value) (an : Option Addr) (cdv ct : Value) (us : List Value), us.length = ps.length → bindArgs (PySem.W.fnOf x x (defArgs st) (defBody st) (defScope st) .none kV doc pm an cdv ct) ⟨us, []⟩ = pure (ps.zip us)) : Has P w K mg base CX k x ps sp := by
  obtain ⟨f, fd, g, kp, F⟩ := F
  exact ⟨f, fd, g, kp, F.binds b, ok f fd F⟩
theorem all_ok {fa : Addr} (hfa : mg "answers" = some (.ref fa)) (T : Blt mg) (N : Nums mg) (G : Tags mg) (hNU : Tup K mg "NUMBERS" [0, 0, 0, 0, 0, 1, 2, 0, 0, 1, 1, 0]) (hRO : Tup K mg "ROWED" [0, 4])
    (hR : ∃ CR fI, PySem.LowX.LowTxt K mg CR fI) (hLi : ∃ C, LineTxt K C ∧ HasCls K mg "Line" "Line.__init__" C sLineInit) (hDe : ∃ C, DeskTxt K C ∧ HasCls K mg "Desk" "Desk.__init__" C sDeskInit)
    (f1 : HasFun K mg "is_type" sIsType) (f2 : HasFun K mg "begun_at" sBegun) (f3 : HasFun K mg "turned" sTurned) (f4 : HasFun K mg "doubled" sDoubled) (f5 : HasFun K mg "all_types" sAll) (f6 : HasFun K mg "line_of" sLineOf) (f7 : HasFun K mg "type_of" sTypeOf)
    (f11 : HasFun K mg "ways_of" sWays) (f12 : HasFun K mg "place_of" sPlace) (f13 : HasFun K mg "places_along" sPlaces) (f14 : HasFun K mg "types_brought" sTypesB) (f15 : HasFun K mg "does_bring" sDoes) (f16 : HasFun K mg "is_alone" sAlone)
    (f40 : HasFun K mg "need" sNeed) (f41 : HasFun K mg "put" sPut) (f42 : HasFun K mg "shown" sShown) (f43 : HasFun K mg "take" sTake) (f44 : HasFun K mg "turn" sTurn) (f45 : HasFun K mg "double" sDouble) (f46 : HasFun K mg "brought" sBrought) (f47 : HasFun K mg "brings" sBrings) (f48 : HasFun K mg "need_steps" sNeedS)
    (f49 : HasFun K mg "types" sTypes) (f50 : HasFun K mg "nth" sNth) (f51 : HasFun K mg "steps" sSteps) (f52 : HasFun K mg "alone" sAloneC) (f53 : HasFun K mg "by" sBy) (f54 : HasFun K mg "first" sFirst) (f55 : HasFun K mg "answer" sAnswer) (f56 : HasFun K mg "answer_of" sAnsOf) (f57 : HasFun K mg "answers" sAnswers) :
    ∃ fd : FuncData, (∀ (s : Shared) (us : List Value), us.length = (["calls"] : List Str).length → BindsTo s fd ⟨us, []⟩ ((["calls"] : List Str).zip us)) ∧ ∀ base : Heap, K.In base → base.Ns mainGlobals mg → FnOk P w K mg base CX0 9 fa fd ["calls"] (spAnswers K) := by
  obtain ⟨CR, fI, TL⟩ := hR
  obtain ⟨CL, TLn, gL, fL, fdL, mkL, FL⟩ := hLi
  obtain ⟨CD, TD, gD, fD, fdD, mkD, FD⟩ := hDe
  obtain ⟨f, fd, g, kp, FA⟩ := f57
  cases hfa.symm.trans g
  have bL : L2.Binds K fdL ["self", "row"] [] := FL.binds fun _ _ _ _ _ _ us hl => match us, hl with | [_, _], _ => rfl
  have bD : L2.Binds K fdD ["self"] [] := FD.binds fun _ _ _ _ _ _ us hl => match us, hl with | [_], _ => rfl
  refine ⟨fd, fun s us hu => ?_, fun base _ _ => ?_⟩
  · obtain ⟨oc, od, kV, dc, pm, an, cd, ct, sl, rfl, _, _⟩ := FA.ex
    match us, hu with
    | [_], _ => exact .of_eq rfl
  · have hBegun : Has P w K mg base CX0 1 "begun_at" ["row", "least"] spBegun := Has.of f2 (fun _ _ F => ok_begun F) fun _ _ _ _ _ _ us hl => match us, hl with | [_, _], _ => rfl
    have hTurned : Has P w K mg base CX0 2 "turned" ["row"] (spTurned K) := Has.of f3 (fun _ _ F => ok_turned F T hBegun) fun _ _ _ _ _ _ us hl => match us, hl with | [_], _ => rfl
    have hDoubled : Has P w K mg base CX0 1 "doubled" ["row"] (spDoubled K) := Has.of f4 (fun _ _ F => ok_doubled F T) fun _ _ _ _ _ _ us hl => match us, hl with | [_], _ => rfl
    have hTypeOf : Has P w K mg base CX0 2 "type_of" ["places"] (spTypeOf K) := Has.of f7 (fun _ _ F => ok_typeOf F T hBegun) fun _ _ _ _ _ _ us hl => match us, hl with | [_], _ => rfl
    have hIsType : Has P w K mg base CX0 1 "is_type" ["row", "most"] (spIsType K) := Has.of f1 (fun _ _ F => ok_isType F T) fun _ _ _ _ _ _ us hl => match us, hl with | [_, _], _ => rfl
    have hLineOf : Has P w K mg base CX0 1 "line_of" ["row"] (spLineOf K) := Has.of f6 (fun _ _ F => ok_lineOf F T) fun _ _ _ _ _ _ us hl => match us, hl with | [_], _ => rfl
    have hAll : Has P w K mg base CX0 1 "all_types" ["steps"] spAll := Has.of f5 (fun _ _ F => ok_all F T) fun _ _ _ _ _ _ us hl => match us, hl with | [_], _ => rfl
    have hLine : HasLine P w K mg base CL := ⟨gL, fL, fdL, mkL, bL, ok_lineInit FL T TLn hLineOf⟩
    have hWays : Has P w K mg base CX0 1 "ways_of" ["line", "steps"] (spWays CL) := Has.of f11 (fun _ _ F => ok_ways F T TLn) fun _ _ _ _ _ _ us hl => match us, hl with | [_, _], _ => rfl
    have hPlace : Has P w K mg base CX0 1 "place_of" ["line", "way"] (spPlace CL) := Has.of f12 (fun _ _ F => ok_place F TLn) fun _ _ _ _ _ _ us hl => match us, hl with | [_, _], _ => rfl
    have hPlaces : Has P w K mg base CX0 2 "places_along" ["line", "way"] (spPlaces CL) := Has.of f13 (fun _ _ F => ok_places F TLn hPlace) fun _ _ _ _ _ _ us hl => match us, hl with | [_, _], _ => rfl
    have hTypesB : Has P w K mg base CX0 4 "types_brought" ["row", "steps"] spTypesB := Has.of f14 (fun _ _ F => ok_typesB F T TLn hLine hWays hPlaces hTypeOf) fun _ _ _ _ _ _ us hl => match us, hl with | [_, _], _ => rfl
    have hDoes : Has P w K mg base CX0 5 "does_bring" ["row", "other"] spDoes := Has.of f15 (fun _ _ F => ok_does F T hTypesB) fun _ _ _ _ _ _ us hl => match us, hl with | [_, _], _ => rfl
    have hAlone : Has P w K mg base CX0 5 "is_alone" ["row"] spAlone := Has.of f16 (fun _ _ F => ok_alone F T hTypesB) fun _ _ _ _ _ _ us hl => match us, hl with | [_], _ => rfl
    have hDesk : HasDesk P w K mg base CD := ⟨gD, fD, fdD, mkD, bD, ok_deskInit FD TD⟩
    have hNeed : HasNeed P w K mg base CR := Has.of f40 (fun _ _ F => ok_need F TL) fun _ _ _ _ _ _ us hl => match us, hl with | [_, _], _ => rfl
    have hPut : Has P w K mg base CX0 1 "put" ["desk", "row"] (spPut CD) := Has.of f41 (fun _ _ F => ok_put F TD) fun _ _ _ _ _ _ us hl => match us, hl with | [_, _], _ => rfl
    have hShown : Has P w K mg base CX0 1 "shown" ["row"] (spShown K) := Has.of f42 (fun _ _ F => ok_shown F T) fun _ _ _ _ _ _ us hl => match us, hl with | [_], _ => rfl
    have hBrought : Has P w K mg base CX0 5 "brought" ["desk", "steps"] (spBrought CD) := Has.of f46 (fun _ _ F => ok_brought F TD hTypesB) fun _ _ _ _ _ _ us hl => match us, hl with | [_, _], _ => rfl
    have hTake : Has P w K mg base (L2.CX P w) 4 "take" ["desk", "row"] (spTake CD CR) := Has.of f43 (fun _ _ F => ok_take F T N hNeed hIsType hPut) fun _ _ _ _ _ _ us hl => match us, hl with | [_, _], _ => rfl
    have hTurn : Has P w K mg base CX0 3 "turn" ["desk"] (spTurn CD) := Has.of f44 (fun _ _ F => ok_turn F TD hTurned hPut hShown) fun _ _ _ _ _ _ us hl => match us, hl with | [_], _ => rfl
    have hDouble : Has P w K mg base (L2.CX P w) 4 "double" ["desk"] (spDouble CD CR) := Has.of f45 (fun _ _ F => ok_double F T N TD hNeed hDoubled hPut hShown) fun _ _ _ _ _ _ us hl => match us, hl with | [_], _ => rfl
    have hBrings : Has P w K mg base (L2.CX P w) 6 "brings" ["desk", "row"] (spBrings CD CR) := Has.of f47 (fun _ _ F => ok_brings F T N hNeed hIsType hBrought) fun _ _ _ _ _ _ us hl => match us, hl with | [_, _], _ => rfl
    have hNeedS : HasNeedS P w K mg base CR := Has.of f48 (fun _ _ F => ok_needS F N hNeed) fun _ _ _ _ _ _ us hl => match us, hl with | [_], _ => rfl
    have hTypes : Has P w K mg base (L2.CX P w) 6 "types" ["desk", "j"] (spTypes CD CR) := Has.of f49 (fun _ _ F => ok_types F T hNeedS hBrought) fun _ _ _ _ _ _ us hl => match us, hl with | [_, _], _ => rfl
    have hNth : Has P w K mg base (L2.CX P w) 6 "nth" ["desk", "j", "i"] (spNth CD CR) := Has.of f50 (fun _ _ F => ok_nth F T N hNeed hNeedS hBrought hShown) fun _ _ _ _ _ _ us hl => match us, hl with | [_, _, _], _ => rfl
    have hSteps : Has P w K mg base CX0 6 "steps" ["desk"] (spSteps CD) := Has.of f51 (fun _ _ F => ok_steps F T N hBrought) fun _ _ _ _ _ _ us hl => match us, hl with | [_], _ => rfl
    have hAloneC : Has P w K mg base (L2.CX P w) 6 "alone" ["desk"] (spAloneC CD CR) := Has.of f52 (fun _ _ F => ok_aloneC F T N TD hNeed hBrought) fun _ _ _ _ _ _ us hl => match us, hl with | [_], _ => rfl
    have hBy : Has P w K mg base (L2.CX P w) 6 "by" ["desk", "k"] (spBy CD CR) := Has.of f53 (fun _ _ F => ok_by F T N TD hNeed hAll hDoes) fun _ _ _ _ _ _ us hl => match us, hl with | [_, _], _ => rfl
    have hFirst : Has P w K mg base (L2.CX P w) 6 "first" ["k"] (spFirst CR) := Has.of f54 (fun _ _ F => ok_first F T N hNeed hAll hAlone) fun _ _ _ _ _ _ us hl => match us, hl with | [_], _ => rfl
    have hAnswer : Has P w K mg base (L2.CX P w) 7 "answer" nAnswer (spAnswer CD CR) := Has.of f55 (fun _ _ F => ok_answer F T N G TD hNeed hTake hLineOf hTurn hDouble hBrings hTypes hNth hSteps hAloneC hBy hFirst hShown) fun _ _ _ _ _ _ us hl => match us, hl with | [_, _, _, _], _ => rfl
    have hAnsOf : Has P w K mg base CX0 8 "answer_of" nAnswer (spAnsOf CD) := Has.of f56 (fun _ _ F => ok_ansOf F TL hAnswer) fun _ _ _ _ _ _ us hl => match us, hl with | [_, _, _, _], _ => rfl
    exact ok_answers FA T hNU hRO hDesk hAnsOf
end
end Rw

/-! # The law -/
open PySem PySem.W PyProof.Rows
set_option maxRecDepth 100000 in
set_option maxHeartbeats 0 in
theorem PySem.Challenge.cw_roundtypes_s01_answers_holds : PySem.Challenge.rw_roundtypes_s01_answers.Holds := by
  w_on; k_headS; (case hw => exact ⟨[.list [.int 1]], by decide +kernel, by decide +kernel⟩)
  k_fillS
  refine L2.walk_specK (r := PySem.Challenge.rw_roundtypes_s01_answers) (k := 9) (CX := L2.CX0) (ps := ["calls"]) (sp := Rw.spAnswers) (by decide +kernel) rfl rfl ⟨rfl, by decide, by decide⟩ (fun w h Y => PySem.W.kIn_of Y) ?F ?S (fun _ _ _ _ z => z)
  case F =>
    intro w mg fa h Y KX G hmg
    refine' Rw.all_ok hmg ?zzT ?zzN ?zzG ?zzNU ?zzRO ?zzR ?zzLi ?zzDe ?zzf1 ?zzf2 ?zzf3 ?zzf4 ?zzf5 ?zzf6 ?zzf7 ?zzf11 ?zzf12 ?zzf13 ?zzf14 ?zzf15 ?zzf16 ?zzf40 ?zzf41 ?zzf42 ?zzf43 ?zzf44 ?zzf45 ?zzf46 ?zzf47 ?zzf48 ?zzf49 ?zzf50 ?zzf51 ?zzf52 ?zzf53 ?zzf54 ?zzf55 ?zzf56 ?zzf57
    case zzT => (refine' Rw.blt_of KX G ?zzb0 ?zzb1 ?zzb2 ?zzb3 ?zzb4 ?zzb5 ?zzb6 ?zzb7 ?zzb8 ?zzb9; (case zzb0 => k_is); (case zzb1 => k_is); (case zzb2 => k_is); (case zzb3 => k_is); (case zzb4 => k_is); (case zzb5 => k_is); (case zzb6 => k_is); (case zzb7 => k_is); (case zzb8 => k_is); (case zzb9 => k_is))
    case zzN => (refine' ⟨Rw.num_of KX G ?zzn0, Rw.num_of KX G ?zzn1, Rw.num_of KX G ?zzn2, Rw.num_of KX G ?zzn3, Rw.num_of KX G ?zzn4, Rw.num_of KX G ?zzn5, Rw.num_of KX G ?zzn6, Rw.num_of KX G ?zzn7⟩; (case zzn0 => k_is); (case zzn1 => k_is); (case zzn2 => k_is); (case zzn3 => k_is); (case zzn4 => k_is); (case zzn5 => k_is); (case zzn6 => k_is); (case zzn7 => k_is))
    case zzG => (refine' ⟨Rw.num_of KX G ?zzt0, Rw.num_of KX G ?zzt1, Rw.num_of KX G ?zzt2, Rw.num_of KX G ?zzt3, Rw.num_of KX G ?zzt4, Rw.num_of KX G ?zzt5, Rw.num_of KX G ?zzt6, Rw.num_of KX G ?zzt7, Rw.num_of KX G ?zzt8, Rw.num_of KX G ?zzt9, Rw.num_of KX G ?zzt10⟩; (case zzt0 => k_is); (case zzt1 => k_is); (case zzt2 => k_is); (case zzt3 => k_is); (case zzt4 => k_is); (case zzt5 => k_is); (case zzt6 => k_is); (case zzt7 => k_is); (case zzt8 => k_is); (case zzt9 => k_is); (case zzt10 => k_is))
    case zzNU => (refine' Rw.tup_of KX G ?zue ?zul ?zuh ?zuv; (case zue => k_is); (case zul => k_is); (case zuh => decide); (case zuv => exact .cons ⟨_, rfl⟩ (.cons ⟨_, rfl⟩ (.cons ⟨_, rfl⟩ (.cons ⟨_, rfl⟩ (.cons ⟨_, rfl⟩ (.cons ⟨_, rfl⟩ (.cons ⟨_, rfl⟩ (.cons ⟨_, rfl⟩ (.cons ⟨_, rfl⟩ (.cons ⟨_, rfl⟩ (.cons ⟨_, rfl⟩ (.cons ⟨_, rfl⟩ (.nil))))))))))))))
    case zzRO => (refine' Rw.tup_of KX G ?zre ?zrl ?zrh ?zrv; (case zre => k_is); (case zrl => k_is); (case zrh => decide); (case zrv => exact .cons ⟨_, rfl⟩ (.cons ⟨_, rfl⟩ (.nil))))
    case zzR => (refine' Rw.low_of KX G ?zlowaC ?zlowxL ?zlowsa ?zlowga ?zlowgg ?zlownb ?zlowa1 ?zlowt1 ?zlowl1 ?zlowc1 ?zlowkC ?zloweC ?zlowtC ?zlowhC ?zlowiC ?zlowsC; (case zlowaC => k_is); (case zlowxL => k_is); (case zlowsa => k_is); (case zlowga => k_is); (case zlowgg => k_is); (case zlownb => k_is); (case zlowa1 => k_is); (case zlowt1 => k_is); (case zlowl1 => k_is); (case zlowc1 => k_is); (case zlowkC => k_is); (case zloweC => k_is); (case zlowtC => k_is); (case zlowhC => k_is); (case zlowiC => k_is); (case zlowsC => first | rfl | k_is))
    case zzLi => (refine' Rw.line_of' KX G ?zliaC ?zlia1 ?zlii1 ?zlil1 ?zlic1 ?zlik1 ?zlipg ?zlihd ?zlipo ?zlisa ?zlimk ?zlikc ?zlin1 ?zlin2 ?zlin3; (case zliaC => k_is); (case zlia1 => k_is); (case zlii1 => k_is); (case zlil1 => k_is); (case zlic1 => k_is); (case zlik1 => k_is); (case zlipg => k_is); (case zlihd => k_is); (case zlipo => k_is); (case zlisa => k_is); (case zlimk => k_is); (case zlikc => k_is); (case zlin1 => k_is); (case zlin2 => k_is); (case zlin3 => k_is))
    case zzDe => (refine' Rw.desk_of' KX G ?zdeaC ?zdea1 ?zdei1 ?zdel1 ?zdec1 ?zdek1 ?zdepg ?zdehd ?zdepo ?zdesa ?zdemk ?zdekc ?zden1 ?zden2; (case zdeaC => k_is); (case zdea1 => k_is); (case zdei1 => k_is); (case zdel1 => k_is); (case zdec1 => k_is); (case zdek1 => k_is); (case zdepg => k_is); (case zdehd => k_is); (case zdepo => k_is); (case zdesa => k_is); (case zdemk => k_is); (case zdekc => k_is); (case zden1 => k_is); (case zden2 => k_is))
    case zzf1 => (refine' Rw.fun_of KX G ?za1 ?zl1 ?zc1 ?zk1; (case za1 => k_is); (case zl1 => k_is); (case zc1 => k_is); (case zk1 => k_is))
    case zzf2 => (refine' Rw.fun_of KX G ?za2 ?zl2 ?zc2 ?zk2; (case za2 => k_is); (case zl2 => k_is); (case zc2 => k_is); (case zk2 => k_is))
    case zzf3 => (refine' Rw.fun_of KX G ?za3 ?zl3 ?zc3 ?zk3; (case za3 => k_is); (case zl3 => k_is); (case zc3 => k_is); (case zk3 => k_is))
    case zzf4 => (refine' Rw.fun_of KX G ?za4 ?zl4 ?zc4 ?zk4; (case za4 => k_is); (case zl4 => k_is); (case zc4 => k_is); (case zk4 => k_is))
    case zzf5 => (refine' Rw.fun_of KX G ?za5 ?zl5 ?zc5 ?zk5; (case za5 => k_is); (case zl5 => k_is); (case zc5 => k_is); (case zk5 => k_is))
    case zzf6 => (refine' Rw.fun_of KX G ?za6 ?zl6 ?zc6 ?zk6; (case za6 => k_is); (case zl6 => k_is); (case zc6 => k_is); (case zk6 => k_is))
    case zzf7 => (refine' Rw.fun_of KX G ?za7 ?zl7 ?zc7 ?zk7; (case za7 => k_is); (case zl7 => k_is); (case zc7 => k_is); (case zk7 => k_is))
    case zzf11 => (refine' Rw.fun_of KX G ?za11 ?zl11 ?zc11 ?zk11; (case za11 => k_is); (case zl11 => k_is); (case zc11 => k_is); (case zk11 => k_is))
    case zzf12 => (refine' Rw.fun_of KX G ?za12 ?zl12 ?zc12 ?zk12; (case za12 => k_is); (case zl12 => k_is); (case zc12 => k_is); (case zk12 => k_is))
    case zzf13 => (refine' Rw.fun_of KX G ?za13 ?zl13 ?zc13 ?zk13; (case za13 => k_is); (case zl13 => k_is); (case zc13 => k_is); (case zk13 => k_is))
    case zzf14 => (refine' Rw.fun_of KX G ?za14 ?zl14 ?zc14 ?zk14; (case za14 => k_is); (case zl14 => k_is); (case zc14 => k_is); (case zk14 => k_is))
    case zzf15 => (refine' Rw.fun_of KX G ?za15 ?zl15 ?zc15 ?zk15; (case za15 => k_is); (case zl15 => k_is); (case zc15 => k_is); (case zk15 => k_is))
    case zzf16 => (refine' Rw.fun_of KX G ?za16 ?zl16 ?zc16 ?zk16; (case za16 => k_is); (case zl16 => k_is); (case zc16 => k_is); (case zk16 => k_is))
    case zzf40 => (refine' Rw.fun_of KX G ?za40 ?zl40 ?zc40 ?zk40; (case za40 => k_is); (case zl40 => k_is); (case zc40 => k_is); (case zk40 => k_is))
    case zzf41 => (refine' Rw.fun_of KX G ?za41 ?zl41 ?zc41 ?zk41; (case za41 => k_is); (case zl41 => k_is); (case zc41 => k_is); (case zk41 => k_is))
    case zzf42 => (refine' Rw.fun_of KX G ?za42 ?zl42 ?zc42 ?zk42; (case za42 => k_is); (case zl42 => k_is); (case zc42 => k_is); (case zk42 => k_is))
    case zzf43 => (refine' Rw.fun_of KX G ?za43 ?zl43 ?zc43 ?zk43; (case za43 => k_is); (case zl43 => k_is); (case zc43 => k_is); (case zk43 => k_is))
    case zzf44 => (refine' Rw.fun_of KX G ?za44 ?zl44 ?zc44 ?zk44; (case za44 => k_is); (case zl44 => k_is); (case zc44 => k_is); (case zk44 => k_is))
    case zzf45 => (refine' Rw.fun_of KX G ?za45 ?zl45 ?zc45 ?zk45; (case za45 => k_is); (case zl45 => k_is); (case zc45 => k_is); (case zk45 => k_is))
    case zzf46 => (refine' Rw.fun_of KX G ?za46 ?zl46 ?zc46 ?zk46; (case za46 => k_is); (case zl46 => k_is); (case zc46 => k_is); (case zk46 => k_is))
    case zzf47 => (refine' Rw.fun_of KX G ?za47 ?zl47 ?zc47 ?zk47; (case za47 => k_is); (case zl47 => k_is); (case zc47 => k_is); (case zk47 => k_is))
    case zzf48 => (refine' Rw.fun_of KX G ?za48 ?zl48 ?zc48 ?zk48; (case za48 => k_is); (case zl48 => k_is); (case zc48 => k_is); (case zk48 => k_is))
    case zzf49 => (refine' Rw.fun_of KX G ?za49 ?zl49 ?zc49 ?zk49; (case za49 => k_is); (case zl49 => k_is); (case zc49 => k_is); (case zk49 => k_is))
    case zzf50 => (refine' Rw.fun_of KX G ?za50 ?zl50 ?zc50 ?zk50; (case za50 => k_is); (case zl50 => k_is); (case zc50 => k_is); (case zk50 => k_is))
    case zzf51 => (refine' Rw.fun_of KX G ?za51 ?zl51 ?zc51 ?zk51; (case za51 => k_is); (case zl51 => k_is); (case zc51 => k_is); (case zk51 => k_is))
    case zzf52 => (refine' Rw.fun_of KX G ?za52 ?zl52 ?zc52 ?zk52; (case za52 => k_is); (case zl52 => k_is); (case zc52 => k_is); (case zk52 => k_is))
    case zzf53 => (refine' Rw.fun_of KX G ?za53 ?zl53 ?zc53 ?zk53; (case za53 => k_is); (case zl53 => k_is); (case zc53 => k_is); (case zk53 => k_is))
    case zzf54 => (refine' Rw.fun_of KX G ?za54 ?zl54 ?zc54 ?zk54; (case za54 => k_is); (case zl54 => k_is); (case zc54 => k_is); (case zk54 => k_is))
    case zzf55 => (refine' Rw.fun_of KX G ?za55 ?zl55 ?zc55 ?zk55; (case za55 => k_is); (case zl55 => k_is); (case zc55 => k_is); (case zk55 => k_is))
    case zzf56 => (refine' Rw.fun_of KX G ?za56 ?zl56 ?zc56 ?zk56; (case za56 => k_is); (case zl56 => k_is); (case zc56 => k_is); (case zk56 => k_is))
    case zzf57 => (refine' Rw.fun_of KX G ?za57 ?zl57 ?zc57 ?zk57; (case za57 => k_is); (case zl57 => k_is); (case zc57 => k_is); (case zk57 => k_is))
  case S =>
    intro K H xs a hO hwi hask hx
    cases hx with
    | cons h1 h2 =>
      cases h2
      cases h1 with
      | lst hs ha =>
        have e := L2.ints_dw a.1 _ ha
        subst e
        exact ⟨_, a.1, rfl, hs, hask, fun H' p hp => .lst (.inl hp) (L2.dw_ints _)⟩
